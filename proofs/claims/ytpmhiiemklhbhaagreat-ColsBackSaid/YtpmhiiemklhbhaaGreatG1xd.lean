/- Printed by a program of this session's own (gen.py): Lean functions for Go functions, and the proofs that the Go code comes to their answers. -/
import Derived.Test.YtpmhiiemklhbhaaGreatG1xc
import Derived.Test.YtpmhiiemklhbhaaGreatG1xb
import Derived.Test.YtpmhiiemklhbhaaGreatG1xa
set_option maxHeartbeats 4000000
set_option linter.unusedVariables false
set_option linter.unusedSimpArgs false
set_option maxRecDepth 20000
namespace Go.Proofs.YtpmhiiemklhbhaaGreat.S
open Go Go.Sm
attribute [local irreducible] T TL OpR CallT iter loop
noncomputable def walk_Range_row_Row_1_4.l1 (a1 : Int) (a3 : Int) (a4 : Int) (s9 : Int × (List wFr)) : Option (Lp (Int × (List wFr)) (Ex Unit (Unit ⊕ Int))) :=
  if s9.1 < a1 then
    bnd (walk_stack_row_Row_top s9.2) fun x18 =>
    bnd (idx s9.2 x18) fun x19 =>
    bnd (some x19.fN) fun q20 => match q20 with
      | none =>
        none
      | some z21 =>
        bnd (o_tNd z21) fun x23 =>
        bnd (if x19.fNext = (x23.fItems.length : Int) then
          bnd (walk_stack_row_Row_forth s9.2) fun x28 =>
          some x28.2
        else
          some s9.2 : Option (List wFr)) fun t25 =>
        bnd (walk_stack_row_Row_top t25) fun x30 =>
        bnd (idx t25 x30) fun x31 =>
        bnd (some x31.fN) fun q32 => match q32 with
          | none =>
            none
          | some z33 =>
            bnd (o_tNd z33) fun x35 =>
            bnd (idx x35.fItems x31.fNext) fun x37 =>
            bnd (walk_Index_row_Row_r0 s9.1 x37 a3 a4) fun x38 =>
            match x38 with
            | .inl x38 =>
                some (Lp.done (Ex.ret (Sum.inr x38)))
            | .inr x38 =>
                some (Lp.next (w64 (s9.1 + 1), (t25.set x30.toNat (⟨x31.fN, x31.fFirst, w64 (x31.fNext + 1)⟩ : wFr))))
  else
    some (Lp.done (Ex.brk ()))
noncomputable def walk_Range_row_Row_1_4 (a0 : Int) (a1 : Int) (a2 : Option NP) (a3 : Int) (a4 : Int) : Option (Unit ⊕ Int) :=
  if a0 = a1 then
    some (Sum.inl ())
  else
    bnd (tree_Tree_row_Row_Root (⟨a2⟩ : tTr)) fun x4 =>
    match x4 with
    | .inl x4 =>
        none
    | .inr x4 =>
        bnd (walk_stack_row_Row_down x4.1 x4.2.1 x4.2.2 0 a0) fun x5 =>
        bnd (loop (walk_Range_row_Row_1_4.l1 a1 a3 a4) (a0, x5) : Option (Ex Unit (Unit ⊕ Int))) fun t6 => match t6 with
          | .brk u7 =>
            some (Sum.inl ())
          | .ret u7 => some u7
theorem walk_Range_row_Row_1_4_c {a0 : Int} {a1 : Int} {a2 : Option NP} {a3 : Int} {a4 : Int} {b0 : Nat} {b1 : Nat} {b2 : Nat} {b3 : Nat} {b4 : Nat} {b5 : Nat} {res : Unit ⊕ Int} (h0 : walk_Range_row_Row_1_4 a0 a1 a2 a3 a4 = some res) : CallF X 146 [.fn (.yield b0) [] [], dP b1, dP b2, dP b3] [.lp b0 .ready none [14, 15] rfA76_0 rfB76_0 [(6, (dP b5)), (5, .nod [.fn (.func 77) [] [dP b4]])] 20, .var b1 [dN a0] 3, .var b2 [dN a1] 3, .var b3 [(eOP a2)] 25, .var b4 [dN a3] 3, .var b5 [dN a4] 3] (fun x => (match res with | .inl res => .tup [] | .inr res => .tup [])) (fun x => (match res with | .inl res => [.lp b0 .ready none [14, 15] rfA76_0 rfB76_0 [(6, (dP b5)), (5, .nod [.fn (.func 77) [] [dP b4]])] 20, .var b1 [dN a0] 3, .var b2 [dN a1] 3, .var b3 [(eOP a2)] 25, .var b4 [dN a3] 3, .var b5 [dN a4] 3] | .inr res => [.lp b0 .done (some (.ret)) [14, 15] rfA76_0 rfB76_0 [(6, (dP b5)), (5, .nod [.fn (.func 77) [] [dP b4]])] 20, .var b1 [dN a0] 3, .var b2 [dN a1] 3, .var b3 [(eOP a2)] 25, .var b4 [dN a3] 3, .var b5 [dN res] 3])) := by
 unfold walk_Range_row_Row_1_4 at h0
 refine CallF.mkG (X := X) rfl Tryz.func146 rfl rfl Tryz.ntmps146 rfl rfl ?_
 refine T.seq ?_
 refine aS ?_
 refine TL.op1 (OpR.loadPtr 1 rfl rfl rfl rfl) rfl ?_
 refine TL.op1 (OpR.loadPtr 2 rfl rfl rfl rfl) rfl ?_
 refine aA rfl rfl ?_
 refine aN rfl ?_
 rcases ite_some h0 with ⟨c1, h0⟩ | ⟨c1, h0⟩
 · refine T.condT rfl (beq_iff_eq.2 c1) ?_
   refine T.ret ?_
   obtain rfl := osi h0
   exact rO [0, 1, 2, 3, 4, 5] [] rfl undef ResL.nil rfl rfl rfl rfl
 refine T.condF rfl (beq_eq_false_iff_ne.2 c1) ?_
 refine aK rfl ?_
 refine aS ?_
 refine TL.op (OpR.alloc rfl rfl (fun _ => rfl)) rfl (fun p2 => ?_)
 refine aN rfl ?_
 refine T.seq ?_
 obtain ⟨x4, hx4, h0⟩ := bS h0
 rcases x4 with x4 | x4
 · dsimp only at h0
   exact (by cases h0)
 dsimp only at h0
 obtain ⟨x5, hx5, h0⟩ := bS h0
 refine T.drawS drawsX (fun env3 => [.agg [(eOP a2)], .nod [.sl 1 (List.map eNP x4.1), .sl 3 (List.map e_row_Row x4.2.1), dN x4.2.2], dN a0, .tup []]) (fun D env3 => [.lp b0 .ready none [14, 15] rfA76_0 rfB76_0 [(6, (dP b5)), (5, .nod [.fn (.func 77) [] [dP b4]])] 20, .var b1 [dN a0] 3, .var b2 [dN a1] 3, .var b3 [(eOP a2)] 25, .var b4 [dN a3] 3, .var b5 [dN a4] 3, (bif D 3 then .var (blk p2) [.val (vn (env3 3) 0)] 228 else .var (blk p2) [.val (.slice none 0 0)] 228)] ++ (bif D 3 then [.row (vn (env3 3) 0) (List.map e_wFr x5) 3 234] else [])) [0, 1, 0, 7] [0, 1, 2, 5] _ (by decide +kernel) (by decide +kernel) (fun _ => rfl) (fun _ => rfl) ?_ (fun _ => rfl) (fun _ => rfl) ?_
 · refine oT (.agg [(eOP a2)]) (fun _ _ => OpR.loadPtr 3 rfl rfl rfl rfl) ?_
   refine oT (.nod [.sl 1 (List.map eNP x4.1), .sl 3 (List.map e_row_Row x4.2.1), dN x4.2.2]) (fun _ _ => OpR.call0 fn148 (tree_Tree_row_Row_Root_cx2 hx4) rfl) ?_
   refine oT ((dN a0)) (fun _ _ => OpR.loadPtr 1 rfl rfl rfl rfl) ?_
   refine OpsS.cons' true ?_ (fun D hA env3 x j hj hD => match j, hj, hD with | 0, _, _ => rfl | 1, _, _ => rfl | 2, _, _ => rfl | 3, hj, _ => absurd rfl hj | _ + 4, _, _ => rfl) ?_
   · intro D env3 hA
     exact OpS.yp [(3, false)] ⟨hA.me, trivial⟩ (Want.plain rfl) (OpR.call [6] fn147 (walk_stack_row_Row_down_c hx5) rfl rfl rfl (fun _ => rfl)) (fun x => rfl) (fun x => rfl)
   exact trivial
 intro env3
 show T X _ _ _
 refine aS ?_
 refine TL.op1 (OpR.loadPtr 1 rfl rfl rfl rfl) rfl ?_
 refine aA rfl rfl ?_
 refine aN rfl ?_
 obtain ⟨t6, ht6, h0⟩ := bS h0
 refine T.cutN (fun S' => ∃ u7, t6 = Ex.brk u7 ∧ S' = ⟨[], [.lp b0 .ready none [14, 15] rfA76_0 rfB76_0 [(6, (dP b5)), (5, .nod [.fn (.func 77) [] [dP b4]])] 20, .var b1 [dN a0] 3, .var b2 [dN a1] 3, .var b3 [(eOP a2)] 25, .var b4 [dN a3] 3, .var b5 [dN a4] 3], 62⟩) (fun _ _ g ⟨h, S', ds, g', r⟩ => ⟨h, S', ds, Gst.trans g g', r⟩) ?_ ?_
 rotate_left
 · rintro _ ⟨u7, rfl, rfl⟩
   obtain rfl := osi h0
   exact PostG.finP (ks := [0, 1, 2, 3, 4, 5]) (Gst.only [] rfl) undef ResL.nil rfl rfl rfl rfl
 refine T.block ?_
 obtain ⟨n10, n15⟩ := loop_some ht6
 refine T.loop (fun n S' => ∃ S'', Gst S' S'' ∧ ∃ y8 : Value, ∃ s9 : Int × (List wFr), S'' = ⟨[(6, (dN s9.1)), (5, (dP (blk p2))), (2, (dP b2)), (0, .fn (.yield b0) [] [])], [.lp b0 .ready none [14, 15] rfA76_0 rfB76_0 [(6, (dP b5)), (5, .nod [.fn (.func 77) [] [dP b4]])] 20, .var b1 [dN a0] 3, .var b2 [dN a1] 3, .var b3 [(eOP a2)] 25, .var b4 [dN a3] 3, .var b5 [dN a4] 3, .var (blk p2) [.val y8] 228, .row y8 (List.map e_wFr s9.2) 3 234], 62⟩ ∧ iter (walk_Range_row_Row_1_4.l1 a1 a3 a4) n s9 = some t6) n10 ?_ ?_
 · exact ⟨_, Gst.only [0, 2, 5, 6] rfl, (vn (env3 3) 0), (a0, x5), rfl, n15⟩
 rintro n10 _ ⟨_, g, y8, s9, rfl, i14⟩
 refine T.ghost g ?_
 obtain ⟨m11, q12, rfl, q13, i14⟩ := iter_succ i14
 unfold walk_Range_row_Row_1_4.l1 at q13
 refine T.seq ?_
 refine aS ?_
 refine aA rfl rfl ?_
 refine TL.op1 (OpR.loadPtr 2 rfl rfl rfl rfl) rfl ?_
 refine aA rfl rfl ?_
 refine aN rfl ?_
 rcases ite_some q13 with ⟨c17, q13⟩ | ⟨c17, q13⟩
 rotate_left
 · refine T.condF rfl (eF c17) ?_
   refine T.exit ?_
   obtain rfl := osi q13
   obtain rfl : _ = _ := i14
   exact ⟨_, gP [] [0, 1, 2, 3, 4, 5] rfl rfl rfl, _, rfl, rfl⟩
 refine T.condT rfl (eT c17) ?_
 refine aK rfl ?_
 refine T.seq ?_
 refine T.block ?_
 refine T.seq ?_
 refine aS ?_
 obtain ⟨x18, hx18, q13⟩ := bS q13
 refine TL.op1 (OpR.call [6, 7] fn149 (walk_stack_row_Row_top_c hx18) rfl rfl rfl (fun _ => rfl)) rfl ?_
 refine aA rfl rfl ?_
 refine aN rfl ?_
 refine T.seq ?_
 obtain ⟨x19, hx19, q13⟩ := bS q13
 obtain ⟨q20, hq20, q13⟩ := bS q13
 rcases q20 with _ | z21
 · dsimp only at q13
   exact (by cases q13)
 dsimp only at q13
 obtain ⟨x23, hx23, q13⟩ := bS q13
 rw [o_tNd_eq hx23] at hq20
 refine T.drawQ drawsX [.val (.pointer (some ⟨blk y8, x18.toNat * 3, none⟩)), .val (.pointer (some ⟨blk y8, x18.toNat * 3, none⟩)), .val (.pointer (some ⟨blk y8, x18.toNat * 3 + 2, none⟩)), dN x19.fNext, .val (.pointer (some ⟨blk y8, x18.toNat * 3, none⟩)), .val (.pointer (some ⟨blk y8, x18.toNat * 3, none⟩)), .val (.pointer (some ⟨blk y8, x18.toNat * 3, none⟩)), .nod [.sl 1 (List.map eNP x23.fKids), .sl 3 (List.map e_row_Row x23.fItems), dN x23.fN], .nod [.sl 1 (List.map eNP x23.fKids), .sl 3 (List.map e_row_Row x23.fItems), dN x23.fN], .nod [.sl 3 (List.map e_row_Row x23.fItems), dN x23.fN], .sl 3 (List.map e_row_Row x23.fItems), dN (x23.fItems.length : Int), dT (x19.fNext == (x23.fItems.length : Int))] [0, 2, 5, 6, 35] (by decide +kernel) rfl ?_ rfl ?_
 · iterate 3 refine aB rfl rfl rfl ?_
   refine OpsQ.yes (Want.plain rfl) rfl (OpR.rowLoadM (j := x18) e_wFr 7 hx19 rfl rfl rfl rfl) ?_
   iterate 3 refine aB rfl rfl rfl ?_
   refine OpsQ.yes (Want.plain rfl) rfl (OpR.cast (OpR.rowLoad0M (j := x18) e_wFr 7 hx19 rfl rfl rfl rfl) (congrArg eOP (osi hq20))) ?_
   iterate 3 refine aB rfl rfl rfl ?_
   refine OpsQ.yes (Want.plain rfl) rfl (OpR.cast (OpR.pure rfl) (intE (lenM _ _))) ?_
   refine aB rfl rfl rfl ?_
   exact OpsQ.nil
 show T X _ _ _
 obtain ⟨t25, ht25, q13⟩ := bS q13
 refine T.cutC (fun S' => ∃ y26 : Value, S' = ⟨[(6, (dN s9.1)), (5, (dP (blk p2))), (2, (dP b2)), (0, .fn (.yield b0) [] [])], [.lp b0 .ready none [14, 15] rfA76_0 rfB76_0 [(6, (dP b5)), (5, .nod [.fn (.func 77) [] [dP b4]])] 20, .var b1 [dN a0] 3, .var b2 [dN a1] 3, .var b3 [(eOP a2)] 25, .var b4 [dN a3] 3, .var b5 [dN a4] 3, .var (blk p2) [.val y26] 228, .row y26 (List.map e_wFr t25) 3 234], 62⟩) (fun _ h => h) ?_ ?_
 · rcases ite_some ht25 with ⟨c27, ht25⟩ | ⟨c27, ht25⟩
   rotate_left
   · refine T.condF rfl (beq_eq_false_iff_ne.2 c27) ?_
     refine T.skip ?_
     obtain rfl := osi ht25
     exact ⟨_, Gst.only [0, 2, 5, 6] rfl, y8, rfl⟩
   refine T.condT rfl (beq_iff_eq.2 c27) ?_
   refine T.region ?_
   obtain ⟨x28, hx28, ht25⟩ := bS ht25
   refine TL.op (OpR.call [6, 7] fn150 (walk_stack_row_Row_forth_c hx28) rfl rfl rfl (fun _ => rfl)) rfl (fun w29 => ?_)
   refine TL.nil ?_
   obtain rfl := osi ht25
   exact ⟨_, Gst.only [0, 2, 5, 6] rfl, (vn w29 0), rfl⟩
 rintro _ ⟨y26, rfl⟩
 show T X _ _ _
 refine aS ?_
 obtain ⟨x30, hx30, q13⟩ := bS q13
 refine TL.op1 (OpR.call [6, 7] fn149 (walk_stack_row_Row_top_c hx30) rfl rfl rfl (fun _ => rfl)) rfl ?_
 refine aA rfl rfl ?_
 refine aN rfl ?_
 refine T.seq ?_
 refine T.seq ?_
 obtain ⟨x31, hx31, q13⟩ := bS q13
 obtain ⟨q32, hq32, q13⟩ := bS q13
 rcases q32 with _ | z33
 · dsimp only at q13
   exact (by cases q13)
 dsimp only at q13
 obtain ⟨x35, hx35, q13⟩ := bS q13
 rw [o_tNd_eq hx35] at hq32
 obtain ⟨x37, hx37, q13⟩ := bS q13
 obtain ⟨x38, hx38, q13⟩ := bS q13
 rcases x38 with x38 | x38
 rotate_left
 · dsimp only at q13
   refine T.drawQ drawsX [.fn (.yield b0) [] [], dN s9.1, .val (.pointer (some ⟨blk y26, x30.toNat * 3, none⟩)), .val (.pointer (some ⟨blk y26, x30.toNat * 3, none⟩)), .val (.pointer (some ⟨blk y26, x30.toNat * 3, none⟩)), .nod [.sl 1 (List.map eNP x35.fKids), .sl 3 (List.map e_row_Row x35.fItems), dN x35.fN], .nod [.sl 1 (List.map eNP x35.fKids), .sl 3 (List.map e_row_Row x35.fItems), dN x35.fN], .nod [.sl 3 (List.map e_row_Row x35.fItems), dN x35.fN], .sl 3 (List.map e_row_Row x35.fItems), .val (.pointer (some ⟨blk y26, x30.toNat * 3, none⟩)), .val (.pointer (some ⟨blk y26, x30.toNat * 3, none⟩)), .val (.pointer (some ⟨blk y26, x30.toNat * 3 + 2, none⟩)), dN x31.fNext, .nod [.sl 5 (List.map e_cell_Cell x37.fCells), dN x37.fEnd, dT x37.fHidden], .agg [.sl 5 (List.map e_cell_Cell x37.fCells), dN x37.fEnd, dT x37.fHidden], dT true, dT false] [0, 2, 5, 6, 8, 54] (by decide +kernel) rfl ?_ rfl ?_
   rotate_left
   · show T X _ _ _
     refine T.condF rfl rfl ?_
     refine aK rfl ?_
     refine T.region ?_
     iterate 3 refine aA rfl rfl ?_
     refine TL.op1 (OpR.rowLoadM (j := x30) e_wFr 7 hx31 rfl rfl rfl rfl) rfl ?_
     iterate 3 refine aA rfl rfl ?_
     refine TL.op0 (OpR.rowStoreM (j := x30) e_wFr (⟨x31.fN, x31.fFirst, w64 (x31.fNext + 1)⟩ : wFr) 7 hx31 rfl rfl rfl rfl rfl rfl rfl rfl rfl) ?_
     refine aN rfl ?_
     refine T.region ?_
     iterate 3 refine aA rfl rfl ?_
     refine TL.nil ?_
     obtain rfl := osi q13
     exact ⟨m11, Nat.lt_succ_self _, _, Gst.only [0, 2, 5, 6] rfl, y26, (w64 (s9.1 + 1), (t25.set x30.toNat (⟨x31.fN, x31.fFirst, w64 (x31.fNext + 1)⟩ : wFr))), rfl, i14⟩
   iterate 5 refine aB rfl rfl rfl ?_
   refine OpsQ.yes (Want.plain rfl) rfl (OpR.cast (OpR.rowLoad0M (j := x30) e_wFr 7 hx31 rfl rfl rfl rfl) (congrArg eOP (osi hq32))) ?_
   iterate 6 refine aB rfl rfl rfl ?_
   refine OpsQ.yes (Want.plain rfl) rfl (OpR.rowLoadM (j := x30) e_wFr 7 hx31 rfl rfl rfl rfl) ?_
   refine OpsQ.yes (Want.plain rfl) rfl (OpR.indexM e_row_Row hx37 rfl rfl rfl rfl rfl) ?_
   refine aB rfl rfl rfl ?_
   refine OpsQ.yes (Want.plain rfl) rfl (OpR.callY [0, 4, 5] rfl (walk_Index_row_Row_r0_cx2 hx38) rfl rfl rfl (fun _ => rfl)) ?_
   refine aB rfl rfl rfl ?_
   exact OpsQ.nil
 dsimp only at q13
 refine T.drawS drawsX (fun env36 => [.fn (.yield b0) [] [], dN s9.1, .val (.pointer (some ⟨blk y26, x30.toNat * 3, none⟩)), .val (.pointer (some ⟨blk y26, x30.toNat * 3, none⟩)), .val (.pointer (some ⟨blk y26, x30.toNat * 3, none⟩)), .nod [.sl 1 (List.map eNP x35.fKids), .sl 3 (List.map e_row_Row x35.fItems), dN x35.fN], .nod [.sl 1 (List.map eNP x35.fKids), .sl 3 (List.map e_row_Row x35.fItems), dN x35.fN], .nod [.sl 3 (List.map e_row_Row x35.fItems), dN x35.fN], .sl 3 (List.map e_row_Row x35.fItems), .val (.pointer (some ⟨blk y26, x30.toNat * 3, none⟩)), .val (.pointer (some ⟨blk y26, x30.toNat * 3, none⟩)), .val (.pointer (some ⟨blk y26, x30.toNat * 3 + 2, none⟩)), dN x31.fNext, .nod [.sl 5 (List.map e_cell_Cell x37.fCells), dN x37.fEnd, dT x37.fHidden], .agg [.sl 5 (List.map e_cell_Cell x37.fCells), dN x37.fEnd, dT x37.fHidden], dT false, dT true]) (fun D env36 => [(bif D 15 then .lp b0 .done (some (.ret)) [14, 15] rfA76_0 rfB76_0 [(6, (dP b5)), (5, .nod [.fn (.func 77) [] [dP b4]])] 20 else .lp b0 .ready none [14, 15] rfA76_0 rfB76_0 [(6, (dP b5)), (5, .nod [.fn (.func 77) [] [dP b4]])] 20), .var b1 [dN a0] 3, .var b2 [dN a1] 3, .var b3 [(eOP a2)] 25, .var b4 [dN a3] 3, (bif D 15 then .var b5 [dN x38] 3 else .var b5 [dN a4] 3), .var (blk p2) [.val y26] 228, .row y26 (List.map e_wFr t25) 3 234]) [0, 0, 0, 4, 12, 28, 60, 124, 252, 0, 512, 1536, 3584, 8188, 16380, 32767, 65535] [0, 2, 5, 6, 8, 54] _ (by decide +kernel) (by decide +kernel) (fun _ => rfl) (fun _ => rfl) ?_ (fun _ => rfl) (fun _ => rfl) ?_
 rotate_left
 · intro env36
   show T X _ _ _
   refine T.condT rfl rfl ?_
   refine T.ret ?_
   obtain rfl := osi q13
   obtain rfl : _ = _ := i14
   obtain rfl := osi h0
   exact rP [0, 1, 2, 3, 4, 5] [] [0, 1, 2, 3, 4, 5] rfl rfl rfl undef ResL.nil rfl rfl rfl rfl
 iterate 5 refine aC ?_
 refine oT (.nod [.sl 1 (List.map eNP x35.fKids), .sl 3 (List.map e_row_Row x35.fItems), dN x35.fN]) (fun _ _ => OpR.cast (OpR.rowLoad0M (j := x30) e_wFr 7 hx31 rfl rfl rfl rfl) (congrArg eOP (osi hq32))) ?_
 iterate 6 refine aC ?_
 refine oT ((dN x31.fNext)) (fun _ _ => OpR.rowLoadM (j := x30) e_wFr 7 hx31 rfl rfl rfl rfl) ?_
 refine oT (.nod [.sl 5 (List.map e_cell_Cell x37.fCells), dN x37.fEnd, dT x37.fHidden]) (fun _ _ => OpR.indexM e_row_Row hx37 rfl rfl rfl rfl rfl) ?_
 refine aC ?_
 refine OpsS.cons' true ?_ (fun _ _ _ _ _ _ _ => rfl) ?_
 · intro D env36 hA
   exact OpS.yp [(15, false)] ⟨hA.me, trivial⟩ (Want.plain rfl) (OpR.callY [0, 4, 5] rfl (walk_Index_row_Row_r0_cx1 hx38) rfl rfl rfl (fun _ => rfl)) (fun x => rfl) (fun x => rfl)
 refine aC ?_
 exact trivial
theorem walk_Range_row_Row_1_4_cx1 {a0 : Int} {a1 : Int} {a2 : Option NP} {a3 : Int} {a4 : Int} {b0 : Nat} {b1 : Nat} {b2 : Nat} {b3 : Nat} {b4 : Nat} {b5 : Nat} {res : Unit} (h0 : walk_Range_row_Row_1_4 a0 a1 a2 a3 a4 = some (Sum.inl res)) : CallF X 146 [.fn (.yield b0) [] [], dP b1, dP b2, dP b3] [.lp b0 .ready none [14, 15] rfA76_0 rfB76_0 [(6, (dP b5)), (5, .nod [.fn (.func 77) [] [dP b4]])] 20, .var b1 [dN a0] 3, .var b2 [dN a1] 3, .var b3 [(eOP a2)] 25, .var b4 [dN a3] 3, .var b5 [dN a4] 3] (fun x => .tup []) (fun x => [.lp b0 .ready none [14, 15] rfA76_0 rfB76_0 [(6, (dP b5)), (5, .nod [.fn (.func 77) [] [dP b4]])] 20, .var b1 [dN a0] 3, .var b2 [dN a1] 3, .var b3 [(eOP a2)] 25, .var b4 [dN a3] 3, .var b5 [dN a4] 3]) := walk_Range_row_Row_1_4_c h0
theorem walk_Range_row_Row_1_4_cx2 {a0 : Int} {a1 : Int} {a2 : Option NP} {a3 : Int} {a4 : Int} {b0 : Nat} {b1 : Nat} {b2 : Nat} {b3 : Nat} {b4 : Nat} {b5 : Nat} {res : Int} (h0 : walk_Range_row_Row_1_4 a0 a1 a2 a3 a4 = some (Sum.inr res)) : CallF X 146 [.fn (.yield b0) [] [], dP b1, dP b2, dP b3] [.lp b0 .ready none [14, 15] rfA76_0 rfB76_0 [(6, (dP b5)), (5, .nod [.fn (.func 77) [] [dP b4]])] 20, .var b1 [dN a0] 3, .var b2 [dN a1] 3, .var b3 [(eOP a2)] 25, .var b4 [dN a3] 3, .var b5 [dN a4] 3] (fun x => .tup []) (fun x => [.lp b0 .done (some (.ret)) [14, 15] rfA76_0 rfB76_0 [(6, (dP b5)), (5, .nod [.fn (.func 77) [] [dP b4]])] 20, .var b1 [dN a0] 3, .var b2 [dN a1] 3, .var b3 [(eOP a2)] 25, .var b4 [dN a3] 3, .var b5 [dN res] 3]) := walk_Range_row_Row_1_4_c h0
noncomputable def walk_Index_row_Row (a0 : tTr) (a1 : Int) (a2 : Int) : Option Int :=
  bnd (tree_Tree_row_Row_Len a0) fun x3 =>
  bnd (walk_Range_row_Row a0 a1 x3) fun x4 =>
  bnd (walk_Range_row_Row_1_4 x4.1 x4.2.1 x4.2.2 a2 0) fun x6 =>
  match x6 with
  | .inl x6 =>
      some (-1)
  | .inr x6 =>
      some x6
theorem walk_Index_row_Row_c {a0 : tTr} {a1 : Int} {a2 : Int} {b0 : Nat} {res : Int} (h0 : walk_Index_row_Row a0 a1 a2 = some res) : CallF X 76 [.agg [(eOP a0.fRoot)], dN a1, .fn (.func 77) [] [dP b0]] [.var b0 [dN a2] 3] (fun x => (dN res)) (fun x => [.var b0 [dN a2] 3]) := by
 unfold walk_Index_row_Row at h0
 refine CallF.mkG (X := X) rfl Tryz.func76 rfl rfl Tryz.ntmps76 rfl rfl ?_
 refine aS ?_
 refine TL.op1 (OpR.boxImm rfl rfl) rfl ?_
 refine TL.op1 (OpR.boxImm rfl rfl) rfl ?_
 refine TL.op (OpR.alloc rfl rfl (fun _ => rfl)) rfl (fun p1 => ?_)
 refine aN rfl ?_
 refine T.seq ?_
 refine T.seq ?_
 obtain ⟨x3, hx3, h0⟩ := bS h0
 obtain ⟨x4, hx4, h0⟩ := bS h0
 refine T.drawS drawsX (fun env2 => [.agg [(eOP a0.fRoot)], dN a1, .agg [(eOP a0.fRoot)], dN x3, .fn (.func 146) [] [dP (blk (vn (env2 4) 0)), dP (blk (vn (env2 4) 1)), dP (blk (vn (env2 4) 2))]]) (fun D env2 => [.var b0 [dN a2] 3, .var (blk p1) [dN 0] 3] ++ (bif D 4 then [.var (blk (vn (env2 4) 0)) [dN x4.1] 3] else []) ++ (bif D 4 then [.var (blk (vn (env2 4) 1)) [dN x4.2.1] 3] else []) ++ (bif D 4 then [.var (blk (vn (env2 4) 2)) [(eOP x4.2.2)] 25] else [])) [0, 0, 0, 4, 15] [5, 6, 13] _ (by decide +kernel) (by decide +kernel) (fun _ => rfl) (fun _ => rfl) ?_ (fun _ => rfl) (fun _ => rfl) ?_
 · iterate 3 refine aC ?_
   refine oT ((dN x3)) (fun _ _ => OpR.call0 fn79 (tree_Tree_row_Row_Len_c hx3) rfl) ?_
   refine OpsS.cons' true ?_ (fun D hA env2 x j hj hD => match j, hj, hD with | 0, _, _ => rfl | 1, _, _ => rfl | 2, _, _ => rfl | 3, _, _ => rfl | 4, hj, _ => absurd rfl hj | _ + 5, _, _ => rfl) ?_
   · intro D env2 hA
     exact OpS.yp [(4, false)] ⟨hA.me, trivial⟩ (Want.plain rfl) (OpR.call [] fn80 (walk_Range_row_Row_c hx4) rfl rfl rfl (fun _ => rfl)) (fun x => rfl) (fun x => rfl)
   exact trivial
 intro env2
 show T X _ _ _
 refine T.block ?_
 obtain ⟨x6, hx6, h0⟩ := bS h0
 rcases x6 with x6 | x6
 rotate_left
 · dsimp only at h0
   refine T.rangeJ (A := rfA76_0) (B := rfB76_0) (.ret) [5, 6] [2, 3, 4, 0, 1] (.inl rfl) rfl rfl rfl rfl rfl fn146 rfl rfl (fun l5 => (walk_Range_row_Row_1_4_cx2 hx6)) (fun _ => rfl) (fun w8 => ?_)
   refine T.ret ?_
   obtain rfl := osi h0
   exact rP [0] [6] [0, 1] rfl rfl rfl undef (cV 1 rfl rfl rfl rfl ResL.nil) rfl rfl rfl rfl
 dsimp only at h0
 refine T.rangeN (A := rfA76_0) (B := rfB76_0) [5, 6] [2, 3, 4, 0, 1] (.inl rfl) rfl rfl rfl rfl rfl fn146 rfl rfl (fun l5 => (walk_Range_row_Row_1_4_cx1 hx6)) (fun _ => rfl) (fun w7 => ?_)
 show T X _ _ _
 refine aS ?_
 refine TL.op0 (OpR.store 1 rfl rfl rfl rfl rfl rfl rfl rfl) ?_
 refine aN rfl ?_
 refine T.ret ?_
 obtain rfl := osi h0
 exact rP [0] [6] [0, 1] rfl rfl rfl undef (cV 1 rfl rfl rfl rfl ResL.nil) rfl rfl rfl rfl
noncomputable def cols_Even (a0 : grid_Grid) : Option Bool :=
  bnd (grid_Grid_Width a0) fun x1 =>
  bnd (walk_Index_row_Row a0.fRows 0 x1) fun x3 =>
  some (decide (x3 < 0))
theorem cols_Even_c {a0 : grid_Grid} {res : Bool} (h0 : cols_Even a0 = some res) : CallF X 20 [.agg [(eOP a0.fRows.fRoot), dT a0.fTail, dN a0.fEnd]] [] (fun x => (dT res)) (fun x => []) := by
 unfold cols_Even at h0
 refine CallF.mkG (X := X) rfl Tryz.func20 rfl rfl Tryz.ntmps20 rfl rfl ?_
 refine aS ?_
 refine TL.op1 (OpR.boxImm rfl rfl) rfl ?_
 refine aA rfl rfl ?_
 refine aN rfl ?_
 refine aS ?_
 refine aA rfl rfl ?_
 obtain ⟨x1, hx1, h0⟩ := bS h0
 refine TL.op1 (OpR.call0 fn23 (grid_Grid_Width_c hx1) rfl) rfl ?_
 refine TL.op (OpR.alloc rfl rfl (fun _ => rfl)) rfl (fun p2 => ?_)
 refine TL.op0 (OpR.store 0 rfl rfl rfl rfl rfl rfl rfl rfl) ?_
 refine aN rfl ?_
 refine aS ?_
 iterate 3 refine aA rfl rfl ?_
 obtain ⟨x3, hx3, h0⟩ := bS h0
 refine TL.op1 (OpR.call [0] fn76 (walk_Index_row_Row_c hx3) rfl rfl rfl (fun _ => rfl)) rfl ?_
 iterate 2 refine aA rfl rfl ?_
 refine aN rfl ?_
 refine T.ret ?_
 obtain rfl := osi h0
 exact rP [] [2] [] rfl rfl rfl undef (cT rfl ResL.nil) rfl rfl rfl rfl
noncomputable def law07_Plain (a0 : cell_Cell) (a1 : List UInt8) : Option ref07_Cell :=
  bnd (cell_Cell_Bytes a0 a1) fun x3 =>
  bnd (if a0.fKept = true then
    bnd (arena_Arena_Bytes a0.fRaw a1) fun x6 =>
    some x6
  else
    some [] : Option (List UInt8)) fun t4 =>
  some (⟨x3, t4, a0.fKept⟩ : ref07_Cell)
theorem law07_Plain_c {a0 : cell_Cell} {a1 : List UInt8} {b0 : Nat} {v1 : Value} {res : ref07_Cell} (h0 : law07_Plain a0 a1 = some res) : CallF X 144 [dP b0, .agg [.sl 2 (List.map e_arena_Span a0.fText.fL), dN a0.fText.fN, dN a0.fRaw.fAt, dN a0.fRaw.fN, dT a0.fKept]] [.var b0 [.val v1] 264, .row v1 (lB a1) 1 5] (fun x => .agg [.val (.string (bs res.fS)), .val (.string (bs res.fRaw)), dT res.fKept]) (fun x => [.var b0 [.val v1] 264, .row v1 (lB a1) 1 5]) := by
 unfold law07_Plain at h0
 refine CallF.mkG (X := X) rfl Tryz.func144 rfl rfl Tryz.ntmps144 rfl rfl ?_
 refine aS ?_
 refine TL.op1 (OpR.boxImm rfl rfl) rfl ?_
 refine TL.op (OpR.alloc rfl rfl (fun _ => rfl)) rfl (fun p1 => ?_)
 refine aN rfl ?_
 refine T.seq ?_
 obtain ⟨x3, hx3, h0⟩ := bS h0
 refine T.drawS drawsX (fun env2 => [.agg [.sl 2 (List.map e_arena_Span a0.fText.fL), dN a0.fText.fN, dN a0.fRaw.fAt, dN a0.fRaw.fN, dT a0.fKept], dP b0, .sl 1 (lB x3), .val (.string (bs x3)), .nod [dT a0.fKept], dT a0.fKept, .agg [.val (.string (bs x3)), .val (.string (bs [])), dT a0.fKept], dP (blk (env2 7)), .dead]) (fun D env2 => [.var b0 [.val v1] 264, .row v1 (lB a1) 1 5, .var (blk p1) [.val (.string (bs [])), .val (.string (bs [])), dT false] 151] ++ (bif D 7 then [(bif D 8 then .var (blk (env2 7)) [.val (.string (bs x3)), .val (.string (bs [])), dT a0.fKept] 151 else .var (blk (env2 7)) [.val (.string (bs [])), .val (.string (bs [])), dT false] 151)] else [])) [0, 0, 3, 7, 0, 16, 63, 0, 255] [0, 3, 4, 5] _ (by decide +kernel) (by decide +kernel) (fun _ => rfl) (fun _ => rfl) ?_ (fun _ => rfl) (fun _ => rfl) ?_
 rotate_left
 · intro env2
   show T X _ _ _
   refine T.seq ?_
   refine aS ?_
   iterate 2 refine aA rfl rfl ?_
   refine aN rfl ?_
   obtain ⟨t4, ht4, h0⟩ := bS h0
   refine T.cutC (fun S' => S' = ⟨[(5, (dP (blk (env2 7)))), (4, (dP (blk p1)))], [.var b0 [.val v1] 264, .row v1 (lB a1) 1 5, .var (blk p1) [.val (.string (bs [])), .val (.string (bs [])), dT false] 151, .var (blk (env2 7)) [.val (.string (bs x3)), .val (.string (bs t4)), dT a0.fKept] 151], 22⟩) (fun _ h => h) ?_ ?_
   rotate_left
   · rintro _ rfl
     show T X _ _ _
     refine aS ?_
     refine TL.op1 (OpR.loadPtr 3 rfl rfl rfl rfl) rfl ?_
     refine TL.op0 (OpR.store 2 rfl rfl rfl rfl rfl rfl rfl rfl) ?_
     refine aN rfl ?_
     refine T.ret ?_
     obtain rfl := osi h0
     exact rP [0, 1] [4] [0, 1, 2] rfl rfl rfl undef (cV 2 rfl rfl rfl rfl ResL.nil) rfl rfl rfl rfl
   rcases ite_some ht4 with ⟨c5, ht4⟩ | ⟨c5, ht4⟩
   rotate_left
   · refine T.condF rfl (eq_false_of_ne_true c5) ?_
     refine T.skip ?_
     obtain rfl := osi ht4
     exact ⟨_, Gst.only [4, 5] rfl, rfl⟩
   refine T.condT rfl (c5) ?_
   refine T.region ?_
   iterate 3 refine aA rfl rfl ?_
   obtain ⟨x6, hx6, ht4⟩ := bS ht4
   refine TL.op1 (OpR.call [0, 1] fn201 (arena_Arena_Bytes_c hx6) rfl rfl rfl (fun _ => rfl)) rfl ?_
   refine TL.op1 (OpR.toStr (bs := x6) rfl rfl rfl rfl rfl rfl rfl) rfl ?_
   refine aA rfl rfl ?_
   refine TL.op0 (OpR.store 3 rfl rfl rfl rfl rfl rfl rfl rfl) ?_
   refine TL.nil ?_
   obtain rfl := osi ht4
   exact ⟨_, Gst.only [4, 5] rfl, rfl⟩
 iterate 2 refine aC ?_
 refine OpsS.cons' true ?_ (fun _ _ _ _ _ _ _ => rfl) ?_
 · intro D env2 hA
   have e8 : D 8 = false := hA.no 8 _ rfl rfl
   rcases Bool.eq_false_or_eq_true (D 7) with e7 | e7
   · exact OpS.yp [(8, false), (7, true)] ⟨e8, e7, trivial⟩ (Want.plain rfl) (OpR.call [0, 1] fn113 (cell_Cell_Bytes_c hx3) rfl rfl rfl (fun _ => rfl)) (fun x => rfl) (fun x => rfl)
   exact OpS.yp [(8, false), (7, false)] ⟨e8, e7, trivial⟩ (Want.plain rfl) (OpR.call [0, 1] fn113 (cell_Cell_Bytes_c hx3) rfl rfl rfl (fun _ => rfl)) (fun x => rfl) (fun x => rfl)
 refine oT (.val (.string (bs x3))) (fun _ _ => OpR.toStr (bs := x3) rfl rfl rfl rfl rfl rfl rfl) ?_
 iterate 2 refine aC ?_
 refine oT (.agg [.val (.string (bs x3)), .val (.string (bs [])), dT a0.fKept]) (fun _ _ => OpR.build rfl rfl rfl rfl rfl) ?_
 refine OpsS.cons' true ?_ (fun D hA env2 x j hj hD => match j, hj, hD with | 0, _, _ => rfl | 1, _, _ => rfl | 2, _, _ => rfl | 3, _, _ => rfl | 4, _, _ => rfl | 5, _, _ => rfl | 6, _, _ => rfl | 7, hj, _ => absurd rfl hj | 8, _, _ => rfl | _ + 9, _, _ => rfl) ?_
 · intro D env2 hA
   have e8 : D 8 = false := hA.no 8 _ rfl rfl
   exact OpS.yp [(8, false), (7, false)] ⟨e8, hA.me, trivial⟩ (Want.plain rfl) (OpR.alloc rfl rfl (fun _ => rfl)) (fun x => rfl) (fun x => rfl)
 refine OpsS.cons' true ?_ (fun _ _ _ _ _ _ _ => rfl) ?_
 · intro D env2 hA
   have e7 : D 7 = true := hA.yes 7 _ rfl rfl
   exact OpS.yp [(7, true), (8, false)] ⟨e7, hA.me, trivial⟩ (Want.plain rfl) (OpR.store 3 rfl rfl rfl rfl rfl rfl rfl rfl) (fun x => rfl) (fun x => rfl)
 exact trivial
noncomputable def law08_Plain.l1 (a0 : row_Row) (a1 : List UInt8) (s6 : Int × (List ref07_Cell)) : Option (Lp (Int × (List ref07_Cell)) (List ref07_Cell)) :=
  if s6.1 < (a0.fCells.length : Int) then
    bnd (idx a0.fCells s6.1) fun x15 =>
    bnd (law07_Plain x15 a1) fun x18 =>
    bnd (app 40 s6.2 [x18]) fun x19 =>
    some (Lp.next (w64 (s6.1 + 1), x19))
  else
    some (Lp.done s6.2)
noncomputable def law08_Plain (a0 : row_Row) (a1 : List UInt8) : Option ref08_Row :=
  bnd (loop (law08_Plain.l1 a0 a1) (0, []) : Option (List ref07_Cell)) fun t3 =>
  some (⟨t3, a0.fEnd, a0.fHidden⟩ : ref08_Row)
theorem law08_Plain_c {a0 : row_Row} {a1 : List UInt8} {b0 : Nat} {v1 : Value} {res : ref08_Row} (h0 : law08_Plain a0 a1 = some res) : CallF X 75 [dP b0, .agg [.sl 5 (List.map e_cell_Cell a0.fCells), dN a0.fEnd, dT a0.fHidden]] [.var b0 [.val v1] 264, .row v1 (lB a1) 1 5] (fun x => .agg [.sl 3 (List.map e_ref07_Cell res.fCells), dN res.fEnd, dT res.fHidden]) (fun x => [.var b0 [.val v1] 264, .row v1 (lB a1) 1 5]) := by
 unfold law08_Plain at h0
 refine CallF.mkG (X := X) rfl Tryz.func75 rfl rfl Tryz.ntmps75 rfl rfl ?_
 refine aS ?_
 refine TL.op1 (OpR.boxImm rfl rfl) rfl ?_
 refine TL.op (OpR.alloc rfl rfl (fun _ => rfl)) rfl (fun p1 => ?_)
 refine aN rfl ?_
 refine aS ?_
 iterate 4 refine aA rfl rfl ?_
 refine TL.op1 (OpR.build rfl rfl rfl rfl rfl) rfl ?_
 refine TL.op (OpR.alloc rfl rfl (fun _ => rfl)) rfl (fun p2 => ?_)
 refine TL.op0 (OpR.store 3 rfl rfl rfl rfl rfl rfl rfl rfl) ?_
 refine aN rfl ?_
 refine T.seq ?_
 refine aS ?_
 iterate 2 refine aA rfl rfl ?_
 refine TL.op1 (OpR.cast (OpR.pure rfl) (intE (lenM _ _))) rfl ?_
 refine aA rfl rfl ?_
 refine aN rfl ?_
 obtain ⟨t3, ht3, h0⟩ := bS h0
 refine T.cutC (fun S' => ∃ y4 : Value, S' = ⟨[(5, (dP (blk p2))), (4, (dP (blk p1)))], [.var b0 [.val v1] 264, .row v1 (lB a1) 1 5, .var (blk p1) [.val (.slice none 0 0), dN 0, dT false] 60, .var (blk p2) [.val y4, dN a0.fEnd, dT a0.fHidden] 60, .row y4 (List.map e_ref07_Cell t3) 3 151], 30⟩) (fun _ h => h) ?_ ?_
 rotate_left
 · rintro _ ⟨y4, rfl⟩
   show T X _ _ _
   refine aS ?_
   refine TL.op1 (OpR.loadPtr 3 rfl rfl rfl rfl) rfl ?_
   refine TL.op0 (OpR.store 2 rfl rfl rfl rfl rfl rfl rfl rfl) ?_
   refine aN rfl ?_
   refine T.ret ?_
   obtain rfl := osi h0
   exact PostG.retP (ks := [0, 1]) (Gst.trans (Gst.only [4] rfl) (Gst.trans (Gst.freezeRow 4 rfl rfl (ReS.cons Re.refl ReS.nil) (ReO.same (ReO.same (ReO.var (ReL.cons (Re.base .all) (ReL.cons Re.refl (ReL.cons Re.refl ReL.nil))) (ReO.var (ReL.cons (Re.base .all) (ReL.cons Re.refl (ReL.cons Re.refl ReL.nil))) (ReO.same ReO.nil)))))) (Gst.pick [0, 1, 2] rfl rfl))) undef (cV 2 rfl rfl rfl rfl ResL.nil) rfl rfl rfl rfl
 refine T.block ?_
 obtain ⟨n7, n12⟩ := loop_some ht3
 refine T.loop (fun n S' => ∃ S'', Gst S' S'' ∧ ∃ y5 : Value, ∃ s6 : Int × (List ref07_Cell), S'' = ⟨[(16, (dN s6.1)), (15, (dN (a0.fCells.length : Int))), (14, .sl 5 (List.map e_cell_Cell a0.fCells)), (5, (dP (blk p2))), (4, (dP (blk p1))), (0, (dP b0))], [.var b0 [.val v1] 264, .row v1 (lB a1) 1 5, .var (blk p1) [.val (.slice none 0 0), dN 0, dT false] 60, .var (blk p2) [.val y5, dN a0.fEnd, dT a0.fHidden] 60, .row y5 (List.map e_ref07_Cell s6.2) 3 151], 30⟩ ∧ iter (law08_Plain.l1 a0 a1) n s6 = some t3) n7 ?_ ?_
 · exact ⟨_, Gst.trans (Gst.only [0, 4, 5, 14, 15, 16] rfl) (Gst.nilRow (ow := [.var b0 [.val v1] 264, .row v1 (lB a1) 1 5, .var (blk p1) [.val (.slice none 0 0), dN 0, dT false] 60, .var (blk p2) [.val (.slice none 0 0), dN a0.fEnd, dT a0.fHidden] 60]) 3 151 rfl), (.slice none 0 0), (0, []), rfl, n12⟩
 rintro n7 _ ⟨_, g, y5, s6, rfl, i11⟩
 refine T.ghost g ?_
 obtain ⟨m8, q9, rfl, q10, i11⟩ := iter_succ i11
 unfold law08_Plain.l1 at q10
 refine aS ?_
 refine aA rfl rfl ?_
 refine aN rfl ?_
 refine T.seq ?_
 rcases ite_some q10 with ⟨c14, q10⟩ | ⟨c14, q10⟩
 rotate_left
 · refine T.condF rfl (eF c14) ?_
   refine T.exit ?_
   obtain rfl := osi q10
   obtain rfl : _ = _ := i11
   exact ⟨_, Gst.only [4, 5] rfl, y5, rfl⟩
 refine T.condT rfl (eT c14) ?_
 refine aK rfl ?_
 refine T.seq ?_
 refine T.block ?_
 refine aS ?_
 obtain ⟨x15, hx15, q10⟩ := bS q10
 refine TL.op1 (OpR.indexM e_cell_Cell hx15 rfl rfl rfl rfl rfl) rfl ?_
 refine aA rfl rfl ?_
 refine TL.op (OpR.alloc rfl rfl (fun _ => rfl)) rfl (fun p16 => ?_)
 refine TL.op0 (OpR.store 5 rfl rfl rfl rfl rfl rfl rfl rfl) ?_
 refine aN rfl ?_
 obtain ⟨x18, hx18, q10⟩ := bS q10
 obtain ⟨x19, hx19, q10⟩ := bS q10
 refine T.drawS drawsX (fun env17 => [dP (blk p2), .val y5, dP b0, .agg [.sl 2 (List.map e_arena_Span x15.fText.fL), dN x15.fText.fN, dN x15.fRaw.fAt, dN x15.fRaw.fN, dT x15.fKept], .agg [.val (.string (bs x18.fS)), .val (.string (bs x18.fRaw)), dT x18.fKept], .sl 3 (List.map e_ref07_Cell [x18]), .val (env17 6), dP (blk p2), .dead]) (fun D env17 => [.var b0 [.val v1] 264, .row v1 (lB a1) 1 5, .var (blk p1) [.val (.slice none 0 0), dN 0, dT false] 60, (bif D 8 then .var (blk p2) [.val (env17 6), dN a0.fEnd, dT a0.fHidden] 60 else .var (blk p2) [.val y5, dN a0.fEnd, dT a0.fHidden] 60), (bif D 6 then .row (env17 6) (List.map e_ref07_Cell x19) 3 151 else .row y5 (List.map e_ref07_Cell s6.2) 3 151), .var (blk p16) [.sl 2 (List.map e_arena_Span x15.fText.fL), dN x15.fText.fN, dN x15.fRaw.fAt, dN x15.fRaw.fN, dT x15.fKept] 144]) [0, 1, 0, 0, 12, 28, 63, 127, 255] [0, 4, 5, 14, 15, 16] _ (by decide +kernel) (by decide +kernel) (fun _ => rfl) (fun _ => rfl) ?_ (fun _ => rfl) (fun _ => rfl) ?_
 rotate_left
 · intro env17
   show T X _ _ _
   refine T.region ?_
   iterate 2 refine aA rfl rfl ?_
   refine TL.nil ?_
   obtain rfl := osi q10
   exact ⟨m8, Nat.lt_succ_self _, _, gP [0, 4, 5, 14, 15, 16] [0, 1, 2, 3, 4] rfl rfl rfl, (env17 6), (w64 (s6.1 + 1), x19), rfl, i11⟩
 refine aC ?_
 refine OpsS.cons' true ?_ (fun _ _ _ _ _ _ _ => rfl) ?_
 · intro D env17 hA
   have e6 : D 6 = false := hA.no 6 _ rfl rfl
   have e8 : D 8 = false := hA.no 8 _ rfl rfl
   exact OpS.yp [(6, false), (8, false)] ⟨e6, e8, trivial⟩ (Want.plain rfl) (OpR.loadPtr 3 rfl rfl rfl rfl) (fun x => rfl) (fun x => rfl)
 refine aC ?_
 refine oT (.agg [.sl 2 (List.map e_arena_Span x15.fText.fL), dN x15.fText.fN, dN x15.fRaw.fAt, dN x15.fRaw.fN, dT x15.fKept]) (fun _ _ => OpR.loadPtr 5 rfl rfl rfl rfl) ?_
 refine OpsS.cons' true ?_ (fun _ _ _ _ _ _ _ => rfl) ?_
 · intro D env17 hA
   have e6 : D 6 = false := hA.no 6 _ rfl rfl
   have e8 : D 8 = false := hA.no 8 _ rfl rfl
   exact OpS.yp [(6, false), (8, false)] ⟨e6, e8, trivial⟩ (Want.plain rfl) (OpR.call [0, 1] fn144 (law07_Plain_c hx18) rfl rfl rfl (fun _ => rfl)) (fun x => rfl) (fun x => rfl)
 refine oT (.sl 3 (List.map e_ref07_Cell [x18])) (fun _ _ => OpR.lit rfl rfl rfl rfl rfl rfl rfl) ?_
 refine OpsS.cons' true ?_ (fun D hA env17 x j hj hD => match j, hj, hD with | 0, _, _ => rfl | 1, _, _ => rfl | 2, _, _ => rfl | 3, _, _ => rfl | 4, _, _ => rfl | 5, _, _ => rfl | 6, hj, _ => absurd rfl hj | 7, _, _ => rfl | 8, _, _ => rfl | _ + 9, _, _ => rfl) ?_
 · intro D env17 hA
   have e8 : D 8 = false := hA.no 8 _ rfl rfl
   exact OpS.yp [(8, false), (6, false)] ⟨e8, hA.me, trivial⟩ (Want.plain rfl) (OpR.appendM (m := [x18]) e_ref07_Cell 4 hx19 rfl rfl rfl rfl rfl rfl rfl rfl rfl (fun _ => rfl)) (fun x => rfl) (fun x => rfl)
 refine aC ?_
 refine OpsS.cons' true ?_ (fun _ _ _ _ _ _ _ => rfl) ?_
 · intro D env17 hA
   have e6 : D 6 = true := hA.yes 6 _ rfl rfl
   exact OpS.yp [(6, true), (8, false)] ⟨e6, hA.me, trivial⟩ (Want.plain rfl) (OpR.store 3 rfl rfl rfl rfl rfl rfl rfl rfl) (fun x => rfl) (fun x => rfl)
 exact trivial
noncomputable def law11_Plain.l1 (a0 : grid_Grid) (a1 : List UInt8) (s6 : Int × (List ref08_Row)) : Option (Lp (Int × (List ref08_Row)) (List ref08_Row)) :=
  bnd (bnd (grid_Grid_Len a0) fun x15 =>
  if s6.1 < x15 then
    some (decide (s6.1 < 1000))
  else
    some false : Option Bool) fun t14 =>
  if t14 = true then
    bnd (grid_Grid_Row a0 s6.1) fun x18 =>
    bnd (law08_Plain x18.1 a1) fun x21 =>
    bnd (app 40 s6.2 [x21]) fun x22 =>
    some (Lp.next (w64 (s6.1 + 1), x22))
  else
    some (Lp.done s6.2)
noncomputable def law11_Plain (a0 : grid_Grid) (a1 : List UInt8) : Option ref11_Grid :=
  bnd (loop (law11_Plain.l1 a0 a1) (0, []) : Option (List ref08_Row)) fun t3 =>
  some (⟨t3, a0.fTail, a0.fEnd⟩ : ref11_Grid)
theorem law11_Plain_c {a0 : grid_Grid} {a1 : List UInt8} {b0 : Nat} {v1 : Value} {res : ref11_Grid} (h0 : law11_Plain a0 a1 = some res) : CallF X 19 [dP b0, .agg [(eOP a0.fRows.fRoot), dT a0.fTail, dN a0.fEnd]] [.var b0 [.val v1] 264, .row v1 (lB a1) 1 5] (fun x => .agg [.sl 3 (List.map e_ref08_Row res.fRows), dT res.fTail, dN res.fEnd]) (fun x => [.var b0 [.val v1] 264, .row v1 (lB a1) 1 5]) := by
 unfold law11_Plain at h0
 refine CallF.mkG (X := X) rfl Tryz.func19 rfl rfl Tryz.ntmps19 rfl rfl ?_
 refine aS ?_
 refine TL.op1 (OpR.boxImm rfl rfl) rfl ?_
 refine TL.op (OpR.alloc rfl rfl (fun _ => rfl)) rfl (fun p1 => ?_)
 refine aN rfl ?_
 refine aS ?_
 iterate 4 refine aA rfl rfl ?_
 refine TL.op1 (OpR.build rfl rfl rfl rfl rfl) rfl ?_
 refine TL.op (OpR.alloc rfl rfl (fun _ => rfl)) rfl (fun p2 => ?_)
 refine TL.op0 (OpR.store 3 rfl rfl rfl rfl rfl rfl rfl rfl) ?_
 refine aN rfl ?_
 refine T.seq ?_
 refine aS ?_
 refine aA rfl rfl ?_
 refine aN rfl ?_
 obtain ⟨t3, ht3, h0⟩ := bS h0
 refine T.cutC (fun S' => ∃ y4 : Value, S' = ⟨[(5, (dP (blk p2))), (4, (dP (blk p1)))], [.var b0 [.val v1] 264, .row v1 (lB a1) 1 5, .var (blk p1) [.val (.slice none 0 0), dT false, dN 0] 31, .var (blk p2) [.val y4, dT a0.fTail, dN a0.fEnd] 31, .row y4 (List.map e_ref08_Row t3) 3 60], 39⟩) (fun _ h => h) ?_ ?_
 rotate_left
 · rintro _ ⟨y4, rfl⟩
   show T X _ _ _
   refine aS ?_
   refine TL.op1 (OpR.loadPtr 3 rfl rfl rfl rfl) rfl ?_
   refine TL.op0 (OpR.store 2 rfl rfl rfl rfl rfl rfl rfl rfl) ?_
   refine aN rfl ?_
   refine T.ret ?_
   obtain rfl := osi h0
   exact PostG.retP (ks := [0, 1]) (Gst.trans (Gst.only [4] rfl) (Gst.trans (Gst.freezeRow 4 rfl rfl (ReS.cons Re.refl ReS.nil) (ReO.same (ReO.same (ReO.var (ReL.cons (Re.base .all) (ReL.cons Re.refl (ReL.cons Re.refl ReL.nil))) (ReO.var (ReL.cons (Re.base .all) (ReL.cons Re.refl (ReL.cons Re.refl ReL.nil))) (ReO.same ReO.nil)))))) (Gst.pick [0, 1, 2] rfl rfl))) undef (cV 2 rfl rfl rfl rfl ResL.nil) rfl rfl rfl rfl
 refine T.block ?_
 obtain ⟨n7, n12⟩ := loop_some ht3
 refine T.loop (fun n S' => ∃ S'', Gst S' S'' ∧ ∃ y5 : Value, ∃ s6 : Int × (List ref08_Row), S'' = ⟨[(6, (dN s6.1)), (5, (dP (blk p2))), (4, (dP (blk p1))), (3, .nod [(eOP a0.fRows.fRoot), dT a0.fTail, dN a0.fEnd]), (0, (dP b0))], [.var b0 [.val v1] 264, .row v1 (lB a1) 1 5, .var (blk p1) [.val (.slice none 0 0), dT false, dN 0] 31, .var (blk p2) [.val y5, dT a0.fTail, dN a0.fEnd] 31, .row y5 (List.map e_ref08_Row s6.2) 3 60], 39⟩ ∧ iter (law11_Plain.l1 a0 a1) n s6 = some t3) n7 ?_ ?_
 · exact ⟨_, Gst.trans (Gst.only [0, 3, 4, 5, 6] rfl) (Gst.nilRow (ow := [.var b0 [.val v1] 264, .row v1 (lB a1) 1 5, .var (blk p1) [.val (.slice none 0 0), dT false, dN 0] 31, .var (blk p2) [.val (.slice none 0 0), dT a0.fTail, dN a0.fEnd] 31]) 3 60 rfl), (.slice none 0 0), (0, []), rfl, n12⟩
 rintro n7 _ ⟨_, g, y5, s6, rfl, i11⟩
 refine T.ghost g ?_
 obtain ⟨m8, q9, rfl, q10, i11⟩ := iter_succ i11
 unfold law11_Plain.l1 at q10
 refine T.seq ?_
 refine T.seq ?_
 obtain ⟨t14, ht14, q10⟩ := bS q10
 refine T.cutC (fun S' => S' = ⟨[(21, (dT t14)), (6, (dN s6.1)), (5, (dP (blk p2))), (4, (dP (blk p1))), (3, .nod [(eOP a0.fRows.fRoot), dT a0.fTail, dN a0.fEnd]), (0, (dP b0))], [.var b0 [.val v1] 264, .row v1 (lB a1) 1 5, .var (blk p1) [.val (.slice none 0 0), dT false, dN 0] 31, .var (blk p2) [.val y5, dT a0.fTail, dN a0.fEnd] 31, .row y5 (List.map e_ref08_Row s6.2) 3 60], 39⟩) (fun _ h => h) ?_ ?_
 · refine T.region ?_
   iterate 2 refine aA rfl rfl ?_
   obtain ⟨x15, hx15, ht14⟩ := bS ht14
   refine TL.op1 (OpR.call0 fn22 (grid_Grid_Len_c hx15) rfl) rfl ?_
   iterate 2 refine aA rfl rfl ?_
   rcases ite_some ht14 with ⟨c16, ht14⟩ | ⟨c16, ht14⟩
   rotate_left
   · refine TL.off rfl rfl rfl rfl (eF c16) rfl rfl ?_
     refine TL.off rfl rfl rfl rfl (eF c16) rfl rfl ?_
     refine TL.op1 (OpR.pickF rfl (eF c16) rfl) rfl ?_
     refine TL.nil ?_
     obtain rfl := osi ht14
     exact ⟨_, Gst.only [0, 3, 4, 5, 6, 21] rfl, rfl⟩
   refine TL.on rfl rfl rfl rfl (eT c16) ?_
   refine aA rfl rfl ?_
   refine TL.on rfl rfl rfl rfl (eT c16) ?_
   refine aA rfl rfl ?_
   refine TL.op1 (OpR.pickT rfl (eT c16) rfl) rfl ?_
   refine TL.nil ?_
   obtain rfl := osi ht14
   exact ⟨_, Gst.only [0, 3, 4, 5, 6, 21] rfl, rfl⟩
 rintro _ rfl
 show T X _ _ _
 rcases ite_some q10 with ⟨c17, q10⟩ | ⟨c17, q10⟩
 rotate_left
 · refine T.condF rfl (eq_false_of_ne_true c17) ?_
   refine T.exit ?_
   obtain rfl := osi q10
   obtain rfl : _ = _ := i11
   exact ⟨_, Gst.only [4, 5] rfl, y5, rfl⟩
 refine T.condT rfl (c17) ?_
 refine aK rfl ?_
 refine T.seq ?_
 refine T.block ?_
 refine aS ?_
 iterate 2 refine aA rfl rfl ?_
 obtain ⟨x18, hx18, q10⟩ := bS q10
 refine TL.op1 (OpR.call0 fn24 (grid_Grid_Row_c hx18) rfl) rfl ?_
 iterate 3 refine aA rfl rfl ?_
 refine TL.op (OpR.alloc rfl rfl (fun _ => rfl)) rfl (fun p19 => ?_)
 refine TL.op0 (OpR.store 5 rfl rfl rfl rfl rfl rfl rfl rfl) ?_
 refine aA rfl rfl ?_
 refine aN rfl ?_
 obtain ⟨x21, hx21, q10⟩ := bS q10
 obtain ⟨x22, hx22, q10⟩ := bS q10
 refine T.drawS drawsX (fun env20 => [dP (blk p2), .val y5, dP b0, .agg [.sl 5 (List.map e_cell_Cell x18.1.fCells), dN x18.1.fEnd, dT x18.1.fHidden], .agg [.sl 3 (List.map e_ref07_Cell x21.fCells), dN x21.fEnd, dT x21.fHidden], .sl 3 (List.map e_ref08_Row [x21]), .val (env20 6), dP (blk p2), .dead]) (fun D env20 => [.var b0 [.val v1] 264, .row v1 (lB a1) 1 5, .var (blk p1) [.val (.slice none 0 0), dT false, dN 0] 31, (bif D 8 then .var (blk p2) [.val (env20 6), dT a0.fTail, dN a0.fEnd] 31 else .var (blk p2) [.val y5, dT a0.fTail, dN a0.fEnd] 31), (bif D 6 then .row (env20 6) (List.map e_ref08_Row x22) 3 60 else .row y5 (List.map e_ref08_Row s6.2) 3 60), .var (blk p19) [.sl 5 (List.map e_cell_Cell x18.1.fCells), dN x18.1.fEnd, dT x18.1.fHidden] 49]) [0, 1, 0, 0, 12, 28, 63, 127, 255] [0, 3, 4, 5, 6] _ (by decide +kernel) (by decide +kernel) (fun _ => rfl) (fun _ => rfl) ?_ (fun _ => rfl) (fun _ => rfl) ?_
 rotate_left
 · intro env20
   show T X _ _ _
   refine T.region ?_
   iterate 3 refine aA rfl rfl ?_
   refine TL.nil ?_
   obtain rfl := osi q10
   exact ⟨m8, Nat.lt_succ_self _, _, gP [0, 3, 4, 5, 6] [0, 1, 2, 3, 4] rfl rfl rfl, (env20 6), (w64 (s6.1 + 1), x22), rfl, i11⟩
 refine aC ?_
 refine OpsS.cons' true ?_ (fun _ _ _ _ _ _ _ => rfl) ?_
 · intro D env20 hA
   have e6 : D 6 = false := hA.no 6 _ rfl rfl
   have e8 : D 8 = false := hA.no 8 _ rfl rfl
   exact OpS.yp [(6, false), (8, false)] ⟨e6, e8, trivial⟩ (Want.plain rfl) (OpR.loadPtr 3 rfl rfl rfl rfl) (fun x => rfl) (fun x => rfl)
 refine aC ?_
 refine oT (.agg [.sl 5 (List.map e_cell_Cell x18.1.fCells), dN x18.1.fEnd, dT x18.1.fHidden]) (fun _ _ => OpR.loadPtr 5 rfl rfl rfl rfl) ?_
 refine OpsS.cons' true ?_ (fun _ _ _ _ _ _ _ => rfl) ?_
 · intro D env20 hA
   have e6 : D 6 = false := hA.no 6 _ rfl rfl
   have e8 : D 8 = false := hA.no 8 _ rfl rfl
   exact OpS.yp [(6, false), (8, false)] ⟨e6, e8, trivial⟩ (Want.plain rfl) (OpR.call [0, 1] fn75 (law08_Plain_c hx21) rfl rfl rfl (fun _ => rfl)) (fun x => rfl) (fun x => rfl)
 refine oT (.sl 3 (List.map e_ref08_Row [x21])) (fun _ _ => OpR.lit rfl rfl rfl rfl rfl rfl rfl) ?_
 refine OpsS.cons' true ?_ (fun D hA env20 x j hj hD => match j, hj, hD with | 0, _, _ => rfl | 1, _, _ => rfl | 2, _, _ => rfl | 3, _, _ => rfl | 4, _, _ => rfl | 5, _, _ => rfl | 6, hj, _ => absurd rfl hj | 7, _, _ => rfl | 8, _, _ => rfl | _ + 9, _, _ => rfl) ?_
 · intro D env20 hA
   have e8 : D 8 = false := hA.no 8 _ rfl rfl
   exact OpS.yp [(8, false), (6, false)] ⟨e8, hA.me, trivial⟩ (Want.plain rfl) (OpR.appendM (m := [x21]) e_ref08_Row 4 hx22 rfl rfl rfl rfl rfl rfl rfl rfl rfl (fun _ => rfl)) (fun x => rfl) (fun x => rfl)
 refine aC ?_
 refine OpsS.cons' true ?_ (fun _ _ _ _ _ _ _ => rfl) ?_
 · intro D env20 hA
   have e6 : D 6 = true := hA.yes 6 _ rfl rfl
   exact OpS.yp [(6, true), (8, false)] ⟨e6, hA.me, trivial⟩ (Want.plain rfl) (OpR.store 3 rfl rfl rfl rfl rfl rfl rfl rfl) (fun x => rfl) (fun x => rfl)
 exact trivial
noncomputable def ref07_Same.l1 (a0 : List ref07_Cell) (a1 : List ref07_Cell) (s4 : Int) : Option (Lp Int (Ex Unit Bool)) :=
  if s4 < (a0.length : Int) then
    bnd (idx a0 s4) fun x14 =>
    bnd (idx a1 s4) fun x15 =>
    if x14 = x15 then
      some (Lp.next (w64 (s4 + 1)))
    else
      some (Lp.done (Ex.ret false))
  else
    some (Lp.done (Ex.brk ()))
noncomputable def ref07_Same (a0 : List ref07_Cell) (a1 : List ref07_Cell) : Option Bool :=
  if (a0.length : Int) = (a1.length : Int) then
    bnd (loop (ref07_Same.l1 a0 a1) 0 : Option (Ex Unit Bool)) fun t2 => match t2 with
      | .brk u3 =>
        some true
      | .ret u3 => some u3
  else
    some false
theorem ref07_Same_c {a0 : List ref07_Cell} {a1 : List ref07_Cell} {res : Bool} (h0 : ref07_Same a0 a1 = some res) : CallF X 30 [.sl 3 (List.map e_ref07_Cell a0), .sl 3 (List.map e_ref07_Cell a1)] [] (fun x => (dT res)) (fun x => []) := by
 unfold ref07_Same at h0
 refine CallF.mkG (X := X) rfl Tryz.func30 rfl rfl Tryz.ntmps30 rfl rfl ?_
 refine aS ?_
 refine aA rfl rfl ?_
 refine aN rfl ?_
 refine T.seq ?_
 refine aS ?_
 refine aA rfl rfl ?_
 refine TL.op1 (OpR.cast (OpR.pure rfl) (intE (lenM _ _))) rfl ?_
 refine aA rfl rfl ?_
 refine TL.op1 (OpR.cast (OpR.pure rfl) (intE (lenM _ _))) rfl ?_
 refine aA rfl rfl ?_
 refine aN rfl ?_
 rcases ite_some h0 with ⟨c1, h0⟩ | ⟨c1, h0⟩
 rotate_left
 · refine T.condT rfl (not_f (beq_eq_false_iff_ne.2 c1)) ?_
   refine aS ?_
   refine aA rfl rfl ?_
   refine aN rfl ?_
   refine T.ret ?_
   obtain rfl := osi h0
   exact rO [] [4] rfl undef (cT rfl ResL.nil) rfl rfl rfl rfl
 refine T.condF rfl (not_t (beq_iff_eq.2 c1)) ?_
 refine aK rfl ?_
 refine T.seq ?_
 refine aS ?_
 refine aA rfl rfl ?_
 refine TL.op1 (OpR.cast (OpR.pure rfl) (intE (lenM _ _))) rfl ?_
 refine aA rfl rfl ?_
 refine aN rfl ?_
 obtain ⟨t2, ht2, h0⟩ := bS h0
 refine T.cutC (fun S' => ∃ u3, t2 = Ex.brk u3 ∧ S' = ⟨[(4, (dT false))], [], 26⟩) (fun _ h => h) ?_ ?_
 rotate_left
 · rintro _ ⟨u3, rfl, rfl⟩
   show T X _ _ _
   refine aS ?_
   refine aA rfl rfl ?_
   refine aN rfl ?_
   refine T.ret ?_
   obtain rfl := osi h0
   exact rO [] [4] rfl undef (cT rfl ResL.nil) rfl rfl rfl rfl
 refine T.block ?_
 obtain ⟨n5, n10⟩ := loop_some ht2
 refine T.loop (fun n S' => ∃ S'', Gst S' S'' ∧ ∃ s4 : Int, S'' = ⟨[(13, (dN s4)), (12, (dN (a0.length : Int))), (4, (dT false)), (1, .sl 3 (List.map e_ref07_Cell a1)), (0, .sl 3 (List.map e_ref07_Cell a0))], [], 26⟩ ∧ iter (ref07_Same.l1 a0 a1) n s4 = some t2) n5 ?_ ?_
 · exact ⟨_, Gst.only [0, 1, 4, 12, 13] rfl, 0, rfl, n10⟩
 rintro n5 _ ⟨_, g, s4, rfl, i9⟩
 refine T.ghost g ?_
 obtain ⟨m6, q7, rfl, q8, i9⟩ := iter_succ i9
 unfold ref07_Same.l1 at q8
 refine aS ?_
 refine aA rfl rfl ?_
 refine aN rfl ?_
 refine T.seq ?_
 rcases ite_some q8 with ⟨c12, q8⟩ | ⟨c12, q8⟩
 rotate_left
 · refine T.condF rfl (eF c12) ?_
   refine T.exit ?_
   obtain rfl := osi q8
   obtain rfl : _ = _ := i9
   exact ⟨_, Gst.only [4] rfl, _, rfl, rfl⟩
 refine T.condT rfl (eT c12) ?_
 refine aK rfl ?_
 refine T.seq ?_
 refine T.block ?_
 refine aS ?_
 iterate 2 refine aA rfl rfl ?_
 refine aN rfl ?_
 refine T.seq ?_
 obtain ⟨x14, hx14, q8⟩ := bS q8
 obtain ⟨x15, hx15, q8⟩ := bS q8
 refine T.drawQ drawsX [.sl 3 (List.map e_ref07_Cell a0), dN s4, .nod [.val (.string (bs x14.fS)), .val (.string (bs x14.fRaw)), dT x14.fKept], .agg [.val (.string (bs x14.fS)), .val (.string (bs x14.fRaw)), dT x14.fKept], .sl 3 (List.map e_ref07_Cell a1), dN s4, .nod [.val (.string (bs x15.fS)), .val (.string (bs x15.fRaw)), dT x15.fKept], .agg [.val (.string (bs x15.fS)), .val (.string (bs x15.fRaw)), dT x15.fKept], dT (!(x14 == x15))] [0, 1, 4, 12, 13, 24] (by decide +kernel) rfl ?_ rfl ?_
 · iterate 2 refine aB rfl rfl rfl ?_
   refine OpsQ.yes (Want.plain rfl) rfl (OpR.indexM e_ref07_Cell hx14 rfl rfl rfl rfl rfl) ?_
   iterate 3 refine aB rfl rfl rfl ?_
   refine OpsQ.yes (Want.plain rfl) rfl (OpR.indexM e_ref07_Cell hx15 rfl rfl rfl rfl rfl) ?_
   refine aB rfl rfl rfl ?_
   refine OpsQ.yes (Want.plain rfl) rfl (OpR.cast (OpR.neStruct rfl rfl rfl rfl rfl (by kernel_rfl) (by kernel_rfl)) (boolE (congrArg (fun b => !b) (beq_ref07_Cell x14 x15)))) ?_
   exact OpsQ.nil
 show T X _ _ _
 rcases ite_some q8 with ⟨c16, q8⟩ | ⟨c16, q8⟩
 · refine T.condF rfl (not_t (beq_iff_eq.2 c16)) ?_
   refine aK rfl ?_
   refine T.region ?_
   iterate 2 refine aA rfl rfl ?_
   refine TL.nil ?_
   obtain rfl := osi q8
   exact ⟨m6, Nat.lt_succ_self _, _, Gst.only [0, 1, 4, 12, 13] rfl, w64 (s4 + 1), rfl, i9⟩
 refine T.condT rfl (not_f (beq_eq_false_iff_ne.2 c16)) ?_
 refine aS ?_
 refine aA rfl rfl ?_
 refine aN rfl ?_
 refine T.ret ?_
 obtain rfl := osi q8
 obtain rfl : _ = _ := i9
 obtain rfl := osi h0
 exact rO [] [4] rfl undef (cT rfl ResL.nil) rfl rfl rfl rfl
noncomputable def quote_class (a0 : UInt8) : Option Int :=
  if (a0.toNat : Int) = 44 then
    some 1
  else
    if (a0.toNat : Int) = 34 then
      some 2
    else
      if (a0.toNat : Int) = 13 then
        some 3
      else
        if (a0.toNat : Int) = 10 then
          some 4
        else
          some 0
theorem quote_class_c {a0 : UInt8} {res : Int} (h0 : quote_class a0 = some res) : CallF X 260 [.val (.int .u8 (a0.toNat : Int))] [] (fun x => (dN res)) (fun x => []) := by
 unfold quote_class at h0
 refine CallF.mkG (X := X) rfl Tryz.func260 rfl rfl Tryz.ntmps260 rfl rfl ?_
 refine aS ?_
 refine aA rfl rfl ?_
 refine aN rfl ?_
 refine T.seq ?_
 refine aS ?_
 refine aA rfl rfl ?_
 refine aN rfl ?_
 refine T.block ?_
 refine aS ?_
 iterate 2 refine aA rfl rfl ?_
 refine aN rfl ?_
 rcases ite_some h0 with ⟨c1, h0⟩ | ⟨c1, h0⟩
 · refine T.condT rfl (beq_iff_eq.2 c1) ?_
   refine aS ?_
   refine aA rfl rfl ?_
   refine aN rfl ?_
   refine T.ret ?_
   obtain rfl := osi h0
   exact rO [] [2] rfl undef (cT rfl ResL.nil) rfl rfl rfl rfl
 refine T.condF rfl (beq_eq_false_iff_ne.2 c1) ?_
 refine aS ?_
 iterate 2 refine aA rfl rfl ?_
 refine aN rfl ?_
 rcases ite_some h0 with ⟨c2, h0⟩ | ⟨c2, h0⟩
 · refine T.condT rfl (beq_iff_eq.2 c2) ?_
   refine aS ?_
   refine aA rfl rfl ?_
   refine aN rfl ?_
   refine T.ret ?_
   obtain rfl := osi h0
   exact rO [] [2] rfl undef (cT rfl ResL.nil) rfl rfl rfl rfl
 refine T.condF rfl (beq_eq_false_iff_ne.2 c2) ?_
 refine aS ?_
 iterate 2 refine aA rfl rfl ?_
 refine aN rfl ?_
 rcases ite_some h0 with ⟨c3, h0⟩ | ⟨c3, h0⟩
 · refine T.condT rfl (beq_iff_eq.2 c3) ?_
   refine aS ?_
   refine aA rfl rfl ?_
   refine aN rfl ?_
   refine T.ret ?_
   obtain rfl := osi h0
   exact rO [] [2] rfl undef (cT rfl ResL.nil) rfl rfl rfl rfl
 refine T.condF rfl (beq_eq_false_iff_ne.2 c3) ?_
 refine aS ?_
 iterate 2 refine aA rfl rfl ?_
 refine aN rfl ?_
 rcases ite_some h0 with ⟨c4, h0⟩ | ⟨c4, h0⟩
 · refine T.condT rfl (beq_iff_eq.2 c4) ?_
   refine aS ?_
   refine aA rfl rfl ?_
   refine aN rfl ?_
   refine T.ret ?_
   obtain rfl := osi h0
   exact rO [] [2] rfl undef (cT rfl ResL.nil) rfl rfl rfl rfl
 refine T.condF rfl (beq_eq_false_iff_ne.2 c4) ?_
 refine aK rfl ?_
 refine aS ?_
 refine aA rfl rfl ?_
 refine aN rfl ?_
 refine T.ret ?_
 obtain rfl := osi h0
 exact rO [] [2] rfl undef (cT rfl ResL.nil) rfl rfl rfl rfl
noncomputable def quote_Needs.l1 (a0 : List UInt8) (s3 : Int) : Option (Lp Int (Ex Unit Bool)) :=
  if s3 < (a0.length : Int) then
    bnd (idx a0 s3) fun x12 =>
    bnd (quote_class x12) fun x13 =>
    if x13 = 0 then
      some (Lp.next (w64 (s3 + 1)))
    else
      some (Lp.done (Ex.ret true))
  else
    some (Lp.done (Ex.brk ()))
noncomputable def quote_Needs (a0 : List UInt8) : Option Bool :=
  bnd (loop (quote_Needs.l1 a0) 0 : Option (Ex Unit Bool)) fun t1 => match t1 with
    | .brk u2 =>
      some false
    | .ret u2 => some u2
theorem quote_Needs_c {a0 : List UInt8} {res : Bool} (h0 : quote_Needs a0 = some res) : CallF X 259 [.sl 1 (lB a0)] [] (fun x => (dT res)) (fun x => []) := by
 unfold quote_Needs at h0
 refine CallF.mkG (X := X) rfl Tryz.func259 rfl rfl Tryz.ntmps259 rfl rfl ?_
 refine aS ?_
 refine aA rfl rfl ?_
 refine aN rfl ?_
 refine T.seq ?_
 refine aS ?_
 refine aA rfl rfl ?_
 refine TL.op1 (OpR.cast (OpR.pure rfl) (intE (lenM _ _))) rfl ?_
 refine aA rfl rfl ?_
 refine aN rfl ?_
 obtain ⟨t1, ht1, h0⟩ := bS h0
 refine T.cutC (fun S' => ∃ u2, t1 = Ex.brk u2 ∧ S' = ⟨[(2, (dT false))], [], 15⟩) (fun _ h => h) ?_ ?_
 rotate_left
 · rintro _ ⟨u2, rfl, rfl⟩
   show T X _ _ _
   refine aS ?_
   refine aA rfl rfl ?_
   refine aN rfl ?_
   refine T.ret ?_
   obtain rfl := osi h0
   exact rO [] [2] rfl undef (cT rfl ResL.nil) rfl rfl rfl rfl
 refine T.block ?_
 obtain ⟨n4, n9⟩ := loop_some ht1
 refine T.loop (fun n S' => ∃ S'', Gst S' S'' ∧ ∃ s3 : Int, S'' = ⟨[(7, (dN s3)), (6, (dN (a0.length : Int))), (5, .sl 1 (lB a0)), (2, (dT false))], [], 15⟩ ∧ iter (quote_Needs.l1 a0) n s3 = some t1) n4 ?_ ?_
 · exact ⟨_, Gst.only [2, 5, 6, 7] rfl, 0, rfl, n9⟩
 rintro n4 _ ⟨_, g, s3, rfl, i8⟩
 refine T.ghost g ?_
 obtain ⟨m5, q6, rfl, q7, i8⟩ := iter_succ i8
 unfold quote_Needs.l1 at q7
 refine aS ?_
 refine aA rfl rfl ?_
 refine aN rfl ?_
 refine T.seq ?_
 rcases ite_some q7 with ⟨c11, q7⟩ | ⟨c11, q7⟩
 rotate_left
 · refine T.condF rfl (eF c11) ?_
   refine T.exit ?_
   obtain rfl := osi q7
   obtain rfl : _ = _ := i8
   exact ⟨_, Gst.only [2] rfl, _, rfl, rfl⟩
 refine T.condT rfl (eT c11) ?_
 refine aK rfl ?_
 refine T.seq ?_
 refine T.block ?_
 refine aS ?_
 obtain ⟨x12, hx12, q7⟩ := bS q7
 refine TL.op1 (OpR.indexM byteD hx12 rfl rfl rfl rfl rfl) rfl ?_
 iterate 2 refine aA rfl rfl ?_
 refine aN rfl ?_
 refine aS ?_
 refine aA rfl rfl ?_
 obtain ⟨x13, hx13, q7⟩ := bS q7
 refine TL.op1 (OpR.call0 fn260 (quote_class_c hx13) rfl) rfl ?_
 refine aA rfl rfl ?_
 refine aN rfl ?_
 rcases ite_some q7 with ⟨c14, q7⟩ | ⟨c14, q7⟩
 · refine T.condF rfl (not_t (beq_iff_eq.2 c14)) ?_
   refine aK rfl ?_
   refine T.region ?_
   iterate 2 refine aA rfl rfl ?_
   refine TL.nil ?_
   obtain rfl := osi q7
   exact ⟨m5, Nat.lt_succ_self _, _, Gst.only [2, 5, 6, 7] rfl, w64 (s3 + 1), rfl, i8⟩
 refine T.condT rfl (not_f (beq_eq_false_iff_ne.2 c14)) ?_
 refine aS ?_
 refine aA rfl rfl ?_
 refine aN rfl ?_
 refine T.ret ?_
 obtain rfl := osi q7
 obtain rfl : _ = _ := i8
 obtain rfl := osi h0
 exact rO [] [2] rfl undef (cT rfl ResL.nil) rfl rfl rfl rfl
noncomputable def quote_quotes.l1 (a0 : List UInt8) (s2 : Int × Int) : Option (Lp (Int × Int) Int) :=
  if s2.2 < (a0.length : Int) then
    bnd (idx a0 s2.2) fun x11 =>
    bnd (quote_class x11) fun x12 =>
    bnd (if x12 = 2 then
      some (w64 (s2.1 + 1))
    else
      some s2.1 : Option Int) fun t13 =>
    some (Lp.next (t13, w64 (s2.2 + 1)))
  else
    some (Lp.done s2.1)
noncomputable def quote_quotes (a0 : List UInt8) : Option Int :=
  bnd (loop (quote_quotes.l1 a0) (0, 0) : Option Int) fun t1 =>
  some t1
theorem quote_quotes_c {a0 : List UInt8} {res : Int} (h0 : quote_quotes a0 = some res) : CallF X 273 [.sl 1 (lB a0)] [] (fun x => (dN res)) (fun x => []) := by
 unfold quote_quotes at h0
 refine CallF.mkG (X := X) rfl Tryz.func273 rfl rfl Tryz.ntmps273 rfl rfl ?_
 refine aS ?_
 refine aA rfl rfl ?_
 refine aN rfl ?_
 refine aS ?_
 refine aA rfl rfl ?_
 refine aN rfl ?_
 refine T.seq ?_
 refine aS ?_
 refine aA rfl rfl ?_
 refine TL.op1 (OpR.cast (OpR.pure rfl) (intE (lenM _ _))) rfl ?_
 refine aA rfl rfl ?_
 refine aN rfl ?_
 obtain ⟨t1, ht1, h0⟩ := bS h0
 refine T.cutC (fun S' => S' = ⟨[(3, (dN t1)), (2, (dN 0))], [], 19⟩) (fun _ h => h) ?_ ?_
 rotate_left
 · rintro _ rfl
   show T X _ _ _
   refine aS ?_
   iterate 2 refine aA rfl rfl ?_
   refine aN rfl ?_
   refine T.ret ?_
   obtain rfl := osi h0
   exact rO [] [2] rfl undef (cT rfl ResL.nil) rfl rfl rfl rfl
 refine T.block ?_
 obtain ⟨n3, n8⟩ := loop_some ht1
 refine T.loop (fun n S' => ∃ S'', Gst S' S'' ∧ ∃ s2 : Int × Int, S'' = ⟨[(8, (dN s2.2)), (7, (dN (a0.length : Int))), (6, .sl 1 (lB a0)), (3, (dN s2.1)), (2, (dN 0))], [], 19⟩ ∧ iter (quote_quotes.l1 a0) n s2 = some t1) n3 ?_ ?_
 · exact ⟨_, Gst.only [2, 3, 6, 7, 8] rfl, (0, 0), rfl, n8⟩
 rintro n3 _ ⟨_, g, s2, rfl, i7⟩
 refine T.ghost g ?_
 obtain ⟨m4, q5, rfl, q6, i7⟩ := iter_succ i7
 unfold quote_quotes.l1 at q6
 refine aS ?_
 refine aA rfl rfl ?_
 refine aN rfl ?_
 refine T.seq ?_
 rcases ite_some q6 with ⟨c10, q6⟩ | ⟨c10, q6⟩
 rotate_left
 · refine T.condF rfl (eF c10) ?_
   refine T.exit ?_
   obtain rfl := osi q6
   obtain rfl : _ = _ := i7
   exact ⟨_, Gst.only [2, 3] rfl, rfl⟩
 refine T.condT rfl (eT c10) ?_
 refine aK rfl ?_
 refine T.seq ?_
 refine T.block ?_
 refine aS ?_
 obtain ⟨x11, hx11, q6⟩ := bS q6
 refine TL.op1 (OpR.indexM byteD hx11 rfl rfl rfl rfl rfl) rfl ?_
 iterate 2 refine aA rfl rfl ?_
 refine aN rfl ?_
 refine aS ?_
 refine aA rfl rfl ?_
 obtain ⟨x12, hx12, q6⟩ := bS q6
 refine TL.op1 (OpR.call0 fn260 (quote_class_c hx12) rfl) rfl ?_
 refine aA rfl rfl ?_
 refine aN rfl ?_
 obtain ⟨t13, ht13, q6⟩ := bS q6
 refine T.cutC (fun S' => S' = ⟨[(8, (dN s2.2)), (7, (dN (a0.length : Int))), (6, .sl 1 (lB a0)), (3, (dN t13)), (2, (dN 0))], [], 19⟩) (fun _ h => h) ?_ ?_
 rotate_left
 · rintro _ rfl
   show T X _ _ _
   refine T.region ?_
   iterate 2 refine aA rfl rfl ?_
   refine TL.nil ?_
   obtain rfl := osi q6
   exact ⟨m4, Nat.lt_succ_self _, _, Gst.only [2, 3, 6, 7, 8] rfl, (t13, w64 (s2.2 + 1)), rfl, i7⟩
 rcases ite_some ht13 with ⟨c14, ht13⟩ | ⟨c14, ht13⟩
 rotate_left
 · refine T.condF rfl (beq_eq_false_iff_ne.2 c14) ?_
   refine T.skip ?_
   obtain rfl := osi ht13
   exact ⟨_, Gst.only [2, 3, 6, 7, 8] rfl, rfl⟩
 refine T.condT rfl (beq_iff_eq.2 c14) ?_
 refine T.region ?_
 iterate 3 refine aA rfl rfl ?_
 refine TL.nil ?_
 obtain rfl := osi ht13
 exact ⟨_, Gst.only [2, 3, 6, 7, 8] rfl, rfl⟩
noncomputable def quote_Width (a0 : List UInt8) : Option Int :=
  bnd (quote_Needs a0) fun x1 =>
  if x1 = true then
    bnd (quote_quotes a0) fun x3 =>
    some (w64 ((w64 ((a0.length : Int) + x3)) + 2))
  else
    some (a0.length : Int)
theorem quote_Width_c {a0 : List UInt8} {res : Int} (h0 : quote_Width a0 = some res) : CallF X 258 [.sl 1 (lB a0)] [] (fun x => (dN res)) (fun x => []) := by
 unfold quote_Width at h0
 refine CallF.mkG (X := X) rfl Tryz.func258 rfl rfl Tryz.ntmps258 rfl rfl ?_
 refine aS ?_
 refine aA rfl rfl ?_
 refine aN rfl ?_
 refine T.seq ?_
 refine aS ?_
 refine aA rfl rfl ?_
 obtain ⟨x1, hx1, h0⟩ := bS h0
 refine TL.op1 (OpR.call0 fn259 (quote_Needs_c hx1) rfl) rfl ?_
 refine aA rfl rfl ?_
 refine aN rfl ?_
 rcases ite_some h0 with ⟨c2, h0⟩ | ⟨c2, h0⟩
 rotate_left
 · refine T.condT rfl (not_f (eq_false_of_ne_true c2)) ?_
   refine aS ?_
   refine aA rfl rfl ?_
   refine TL.op1 (OpR.cast (OpR.pure rfl) (intE (lenM _ _))) rfl ?_
   refine aA rfl rfl ?_
   refine aN rfl ?_
   refine T.ret ?_
   obtain rfl := osi h0
   exact rO [] [2] rfl undef (cT rfl ResL.nil) rfl rfl rfl rfl
 refine T.condF rfl (not_t (c2)) ?_
 refine aK rfl ?_
 refine aS ?_
 refine aA rfl rfl ?_
 refine TL.op1 (OpR.cast (OpR.pure rfl) (intE (lenM _ _))) rfl ?_
 refine aA rfl rfl ?_
 obtain ⟨x3, hx3, h0⟩ := bS h0
 refine TL.op1 (OpR.call0 fn273 (quote_quotes_c hx3) rfl) rfl ?_
 iterate 3 refine aA rfl rfl ?_
 refine aN rfl ?_
 refine T.ret ?_
 obtain rfl := osi h0
 exact rO [] [2] rfl undef (cT rfl ResL.nil) rfl rfl rfl rfl
noncomputable def quote_Put.l1 (a0 : List UInt8) (s11 : Int × (List UInt8)) : Option (Lp (Int × (List UInt8)) (List UInt8)) :=
  if s11.1 < (a0.length : Int) then
    bnd (idx a0 s11.1) fun x20 =>
    bnd (quote_class x20) fun x21 =>
    bnd (if x21 = 2 then
      bnd (app 1 s11.2 [x20]) fun x25 =>
      some x25
    else
      some s11.2 : Option (List UInt8)) fun t22 =>
    bnd (app 1 t22 [x20]) fun x27 =>
    some (Lp.next (w64 (s11.1 + 1), x27))
  else
    some (Lp.done s11.2)
noncomputable def quote_Put (a0 : List UInt8) : Option (List UInt8) :=
  bnd (quote_Width a0) fun x1 =>
  bnd ((mkc 1 x1 : Option (List UInt8))) fun x2 =>
  bnd (quote_Needs a0) fun x4 =>
  if x4 = true then
    bnd (app 1 x2 [34]) fun x6 =>
    bnd (loop (quote_Put.l1 a0) (0, x6) : Option (List UInt8)) fun t8 =>
    bnd (app 1 t8 [34]) fun x29 =>
    some x29
  else
    bnd (app 1 x2 a0) fun x31 =>
    some x31
theorem quote_Put_c {a0 : List UInt8} {res : (List UInt8)} (h0 : quote_Put a0 = some res) : CallF X 230 [.sl 1 (lB a0)] [] (fun x => .sl 1 (lB res)) (fun x => []) := by
 unfold quote_Put at h0
 refine CallF.mkG (X := X) rfl Tryz.func230 rfl rfl Tryz.ntmps230 rfl rfl ?_
 refine aS ?_
 refine aA rfl rfl ?_
 refine aN rfl ?_
 refine aS ?_
 refine aA rfl rfl ?_
 obtain ⟨x1, hx1, h0⟩ := bS h0
 refine TL.op1 (OpR.call0 fn258 (quote_Width_c hx1) rfl) rfl ?_
 obtain ⟨x2, hx2, h0⟩ := bS h0
 refine TL.op (OpR.makeC byteD hx2 rfl rfl rfl rfl rfl rfl rfl (fun _ => rfl)) rfl (fun v3 => ?_)
 refine aA rfl rfl ?_
 refine aN rfl ?_
 refine T.seq ?_
 refine aS ?_
 refine aA rfl rfl ?_
 obtain ⟨x4, hx4, h0⟩ := bS h0
 refine TL.op1 (OpR.call0 fn259 (quote_Needs_c hx4) rfl) rfl ?_
 refine aA rfl rfl ?_
 refine aN rfl ?_
 rcases ite_some h0 with ⟨c5, h0⟩ | ⟨c5, h0⟩
 rotate_left
 · refine T.condT rfl (not_f (eq_false_of_ne_true c5)) ?_
   refine aS ?_
   iterate 2 refine aA rfl rfl ?_
   obtain ⟨x31, hx31, h0⟩ := bS h0
   refine TL.op (OpR.appendM (m := a0) byteD 0 hx31 rfl rfl rfl rfl rfl rfl rfl rfl rfl (fun _ => rfl)) rfl (fun v32 => ?_)
   refine aA rfl rfl ?_
   refine aN rfl ?_
   refine T.ret ?_
   obtain rfl := osi h0
   exact PostG.retP (ks := []) (Gst.trans (Gst.only [2] rfl) (Gst.trans (Gst.freezeRow 0 rfl rfl (ReS.cons (Re.base .all) ReS.nil) (ReO.same ReO.nil)) (Gst.pick [] rfl rfl))) undef (cT rfl ResL.nil) rfl rfl rfl rfl
 refine T.condF rfl (not_t (c5)) ?_
 refine aK rfl ?_
 refine aS ?_
 refine aA rfl rfl ?_
 refine TL.op1 (OpR.lit rfl rfl rfl rfl rfl rfl rfl) rfl ?_
 obtain ⟨x6, hx6, h0⟩ := bS h0
 refine TL.op (OpR.appendM (m := [34]) byteD 0 hx6 rfl rfl rfl rfl rfl rfl rfl rfl rfl (fun _ => rfl)) rfl (fun v7 => ?_)
 refine aA rfl rfl ?_
 refine aN rfl ?_
 refine T.seq ?_
 refine aS ?_
 refine aA rfl rfl ?_
 refine TL.op1 (OpR.cast (OpR.pure rfl) (intE (lenM _ _))) rfl ?_
 refine aA rfl rfl ?_
 refine aN rfl ?_
 obtain ⟨t8, ht8, h0⟩ := bS h0
 refine T.cutC (fun S' => ∃ y9 : Value, S' = ⟨[(3, .val y9), (2, .val (.slice none 0 0))], [.row y9 (lB t8) 1 5], 39⟩) (fun _ h => h) ?_ ?_
 rotate_left
 · rintro _ ⟨y9, rfl⟩
   show T X _ _ _
   refine aS ?_
   refine aA rfl rfl ?_
   refine TL.op1 (OpR.lit rfl rfl rfl rfl rfl rfl rfl) rfl ?_
   obtain ⟨x29, hx29, h0⟩ := bS h0
   refine TL.op (OpR.appendM (m := [34]) byteD 0 hx29 rfl rfl rfl rfl rfl rfl rfl rfl rfl (fun _ => rfl)) rfl (fun v30 => ?_)
   refine aA rfl rfl ?_
   refine aN rfl ?_
   refine T.ret ?_
   obtain rfl := osi h0
   exact PostG.retP (ks := []) (Gst.trans (Gst.only [2] rfl) (Gst.trans (Gst.freezeRow 0 rfl rfl (ReS.cons (Re.base .all) ReS.nil) (ReO.same ReO.nil)) (Gst.pick [] rfl rfl))) undef (cT rfl ResL.nil) rfl rfl rfl rfl
 refine T.block ?_
 obtain ⟨n12, n17⟩ := loop_some ht8
 refine T.loop (fun n S' => ∃ S'', Gst S' S'' ∧ ∃ y10 : Value, ∃ s11 : Int × (List UInt8), S'' = ⟨[(20, (dN s11.1)), (19, (dN (a0.length : Int))), (18, .sl 1 (lB a0)), (3, .val y10), (2, .val (.slice none 0 0))], [.row y10 (lB s11.2) 1 5], 39⟩ ∧ iter (quote_Put.l1 a0) n s11 = some t8) n12 ?_ ?_
 · exact ⟨_, Gst.only [2, 3, 18, 19, 20] rfl, v7, (0, x6), rfl, n17⟩
 rintro n12 _ ⟨_, g, y10, s11, rfl, i16⟩
 refine T.ghost g ?_
 obtain ⟨m13, q14, rfl, q15, i16⟩ := iter_succ i16
 unfold quote_Put.l1 at q15
 refine aS ?_
 refine aA rfl rfl ?_
 refine aN rfl ?_
 refine T.seq ?_
 rcases ite_some q15 with ⟨c19, q15⟩ | ⟨c19, q15⟩
 rotate_left
 · refine T.condF rfl (eF c19) ?_
   refine T.exit ?_
   obtain rfl := osi q15
   obtain rfl : _ = _ := i16
   exact ⟨_, Gst.only [2, 3] rfl, y10, rfl⟩
 refine T.condT rfl (eT c19) ?_
 refine aK rfl ?_
 refine T.seq ?_
 refine T.block ?_
 refine aS ?_
 obtain ⟨x20, hx20, q15⟩ := bS q15
 refine TL.op1 (OpR.indexM byteD hx20 rfl rfl rfl rfl rfl) rfl ?_
 iterate 2 refine aA rfl rfl ?_
 refine aN rfl ?_
 refine T.seq ?_
 refine aS ?_
 refine aA rfl rfl ?_
 obtain ⟨x21, hx21, q15⟩ := bS q15
 refine TL.op1 (OpR.call0 fn260 (quote_class_c hx21) rfl) rfl ?_
 refine aA rfl rfl ?_
 refine aN rfl ?_
 obtain ⟨t22, ht22, q15⟩ := bS q15
 refine T.cutC (fun S' => ∃ y23 : Value, S' = ⟨[(20, (dN s11.1)), (19, (dN (a0.length : Int))), (18, .sl 1 (lB a0)), (5, .val (.int .u8 (x20.toNat : Int))), (3, .val y23), (2, .val (.slice none 0 0))], [.row y23 (lB t22) 1 5], 39⟩) (fun _ h => h) ?_ ?_
 rotate_left
 · rintro _ ⟨y23, rfl⟩
   show T X _ _ _
   refine T.region ?_
   iterate 2 refine aA rfl rfl ?_
   refine TL.op1 (OpR.lit rfl rfl rfl rfl rfl rfl rfl) rfl ?_
   obtain ⟨x27, hx27, q15⟩ := bS q15
   refine TL.op (OpR.appendM (m := [x20]) byteD 0 hx27 rfl rfl rfl rfl rfl rfl rfl rfl rfl (fun _ => rfl)) rfl (fun v28 => ?_)
   refine aA rfl rfl ?_
   refine aN rfl ?_
   refine T.region ?_
   iterate 2 refine aA rfl rfl ?_
   refine TL.nil ?_
   obtain rfl := osi q15
   exact ⟨m13, Nat.lt_succ_self _, _, Gst.only [2, 3, 18, 19, 20] rfl, v28, (w64 (s11.1 + 1), x27), rfl, i16⟩
 rcases ite_some ht22 with ⟨c24, ht22⟩ | ⟨c24, ht22⟩
 rotate_left
 · refine T.condF rfl (beq_eq_false_iff_ne.2 c24) ?_
   refine T.skip ?_
   obtain rfl := osi ht22
   exact ⟨_, Gst.only [2, 3, 5, 18, 19, 20] rfl, y10, rfl⟩
 refine T.condT rfl (beq_iff_eq.2 c24) ?_
 refine T.region ?_
 iterate 2 refine aA rfl rfl ?_
 refine TL.op1 (OpR.lit rfl rfl rfl rfl rfl rfl rfl) rfl ?_
 obtain ⟨x25, hx25, ht22⟩ := bS ht22
 refine TL.op (OpR.appendM (m := [x20]) byteD 0 hx25 rfl rfl rfl rfl rfl rfl rfl rfl rfl (fun _ => rfl)) rfl (fun v26 => ?_)
 refine aA rfl rfl ?_
 refine TL.nil ?_
 obtain rfl := osi ht22
 exact ⟨_, Gst.only [2, 3, 5, 18, 19, 20] rfl, v26, rfl⟩
noncomputable def cell_Cell_Print (a0 : cell_Cell) (a1 : List UInt8) : Option (List UInt8) :=
  if a0.fKept = true then
    bnd (arena_Arena_Bytes a0.fRaw a1) fun x2 =>
    some x2
  else
    bnd (cell_Cell_Bytes a0 a1) fun x3 =>
    bnd (quote_Put x3) fun x4 =>
    some x4
theorem cell_Cell_Print_c {a0 : cell_Cell} {a1 : List UInt8} {b0 : Nat} {v1 : Value} {res : (List UInt8)} (h0 : cell_Cell_Print a0 a1 = some res) : CallF X 198 [.agg [.sl 2 (List.map e_arena_Span a0.fText.fL), dN a0.fText.fN, dN a0.fRaw.fAt, dN a0.fRaw.fN, dT a0.fKept], dP b0] [.var b0 [.val v1] 264, .row v1 (lB a1) 1 5] (fun x => .sl 1 (lB res)) (fun x => [.var b0 [.val v1] 264, .row v1 (lB a1) 1 5]) := by
 unfold cell_Cell_Print at h0
 refine CallF.mkG (X := X) rfl Tryz.func198 rfl rfl Tryz.ntmps198 rfl rfl ?_
 refine aS ?_
 refine TL.op1 (OpR.boxImm rfl rfl) rfl ?_
 refine aA rfl rfl ?_
 refine aN rfl ?_
 refine T.seq ?_
 refine aS ?_
 iterate 2 refine aA rfl rfl ?_
 refine aN rfl ?_
 rcases ite_some h0 with ⟨c1, h0⟩ | ⟨c1, h0⟩
 · refine T.condT rfl (c1) ?_
   refine aS ?_
   iterate 3 refine aA rfl rfl ?_
   obtain ⟨x2, hx2, h0⟩ := bS h0
   refine TL.op1 (OpR.call [0, 1] fn201 (arena_Arena_Bytes_c hx2) rfl rfl rfl (fun _ => rfl)) rfl ?_
   refine aA rfl rfl ?_
   refine aN rfl ?_
   refine T.ret ?_
   obtain rfl := osi h0
   exact rO [0, 1] [4] rfl undef (cT rfl ResL.nil) rfl rfl rfl rfl
 refine T.condF rfl (eq_false_of_ne_true c1) ?_
 refine aK rfl ?_
 refine aS ?_
 iterate 2 refine aA rfl rfl ?_
 obtain ⟨x3, hx3, h0⟩ := bS h0
 refine TL.op1 (OpR.call [0, 1] fn113 (cell_Cell_Bytes_c hx3) rfl rfl rfl (fun _ => rfl)) rfl ?_
 obtain ⟨x4, hx4, h0⟩ := bS h0
 refine TL.op1 (OpR.call0 fn230 (quote_Put_c hx4) rfl) rfl ?_
 refine aA rfl rfl ?_
 refine aN rfl ?_
 refine T.ret ?_
 obtain rfl := osi h0
 exact rO [0, 1] [4] rfl undef (cT rfl ResL.nil) rfl rfl rfl rfl
noncomputable def row_Row_Print.l1 (a0 : row_Row) (a1 : List UInt8) (s4 : Int × (List UInt8)) : Option (Lp (Int × (List UInt8)) (List UInt8)) :=
  if s4.1 < (a0.fCells.length : Int) then
    bnd (idx a0.fCells s4.1) fun x13 =>
    bnd (if s4.1 > 0 then
      bnd (app 1 s4.2 [44]) fun x18 =>
      some x18
    else
      some s4.2 : Option (List UInt8)) fun t15 =>
    bnd (cell_Cell_Print x13 a1) fun x20 =>
    bnd (app 1 t15 x20) fun x21 =>
    some (Lp.next (w64 (s4.1 + 1), x21))
  else
    some (Lp.done s4.2)
noncomputable def row_Row_Print (a0 : row_Row) (a1 : List UInt8) : Option (List UInt8) :=
  bnd (loop (row_Row_Print.l1 a0 a1) (0, []) : Option (List UInt8)) fun t1 =>
  some t1
theorem row_Row_Print_c {a0 : row_Row} {a1 : List UInt8} {b0 : Nat} {v1 : Value} {res : (List UInt8)} (h0 : row_Row_Print a0 a1 = some res) : CallF X 135 [.agg [.sl 5 (List.map e_cell_Cell a0.fCells), dN a0.fEnd, dT a0.fHidden], dP b0] [.var b0 [.val v1] 264, .row v1 (lB a1) 1 5] (fun x => .sl 1 (lB res)) (fun x => [.var b0 [.val v1] 264, .row v1 (lB a1) 1 5]) := by
 unfold row_Row_Print at h0
 refine CallF.mkG (X := X) rfl Tryz.func135 rfl rfl Tryz.ntmps135 rfl rfl ?_
 refine aS ?_
 refine TL.op1 (OpR.boxImm rfl rfl) rfl ?_
 refine aA rfl rfl ?_
 refine aN rfl ?_
 refine aS ?_
 refine aA rfl rfl ?_
 refine aN rfl ?_
 refine T.seq ?_
 refine aS ?_
 iterate 2 refine aA rfl rfl ?_
 refine TL.op1 (OpR.cast (OpR.pure rfl) (intE (lenM _ _))) rfl ?_
 refine aA rfl rfl ?_
 refine aN rfl ?_
 obtain ⟨t1, ht1, h0⟩ := bS h0
 refine T.cutC (fun S' => ∃ y2 : Value, S' = ⟨[(5, .val y2), (4, .val (.slice none 0 0))], [.var b0 [.val v1] 264, .row v1 (lB a1) 1 5, .row y2 (lB t1) 1 5], 28⟩) (fun _ h => h) ?_ ?_
 rotate_left
 · rintro _ ⟨y2, rfl⟩
   show T X _ _ _
   refine aS ?_
   iterate 2 refine aA rfl rfl ?_
   refine aN rfl ?_
   refine T.ret ?_
   obtain rfl := osi h0
   exact PostG.retP (ks := [0, 1]) (Gst.trans (Gst.only [4] rfl) (Gst.trans (Gst.freezeRow 2 rfl rfl (ReS.cons (Re.base .all) ReS.nil) (ReO.same (ReO.same (ReO.same ReO.nil)))) (Gst.pick [0, 1] rfl rfl))) undef (cT rfl ResL.nil) rfl rfl rfl rfl
 refine T.block ?_
 obtain ⟨n5, n10⟩ := loop_some ht1
 refine T.loop (fun n S' => ∃ S'', Gst S' S'' ∧ ∃ y3 : Value, ∃ s4 : Int × (List UInt8), S'' = ⟨[(11, (dN s4.1)), (10, (dN (a0.fCells.length : Int))), (9, .sl 5 (List.map e_cell_Cell a0.fCells)), (5, .val y3), (4, .val (.slice none 0 0)), (1, (dP b0))], [.var b0 [.val v1] 264, .row v1 (lB a1) 1 5, .row y3 (lB s4.2) 1 5], 28⟩ ∧ iter (row_Row_Print.l1 a0 a1) n s4 = some t1) n5 ?_ ?_
 · exact ⟨_, Gst.trans (Gst.only [1, 4, 5, 9, 10, 11] rfl) (Gst.nilRow (ow := [.var b0 [.val v1] 264, .row v1 (lB a1) 1 5]) 1 5 rfl), (.slice none 0 0), (0, []), rfl, n10⟩
 rintro n5 _ ⟨_, g, y3, s4, rfl, i9⟩
 refine T.ghost g ?_
 obtain ⟨m6, q7, rfl, q8, i9⟩ := iter_succ i9
 unfold row_Row_Print.l1 at q8
 refine aS ?_
 refine aA rfl rfl ?_
 refine aN rfl ?_
 refine T.seq ?_
 rcases ite_some q8 with ⟨c12, q8⟩ | ⟨c12, q8⟩
 rotate_left
 · refine T.condF rfl (eF c12) ?_
   refine T.exit ?_
   obtain rfl := osi q8
   obtain rfl : _ = _ := i9
   exact ⟨_, Gst.only [4, 5] rfl, y3, rfl⟩
 refine T.condT rfl (eT c12) ?_
 refine aK rfl ?_
 refine T.seq ?_
 refine T.block ?_
 refine aS ?_
 refine aA rfl rfl ?_
 obtain ⟨x13, hx13, q8⟩ := bS q8
 refine TL.op1 (OpR.indexM e_cell_Cell hx13 rfl rfl rfl rfl rfl) rfl ?_
 refine aA rfl rfl ?_
 refine TL.op (OpR.alloc rfl rfl (fun _ => rfl)) rfl (fun p14 => ?_)
 refine aA rfl rfl ?_
 refine TL.op0 (OpR.store 3 rfl rfl rfl rfl rfl rfl rfl rfl) ?_
 refine aN rfl ?_
 refine T.seq ?_
 refine aS ?_
 iterate 2 refine aA rfl rfl ?_
 refine aN rfl ?_
 obtain ⟨t15, ht15, q8⟩ := bS q8
 refine T.cutC (fun S' => ∃ y16 : Value, S' = ⟨[(11, (dN s4.1)), (10, (dN (a0.fCells.length : Int))), (9, .sl 5 (List.map e_cell_Cell a0.fCells)), (7, (dP (blk p14))), (5, .val y16), (4, .val (.slice none 0 0)), (1, (dP b0))], [.var b0 [.val v1] 264, .row v1 (lB a1) 1 5, .row y16 (lB t15) 1 5, .var (blk p14) [.sl 2 (List.map e_arena_Span x13.fText.fL), dN x13.fText.fN, dN x13.fRaw.fAt, dN x13.fRaw.fN, dT x13.fKept] 144], 28⟩) (fun _ h => h) ?_ ?_
 · rcases ite_some ht15 with ⟨c17, ht15⟩ | ⟨c17, ht15⟩
   rotate_left
   · refine T.condF rfl (eF c17) ?_
     refine T.skip ?_
     obtain rfl := osi ht15
     exact ⟨_, Gst.only [1, 4, 5, 7, 9, 10, 11] rfl, y3, rfl⟩
   refine T.condT rfl (eT c17) ?_
   refine T.region ?_
   refine aA rfl rfl ?_
   refine TL.op1 (OpR.lit rfl rfl rfl rfl rfl rfl rfl) rfl ?_
   obtain ⟨x18, hx18, ht15⟩ := bS ht15
   refine TL.op (OpR.appendM (m := [44]) byteD 2 hx18 rfl rfl rfl rfl rfl rfl rfl rfl rfl (fun _ => rfl)) rfl (fun v19 => ?_)
   refine aA rfl rfl ?_
   refine TL.nil ?_
   obtain rfl := osi ht15
   exact ⟨_, Gst.only [1, 4, 5, 7, 9, 10, 11] rfl, v19, rfl⟩
 rintro _ ⟨y16, rfl⟩
 show T X _ _ _
 refine T.region ?_
 refine aA rfl rfl ?_
 refine TL.op1 (OpR.loadPtr 3 rfl rfl rfl rfl) rfl ?_
 refine aA rfl rfl ?_
 obtain ⟨x20, hx20, q8⟩ := bS q8
 refine TL.op1 (OpR.call [0, 1] fn198 (cell_Cell_Print_c hx20) rfl rfl rfl (fun _ => rfl)) rfl ?_
 obtain ⟨x21, hx21, q8⟩ := bS q8
 refine TL.op (OpR.appendM (m := x20) byteD 2 hx21 rfl rfl rfl rfl rfl rfl rfl rfl rfl (fun _ => rfl)) rfl (fun v22 => ?_)
 refine aA rfl rfl ?_
 refine aN rfl ?_
 refine T.region ?_
 iterate 2 refine aA rfl rfl ?_
 refine TL.nil ?_
 obtain rfl := osi q8
 exact ⟨m6, Nat.lt_succ_self _, _, gP [1, 4, 5, 9, 10, 11] [0, 1, 2] rfl rfl rfl, v22, (w64 (s4.1 + 1), x21), rfl, i9⟩
noncomputable def scan_Mark (a0 : Int) : Option (List UInt8) :=
  if a0 = 1 then
    some [10]
  else
    if a0 = 2 then
      some [13, 10]
    else
      if a0 = 3 then
        some [13]
      else
        some []
theorem scan_Mark_c {a0 : Int} {res : (List UInt8)} (h0 : scan_Mark a0 = some res) : CallF X 199 [dN a0] [] (fun x => .val (.string (bs res))) (fun x => []) := by
 unfold scan_Mark at h0
 refine CallF.mkG (X := X) rfl Tryz.func199 rfl rfl Tryz.ntmps199 rfl rfl ?_
 refine aS ?_
 refine aA rfl rfl ?_
 refine aN rfl ?_
 refine T.seq ?_
 refine aS ?_
 refine aA rfl rfl ?_
 refine aN rfl ?_
 refine T.block ?_
 refine aS ?_
 iterate 2 refine aA rfl rfl ?_
 refine aN rfl ?_
 rcases ite_some h0 with ⟨c1, h0⟩ | ⟨c1, h0⟩
 · refine T.condT rfl (beq_iff_eq.2 c1) ?_
   refine aS ?_
   refine aA rfl rfl ?_
   refine aN rfl ?_
   refine T.ret ?_
   obtain rfl := osi h0
   exact rO [] [2] rfl undef (cT rfl ResL.nil) rfl rfl rfl rfl
 refine T.condF rfl (beq_eq_false_iff_ne.2 c1) ?_
 refine aS ?_
 iterate 2 refine aA rfl rfl ?_
 refine aN rfl ?_
 rcases ite_some h0 with ⟨c2, h0⟩ | ⟨c2, h0⟩
 · refine T.condT rfl (beq_iff_eq.2 c2) ?_
   refine aS ?_
   refine aA rfl rfl ?_
   refine aN rfl ?_
   refine T.ret ?_
   obtain rfl := osi h0
   exact rO [] [2] rfl undef (cT rfl ResL.nil) rfl rfl rfl rfl
 refine T.condF rfl (beq_eq_false_iff_ne.2 c2) ?_
 refine aS ?_
 iterate 2 refine aA rfl rfl ?_
 refine aN rfl ?_
 rcases ite_some h0 with ⟨c3, h0⟩ | ⟨c3, h0⟩
 · refine T.condT rfl (beq_iff_eq.2 c3) ?_
   refine aS ?_
   refine aA rfl rfl ?_
   refine aN rfl ?_
   refine T.ret ?_
   obtain rfl := osi h0
   exact rO [] [2] rfl undef (cT rfl ResL.nil) rfl rfl rfl rfl
 refine T.condF rfl (beq_eq_false_iff_ne.2 c3) ?_
 refine aK rfl ?_
 refine aS ?_
 refine aA rfl rfl ?_
 refine aN rfl ?_
 refine T.ret ?_
 obtain rfl := osi h0
 exact rO [] [2] rfl undef (cT rfl ResL.nil) rfl rfl rfl rfl
noncomputable def grid_Grid_mark (a0 : grid_Grid) (a1 : row_Row) : Option (List UInt8) :=
  if a1.fEnd = 0 then
    bnd (scan_Mark a0.fEnd) fun x2 =>
    some x2
  else
    bnd (scan_Mark a1.fEnd) fun x3 =>
    some x3
theorem grid_Grid_mark_c {a0 : grid_Grid} {a1 : row_Row} {res : (List UInt8)} (h0 : grid_Grid_mark a0 a1 = some res) : CallF X 136 [.agg [(eOP a0.fRows.fRoot), dT a0.fTail, dN a0.fEnd], .agg [.sl 5 (List.map e_cell_Cell a1.fCells), dN a1.fEnd, dT a1.fHidden]] [] (fun x => .val (.string (bs res))) (fun x => []) := by
 unfold grid_Grid_mark at h0
 refine CallF.mkG (X := X) rfl Tryz.func136 rfl rfl Tryz.ntmps136 rfl rfl ?_
 refine aS ?_
 refine TL.op1 (OpR.boxImm rfl rfl) rfl ?_
 refine TL.op1 (OpR.boxImm rfl rfl) rfl ?_
 refine aA rfl rfl ?_
 refine aN rfl ?_
 refine T.seq ?_
 refine aS ?_
 iterate 3 refine aA rfl rfl ?_
 refine aN rfl ?_
 rcases ite_some h0 with ⟨c1, h0⟩ | ⟨c1, h0⟩
 · refine T.condT rfl (beq_iff_eq.2 c1) ?_
   refine aS ?_
   iterate 2 refine aA rfl rfl ?_
   obtain ⟨x2, hx2, h0⟩ := bS h0
   refine TL.op1 (OpR.call0 fn199 (scan_Mark_c hx2) rfl) rfl ?_
   refine aA rfl rfl ?_
   refine aN rfl ?_
   refine T.ret ?_
   obtain rfl := osi h0
   exact rO [] [4] rfl undef (cT rfl ResL.nil) rfl rfl rfl rfl
 refine T.condF rfl (beq_eq_false_iff_ne.2 c1) ?_
 refine aK rfl ?_
 refine aS ?_
 iterate 2 refine aA rfl rfl ?_
 obtain ⟨x3, hx3, h0⟩ := bS h0
 refine TL.op1 (OpR.call0 fn199 (scan_Mark_c hx3) rfl) rfl ?_
 refine aA rfl rfl ?_
 refine aN rfl ?_
 refine T.ret ?_
 obtain rfl := osi h0
 exact rO [] [4] rfl undef (cT rfl ResL.nil) rfl rfl rfl rfl
noncomputable def grid_Grid_Save_r0_2 (a0 : Int) (a1 : row_Row) (a2 : Option NP) (a3 : Bool) (a4 : Int) (a5 : List UInt8) (a6 : List UInt8) : Option (List UInt8) :=
  bnd (row_Row_Print a1 a5) fun x32 =>
  bnd (app 1 a6 x32) fun x33 =>
  bnd (bnd (grid_Grid_Len (⟨(⟨a2⟩ : tTr), a3, a4⟩ : grid_Grid)) fun x36 =>
  if a0 < (w64 (x36 - 1)) then
    some true
  else
    if a3 = true then
      some true
    else
      some ((x32.length : Int) == 0) : Option Bool) fun t35 =>
  if t35 = true then
    bnd (grid_Grid_mark (⟨(⟨a2⟩ : tTr), a3, a4⟩ : grid_Grid) a1) fun x41 =>
    bnd (app 1 x33 x41) fun x42 =>
    some x42
  else
    some x33
theorem grid_Grid_Save_r0_2_c {a0 : Int} {a1 : row_Row} {a2 : Option NP} {a3 : Bool} {a4 : Int} {a5 : List UInt8} {a6 : List UInt8} {b0 : Nat} {b1 : Nat} {b2 : Nat} {v3 : Value} {v4 : Value} {res : (List UInt8)} (h0 : grid_Grid_Save_r0_2 a0 a1 a2 a3 a4 a5 a6 = some res) : RoundF X b0 [dN a0, .agg [.sl 5 (List.map e_cell_Cell a1.fCells), dN a1.fEnd, dT a1.fHidden]] [.lp b0 .ready none [14, 15] rfA69_0 rfB69_0 [(5, (dP b2)), (3, .nod [dP b1]), (2, .nod [(eOP a2), dT a3, dN a4])] 42, .var b1 [.val v3] 264, .var b2 [.val v4] 122, .row v3 (lB a5) 1 5, .row v4 (lB a6) 1 5] (fun x => (dT true)) (fun x => [.lp b0 .ready none [14, 15] rfA69_0 rfB69_0 [(5, (dP b2)), (3, .nod [dP b1]), (2, .nod [(eOP a2), dT a3, dN a4])] 42, .var b1 [.val v3] 264, .var b2 [.val (vn x 0)] 122, .row v3 (lB a5) 1 5, .row (vn x 0) (lB res) 1 5]) := by
 unfold grid_Grid_Save_r0_2 at h0
 refine RoundF.mk (X := X) rfl rfl rfl ?_
 refine aS ?_
 refine aA rfl rfl ?_
 refine TL.nil ?_
 show T (X.inR b0) _ _ _
 refine T.region ?_
 refine TL.op (OpR.alloc rfl rfl (fun _ => rfl)) rfl (fun p31 => ?_)
 refine TL.op0 (OpR.store 5 rfl rfl rfl rfl rfl rfl rfl rfl) ?_
 refine TL.nil ?_
 refine RoundA.mk ?_
 refine T.block ?_
 refine aS ?_
 refine TL.op1 (OpR.loadPtr 5 rfl rfl rfl rfl) rfl ?_
 refine aA rfl rfl ?_
 obtain ⟨x32, hx32, h0⟩ := bS h0
 refine TL.op1 (OpR.call [1, 3] fn135 (row_Row_Print_c hx32) rfl rfl rfl (fun _ => rfl)) rfl ?_
 refine aA rfl rfl ?_
 refine TL.nil ?_
 show T (X.inR b0) _ _ _
 refine aS ?_
 refine TL.op1 (OpR.loadPtr 2 rfl rfl rfl rfl) rfl ?_
 refine aA rfl rfl ?_
 obtain ⟨x33, hx33, h0⟩ := bS h0
 refine TL.op (OpR.appendM (m := x32) byteD 4 hx33 rfl rfl rfl rfl rfl rfl rfl rfl rfl (fun _ => rfl)) rfl (fun v34 => ?_)
 refine TL.op0 (OpR.store 2 rfl rfl rfl rfl rfl rfl rfl rfl) ?_
 refine TL.nil ?_
 show T (X.inR b0) _ _ _
 refine T.seq ?_
 obtain ⟨t35, ht35, h0⟩ := bS h0
 refine T.cutC (fun S' => S' = ⟨[(35, (dT t35)), (7, (dP (blk p31))), (5, (dP b2)), (2, .nod [(eOP a2), dT a3, dN a4])], [.lp b0 .busy none [14, 15] rfA69_0 rfB69_0 [(5, (dP b2)), (3, .nod [dP b1]), (2, .nod [(eOP a2), dT a3, dN a4])] 42, .var b1 [.val v3] 264, .var b2 [.val v34] 122, .row v3 (lB a5) 1 5, .row v34 (lB x33) 1 5, .var (blk p31) [.sl 5 (List.map e_cell_Cell a1.fCells), dN a1.fEnd, dT a1.fHidden] 49], 42⟩) (fun _ h => h) ?_ ?_
 · refine T.region ?_
   iterate 2 refine aA rfl rfl ?_
   obtain ⟨x36, hx36, ht35⟩ := bS ht35
   refine TL.op1 (OpR.call0 fn22 (grid_Grid_Len_c hx36) rfl) rfl ?_
   iterate 3 refine aA rfl rfl ?_
   rcases ite_some ht35 with ⟨c37, ht35⟩ | ⟨c37, ht35⟩
   · refine TL.off rfl rfl rfl rfl (eT c37) rfl rfl ?_
     refine TL.off rfl rfl rfl rfl (eT c37) rfl rfl ?_
     refine TL.op1 (OpR.pickT rfl (eT c37) rfl) rfl ?_
     refine aA rfl rfl ?_
     refine TL.off rfl rfl rfl rfl rfl rfl rfl ?_
     refine TL.off rfl rfl rfl rfl rfl rfl rfl ?_
     refine TL.off rfl rfl rfl rfl rfl rfl rfl ?_
     refine TL.op1 (OpR.pickT rfl rfl rfl) rfl ?_
     refine TL.nil ?_
     obtain rfl := osi ht35
     exact ⟨_, Gst.only [2, 5, 7, 35] rfl, rfl⟩
   refine TL.on rfl rfl rfl rfl (eF c37) ?_
   refine aA rfl rfl ?_
   refine TL.on rfl rfl rfl rfl (eF c37) ?_
   refine aA rfl rfl ?_
   refine TL.op1 (OpR.pickF rfl (eF c37) rfl) rfl ?_
   refine aA rfl rfl ?_
   rcases ite_some ht35 with ⟨c38, ht35⟩ | ⟨c38, ht35⟩
   · refine TL.off rfl rfl rfl rfl (c38) rfl rfl ?_
     refine TL.off rfl rfl rfl rfl (c38) rfl rfl ?_
     refine TL.off rfl rfl rfl rfl (c38) rfl rfl ?_
     refine TL.op1 (OpR.pickT rfl (c38) rfl) rfl ?_
     refine TL.nil ?_
     obtain rfl := osi ht35
     exact ⟨_, Gst.only [2, 5, 7, 35] rfl, rfl⟩
   refine TL.on rfl rfl rfl rfl (eq_false_of_ne_true c38) ?_
   refine aA rfl rfl ?_
   refine TL.on rfl rfl rfl rfl (eq_false_of_ne_true c38) ?_
   refine TL.op1 (OpR.cast (OpR.pure rfl) (intE (lenM _ _))) rfl ?_
   refine TL.on rfl rfl rfl rfl (eq_false_of_ne_true c38) ?_
   refine aA rfl rfl ?_
   refine TL.op1 (OpR.pickF rfl (eq_false_of_ne_true c38) rfl) rfl ?_
   refine TL.nil ?_
   obtain rfl := osi ht35
   exact ⟨_, Gst.only [2, 5, 7, 35] rfl, rfl⟩
 rintro _ rfl
 show T (X.inR b0) _ _ _
 rcases ite_some h0 with ⟨c39, h0⟩ | ⟨c39, h0⟩
 rotate_left
 · refine T.condF rfl (eq_false_of_ne_true c39) ?_
   refine T.skip ?_
   obtain rfl := osi h0
   exact RoundG.mk (ks := [0, 1, 2, 3, 4]) (gP [] [0, 1, 2, 3, 4] rfl rfl rfl) (.tuple #[v34]) rfl rfl rfl rfl rfl
 refine T.condT rfl (c39) ?_
 obtain ⟨x41, hx41, h0⟩ := bS h0
 obtain ⟨x42, hx42, h0⟩ := bS h0
 refine T.drawS drawsX (fun env40 => [.val v34, .agg [(eOP a2), dT a3, dN a4], .agg [.sl 5 (List.map e_cell_Cell a1.fCells), dN a1.fEnd, dT a1.fHidden], .val (.string (bs x41)), .val (env40 4), .dead]) (fun D env40 => [.lp b0 .busy none [14, 15] rfA69_0 rfB69_0 [(5, (dP b2)), (3, .nod [dP b1]), (2, .nod [(eOP a2), dT a3, dN a4])] 42, .var b1 [.val v3] 264, (bif D 5 then .var b2 [.val (env40 4)] 122 else .var b2 [.val v34] 122), .row v3 (lB a5) 1 5, (bif D 4 then .row (env40 4) (lB x42) 1 5 else .row v34 (lB x33) 1 5), .var (blk p31) [.sl 5 (List.map e_cell_Cell a1.fCells), dN a1.fEnd, dT a1.fHidden] 49]) [0, 0, 0, 6, 15, 31] [] _ (by decide +kernel) (by decide +kernel) (fun _ => rfl) (fun _ => rfl) ?_ (fun _ => rfl) (fun _ => rfl) ?_
 rotate_left
 · intro env40
   obtain rfl := osi h0
   exact RoundG.mk (ks := [0, 1, 2, 3, 4]) (gP [] [0, 1, 2, 3, 4] rfl rfl rfl) (.tuple #[(env40 4)]) rfl rfl rfl rfl rfl
 refine OpsS.cons' true ?_ (fun _ _ _ _ _ _ _ => rfl) ?_
 · intro D env40 hA
   have e4 : D 4 = false := hA.no 4 _ rfl rfl
   have e5 : D 5 = false := hA.no 5 _ rfl rfl
   exact OpS.yp [(4, false), (5, false)] ⟨e4, e5, trivial⟩ (Want.plain rfl) (OpR.loadPtr 2 rfl rfl rfl rfl) (fun x => rfl) (fun x => rfl)
 refine aC ?_
 refine oT (.agg [.sl 5 (List.map e_cell_Cell a1.fCells), dN a1.fEnd, dT a1.fHidden]) (fun _ _ => OpR.loadPtr 5 rfl rfl rfl rfl) ?_
 refine oT (.val (.string (bs x41))) (fun _ _ => OpR.call0 fn136 (grid_Grid_mark_c hx41) rfl) ?_
 refine OpsS.cons' true ?_ (fun D hA env40 x j hj hD => match j, hj, hD with | 0, _, _ => rfl | 1, _, _ => rfl | 2, _, _ => rfl | 3, _, _ => rfl | 4, hj, _ => absurd rfl hj | 5, _, _ => rfl | _ + 6, _, _ => rfl) ?_
 · intro D env40 hA
   have e5 : D 5 = false := hA.no 5 _ rfl rfl
   exact OpS.yp [(5, false), (4, false)] ⟨e5, hA.me, trivial⟩ (Want.plain rfl) (OpR.appendStr (m := x41) 4 hx42 rfl rfl rfl rfl rfl rfl rfl rfl rfl rfl rfl (fun _ => rfl)) (fun x => rfl) (fun x => rfl)
 refine OpsS.cons' true ?_ (fun _ _ _ _ _ _ _ => rfl) ?_
 · intro D env40 hA
   have e4 : D 4 = true := hA.yes 4 _ rfl rfl
   exact OpS.yp [(4, true), (5, false)] ⟨e4, hA.me, trivial⟩ (Want.plain rfl) (OpR.store 2 rfl rfl rfl rfl rfl rfl rfl rfl) (fun x => rfl) (fun x => rfl)
 exact trivial
noncomputable def walk_Range_row_Row_1_3.l1 (a0 : Option NP) (a1 : Bool) (a2 : Int) (a4 : Int) (a6 : List UInt8) (s10 : Int × (List UInt8) × (List wFr)) : Option (Lp (Int × (List UInt8) × (List wFr)) (List UInt8)) :=
  if s10.1 < a4 then
    bnd (walk_stack_row_Row_top s10.2.2) fun x19 =>
    bnd (idx s10.2.2 x19) fun x20 =>
    bnd (some x20.fN) fun q21 => match q21 with
      | none =>
        none
      | some z22 =>
        bnd (o_tNd z22) fun x24 =>
        bnd (if x20.fNext = (x24.fItems.length : Int) then
          bnd (walk_stack_row_Row_forth s10.2.2) fun x29 =>
          some x29.2
        else
          some s10.2.2 : Option (List wFr)) fun t26 =>
        bnd (walk_stack_row_Row_top t26) fun x31 =>
        bnd (idx t26 x31) fun x32 =>
        bnd (some x32.fN) fun q33 => match q33 with
          | none =>
            none
          | some z34 =>
            bnd (o_tNd z34) fun x36 =>
            bnd (idx x36.fItems x32.fNext) fun x38 =>
            bnd (grid_Grid_Save_r0_2 s10.1 x38 a0 a1 a2 a6 s10.2.1) fun x39 =>
            some (Lp.next (w64 (s10.1 + 1), x39, (t26.set x31.toNat (⟨x32.fN, x32.fFirst, w64 (x32.fNext + 1)⟩ : wFr))))
  else
    some (Lp.done s10.2.1)
noncomputable def walk_Range_row_Row_1_3 (a0 : Option NP) (a1 : Bool) (a2 : Int) (a3 : Int) (a4 : Int) (a5 : Option NP) (a6 : List UInt8) : Option (List UInt8) :=
  if a3 = a4 then
    some []
  else
    bnd (tree_Tree_row_Row_Root (⟨a5⟩ : tTr)) fun x4 =>
    match x4 with
    | .inl x4 =>
        none
    | .inr x4 =>
        bnd (walk_stack_row_Row_down x4.1 x4.2.1 x4.2.2 0 a3) fun x5 =>
        bnd (loop (walk_Range_row_Row_1_3.l1 a0 a1 a2 a4 a6) (a3, [], x5) : Option (List UInt8)) fun t6 =>
        some t6
theorem walk_Range_row_Row_1_3_c {a0 : Option NP} {a1 : Bool} {a2 : Int} {a3 : Int} {a4 : Int} {a5 : Option NP} {a6 : List UInt8} {b0 : Nat} {b1 : Nat} {b2 : Nat} {b3 : Nat} {b4 : Nat} {b5 : Nat} {v6 : Value} {res : (List UInt8)} (h0 : walk_Range_row_Row_1_3 a0 a1 a2 a3 a4 a5 a6 = some res) : CallF X 146 [.fn (.yield b0) [] [], dP b1, dP b2, dP b3] [.lp b0 .ready none [14, 15] rfA69_0 rfB69_0 [(5, (dP b5)), (3, .nod [dP b4]), (2, .nod [(eOP a0), dT a1, dN a2])] 42, .var b1 [dN a3] 3, .var b2 [dN a4] 3, .var b3 [(eOP a5)] 25, .var b4 [.val v6] 264, .var b5 [.val (.slice none 0 0)] 122, .row v6 (lB a6) 1 5] (fun x => .tup []) (fun x => [.lp b0 .ready none [14, 15] rfA69_0 rfB69_0 [(5, (dP b5)), (3, .nod [dP b4]), (2, .nod [(eOP a0), dT a1, dN a2])] 42, .var b1 [dN a3] 3, .var b2 [dN a4] 3, .var b3 [(eOP a5)] 25, .var b4 [.val v6] 264, .var b5 [.val (vn x 0)] 122, .row v6 (lB a6) 1 5, .row (vn x 0) (lB res) 1 5]) := by
 unfold walk_Range_row_Row_1_3 at h0
 refine CallF.mkG (X := X) rfl Tryz.func146 rfl rfl Tryz.ntmps146 rfl rfl ?_
 refine T.seq ?_
 refine aS ?_
 refine TL.op1 (OpR.loadPtr 1 rfl rfl rfl rfl) rfl ?_
 refine TL.op1 (OpR.loadPtr 2 rfl rfl rfl rfl) rfl ?_
 refine aA rfl rfl ?_
 refine aN rfl ?_
 rcases ite_some h0 with ⟨c1, h0⟩ | ⟨c1, h0⟩
 · refine T.condT rfl (beq_iff_eq.2 c1) ?_
   refine T.ret ?_
   obtain rfl := osi h0
   exact PostG.retP (ks := [0, 1, 2, 3, 4, 5, 6, 7]) (Gst.trans (Gst.only [] rfl) (Gst.nilRow (ow := [.lp b0 .ready none [14, 15] rfA69_0 rfB69_0 [(5, (dP b5)), (3, .nod [dP b4]), (2, .nod [(eOP a0), dT a1, dN a2])] 42, .var b1 [dN a3] 3, .var b2 [dN a4] 3, .var b3 [(eOP a5)] 25, .var b4 [.val v6] 264, .var b5 [.val (.slice none 0 0)] 122, .row v6 (lB a6) 1 5]) 1 5 rfl)) (.tuple #[(.slice none 0 0)]) ResL.nil rfl rfl rfl rfl
 refine T.condF rfl (beq_eq_false_iff_ne.2 c1) ?_
 refine aK rfl ?_
 refine aS ?_
 refine TL.op (OpR.alloc rfl rfl (fun _ => rfl)) rfl (fun p2 => ?_)
 refine aN rfl ?_
 refine T.seq ?_
 obtain ⟨x4, hx4, h0⟩ := bS h0
 rcases x4 with x4 | x4
 · dsimp only at h0
   exact (by cases h0)
 dsimp only at h0
 obtain ⟨x5, hx5, h0⟩ := bS h0
 refine T.drawS drawsX (fun env3 => [.agg [(eOP a5)], .nod [.sl 1 (List.map eNP x4.1), .sl 3 (List.map e_row_Row x4.2.1), dN x4.2.2], dN a3, .tup []]) (fun D env3 => [.lp b0 .ready none [14, 15] rfA69_0 rfB69_0 [(5, (dP b5)), (3, .nod [dP b4]), (2, .nod [(eOP a0), dT a1, dN a2])] 42, .var b1 [dN a3] 3, .var b2 [dN a4] 3, .var b3 [(eOP a5)] 25, .var b4 [.val v6] 264, .var b5 [.val (.slice none 0 0)] 122, .row v6 (lB a6) 1 5, (bif D 3 then .var (blk p2) [.val (vn (env3 3) 0)] 228 else .var (blk p2) [.val (.slice none 0 0)] 228)] ++ (bif D 3 then [.row (vn (env3 3) 0) (List.map e_wFr x5) 3 234] else [])) [0, 1, 0, 7] [0, 1, 2, 5] _ (by decide +kernel) (by decide +kernel) (fun _ => rfl) (fun _ => rfl) ?_ (fun _ => rfl) (fun _ => rfl) ?_
 · refine oT (.agg [(eOP a5)]) (fun _ _ => OpR.loadPtr 3 rfl rfl rfl rfl) ?_
   refine oT (.nod [.sl 1 (List.map eNP x4.1), .sl 3 (List.map e_row_Row x4.2.1), dN x4.2.2]) (fun _ _ => OpR.call0 fn148 (tree_Tree_row_Row_Root_cx2 hx4) rfl) ?_
   refine oT ((dN a3)) (fun _ _ => OpR.loadPtr 1 rfl rfl rfl rfl) ?_
   refine OpsS.cons' true ?_ (fun D hA env3 x j hj hD => match j, hj, hD with | 0, _, _ => rfl | 1, _, _ => rfl | 2, _, _ => rfl | 3, hj, _ => absurd rfl hj | _ + 4, _, _ => rfl) ?_
   · intro D env3 hA
     exact OpS.yp [(3, false)] ⟨hA.me, trivial⟩ (Want.plain rfl) (OpR.call [7] fn147 (walk_stack_row_Row_down_c hx5) rfl rfl rfl (fun _ => rfl)) (fun x => rfl) (fun x => rfl)
   exact trivial
 intro env3
 show T X _ _ _
 refine aS ?_
 refine TL.op1 (OpR.loadPtr 1 rfl rfl rfl rfl) rfl ?_
 refine aA rfl rfl ?_
 refine aN rfl ?_
 obtain ⟨t6, ht6, h0⟩ := bS h0
 refine T.cutN (fun S' => ∃ y7 : Value, S' = ⟨[], [.lp b0 .ready none [14, 15] rfA69_0 rfB69_0 [(5, (dP b5)), (3, .nod [dP b4]), (2, .nod [(eOP a0), dT a1, dN a2])] 42, .var b1 [dN a3] 3, .var b2 [dN a4] 3, .var b3 [(eOP a5)] 25, .var b4 [.val v6] 264, .var b5 [.val y7] 122, .row v6 (lB a6) 1 5, .row y7 (lB t6) 1 5], 62⟩) (fun _ _ g ⟨h, S', ds, g', r⟩ => ⟨h, S', ds, Gst.trans g g', r⟩) ?_ ?_
 rotate_left
 · rintro _ ⟨y7, rfl⟩
   obtain rfl := osi h0
   exact PostG.finP (ks := [0, 1, 2, 3, 4, 5, 6, 7]) (Gst.only [] rfl) (.tuple #[y7]) ResL.nil rfl rfl rfl rfl
 refine T.block ?_
 obtain ⟨n11, n16⟩ := loop_some ht6
 refine T.loop (fun n S' => ∃ S'', Gst S' S'' ∧ ∃ y8 : Value, ∃ y9 : Value, ∃ s10 : Int × (List UInt8) × (List wFr), S'' = ⟨[(6, (dN s10.1)), (5, (dP (blk p2))), (2, (dP b2)), (0, .fn (.yield b0) [] [])], [.lp b0 .ready none [14, 15] rfA69_0 rfB69_0 [(5, (dP b5)), (3, .nod [dP b4]), (2, .nod [(eOP a0), dT a1, dN a2])] 42, .var b1 [dN a3] 3, .var b2 [dN a4] 3, .var b3 [(eOP a5)] 25, .var b4 [.val v6] 264, .var b5 [.val y8] 122, .row v6 (lB a6) 1 5, .var (blk p2) [.val y9] 228, .row y8 (lB s10.2.1) 1 5, .row y9 (List.map e_wFr s10.2.2) 3 234], 62⟩ ∧ iter (walk_Range_row_Row_1_3.l1 a0 a1 a2 a4 a6) n s10 = some t6) n11 ?_ ?_
 · exact ⟨_, Gst.trans (Gst.only [0, 2, 5, 6] rfl) (Gst.trans (Gst.nilRow (ow := [.lp b0 .ready none [14, 15] rfA69_0 rfB69_0 [(5, (dP b5)), (3, .nod [dP b4]), (2, .nod [(eOP a0), dT a1, dN a2])] 42, .var b1 [dN a3] 3, .var b2 [dN a4] 3, .var b3 [(eOP a5)] 25, .var b4 [.val v6] 264, .var b5 [.val (.slice none 0 0)] 122, .row v6 (lB a6) 1 5, .var (blk p2) [.val (vn (env3 3) 0)] 228, .row (vn (env3 3) 0) (List.map e_wFr x5) 3 234]) 1 5 rfl) (Gst.pick [0, 1, 2, 3, 4, 5, 6, 7, 9, 8] rfl rfl)), (.slice none 0 0), (vn (env3 3) 0), (a3, [], x5), rfl, n16⟩
 rintro n11 _ ⟨_, g, y8, y9, s10, rfl, i15⟩
 refine T.ghost g ?_
 obtain ⟨m12, q13, rfl, q14, i15⟩ := iter_succ i15
 unfold walk_Range_row_Row_1_3.l1 at q14
 refine T.seq ?_
 refine aS ?_
 refine aA rfl rfl ?_
 refine TL.op1 (OpR.loadPtr 2 rfl rfl rfl rfl) rfl ?_
 refine aA rfl rfl ?_
 refine aN rfl ?_
 rcases ite_some q14 with ⟨c18, q14⟩ | ⟨c18, q14⟩
 rotate_left
 · refine T.condF rfl (eF c18) ?_
   refine T.exit ?_
   obtain rfl := osi q14
   obtain rfl : _ = _ := i15
   exact ⟨_, gP [] [0, 1, 2, 3, 4, 5, 6, 8] rfl rfl rfl, y8, rfl⟩
 refine T.condT rfl (eT c18) ?_
 refine aK rfl ?_
 refine T.seq ?_
 refine T.block ?_
 refine T.seq ?_
 refine aS ?_
 obtain ⟨x19, hx19, q14⟩ := bS q14
 refine TL.op1 (OpR.call [7, 9] fn149 (walk_stack_row_Row_top_c hx19) rfl rfl rfl (fun _ => rfl)) rfl ?_
 refine aA rfl rfl ?_
 refine aN rfl ?_
 refine T.seq ?_
 obtain ⟨x20, hx20, q14⟩ := bS q14
 obtain ⟨q21, hq21, q14⟩ := bS q14
 rcases q21 with _ | z22
 · dsimp only at q14
   exact (by cases q14)
 dsimp only at q14
 obtain ⟨x24, hx24, q14⟩ := bS q14
 rw [o_tNd_eq hx24] at hq21
 refine T.drawQ drawsX [.val (.pointer (some ⟨blk y9, x19.toNat * 3, none⟩)), .val (.pointer (some ⟨blk y9, x19.toNat * 3, none⟩)), .val (.pointer (some ⟨blk y9, x19.toNat * 3 + 2, none⟩)), dN x20.fNext, .val (.pointer (some ⟨blk y9, x19.toNat * 3, none⟩)), .val (.pointer (some ⟨blk y9, x19.toNat * 3, none⟩)), .val (.pointer (some ⟨blk y9, x19.toNat * 3, none⟩)), .nod [.sl 1 (List.map eNP x24.fKids), .sl 3 (List.map e_row_Row x24.fItems), dN x24.fN], .nod [.sl 1 (List.map eNP x24.fKids), .sl 3 (List.map e_row_Row x24.fItems), dN x24.fN], .nod [.sl 3 (List.map e_row_Row x24.fItems), dN x24.fN], .sl 3 (List.map e_row_Row x24.fItems), dN (x24.fItems.length : Int), dT (x20.fNext == (x24.fItems.length : Int))] [0, 2, 5, 6, 35] (by decide +kernel) rfl ?_ rfl ?_
 · iterate 3 refine aB rfl rfl rfl ?_
   refine OpsQ.yes (Want.plain rfl) rfl (OpR.rowLoadM (j := x19) e_wFr 9 hx20 rfl rfl rfl rfl) ?_
   iterate 3 refine aB rfl rfl rfl ?_
   refine OpsQ.yes (Want.plain rfl) rfl (OpR.cast (OpR.rowLoad0M (j := x19) e_wFr 9 hx20 rfl rfl rfl rfl) (congrArg eOP (osi hq21))) ?_
   iterate 3 refine aB rfl rfl rfl ?_
   refine OpsQ.yes (Want.plain rfl) rfl (OpR.cast (OpR.pure rfl) (intE (lenM _ _))) ?_
   refine aB rfl rfl rfl ?_
   exact OpsQ.nil
 show T X _ _ _
 obtain ⟨t26, ht26, q14⟩ := bS q14
 refine T.cutC (fun S' => ∃ y27 : Value, S' = ⟨[(6, (dN s10.1)), (5, (dP (blk p2))), (2, (dP b2)), (0, .fn (.yield b0) [] [])], [.lp b0 .ready none [14, 15] rfA69_0 rfB69_0 [(5, (dP b5)), (3, .nod [dP b4]), (2, .nod [(eOP a0), dT a1, dN a2])] 42, .var b1 [dN a3] 3, .var b2 [dN a4] 3, .var b3 [(eOP a5)] 25, .var b4 [.val v6] 264, .var b5 [.val y8] 122, .row v6 (lB a6) 1 5, .var (blk p2) [.val y27] 228, .row y8 (lB s10.2.1) 1 5, .row y27 (List.map e_wFr t26) 3 234], 62⟩) (fun _ h => h) ?_ ?_
 · rcases ite_some ht26 with ⟨c28, ht26⟩ | ⟨c28, ht26⟩
   rotate_left
   · refine T.condF rfl (beq_eq_false_iff_ne.2 c28) ?_
     refine T.skip ?_
     obtain rfl := osi ht26
     exact ⟨_, Gst.only [0, 2, 5, 6] rfl, y9, rfl⟩
   refine T.condT rfl (beq_iff_eq.2 c28) ?_
   refine T.region ?_
   obtain ⟨x29, hx29, ht26⟩ := bS ht26
   refine TL.op (OpR.call [7, 9] fn150 (walk_stack_row_Row_forth_c hx29) rfl rfl rfl (fun _ => rfl)) rfl (fun w30 => ?_)
   refine TL.nil ?_
   obtain rfl := osi ht26
   exact ⟨_, Gst.only [0, 2, 5, 6] rfl, (vn w30 0), rfl⟩
 rintro _ ⟨y27, rfl⟩
 show T X _ _ _
 refine aS ?_
 obtain ⟨x31, hx31, q14⟩ := bS q14
 refine TL.op1 (OpR.call [7, 9] fn149 (walk_stack_row_Row_top_c hx31) rfl rfl rfl (fun _ => rfl)) rfl ?_
 refine aA rfl rfl ?_
 refine aN rfl ?_
 refine T.seq ?_
 refine T.seq ?_
 obtain ⟨x32, hx32, q14⟩ := bS q14
 obtain ⟨q33, hq33, q14⟩ := bS q14
 rcases q33 with _ | z34
 · dsimp only at q14
   exact (by cases q14)
 dsimp only at q14
 obtain ⟨x36, hx36, q14⟩ := bS q14
 rw [o_tNd_eq hx36] at hq33
 obtain ⟨x38, hx38, q14⟩ := bS q14
 obtain ⟨x39, hx39, q14⟩ := bS q14
 refine T.drawS drawsX (fun env37 => [.fn (.yield b0) [] [], dN s10.1, .val (.pointer (some ⟨blk y27, x31.toNat * 3, none⟩)), .val (.pointer (some ⟨blk y27, x31.toNat * 3, none⟩)), .val (.pointer (some ⟨blk y27, x31.toNat * 3, none⟩)), .nod [.sl 1 (List.map eNP x36.fKids), .sl 3 (List.map e_row_Row x36.fItems), dN x36.fN], .nod [.sl 1 (List.map eNP x36.fKids), .sl 3 (List.map e_row_Row x36.fItems), dN x36.fN], .nod [.sl 3 (List.map e_row_Row x36.fItems), dN x36.fN], .sl 3 (List.map e_row_Row x36.fItems), .val (.pointer (some ⟨blk y27, x31.toNat * 3, none⟩)), .val (.pointer (some ⟨blk y27, x31.toNat * 3, none⟩)), .val (.pointer (some ⟨blk y27, x31.toNat * 3 + 2, none⟩)), dN x32.fNext, .nod [.sl 5 (List.map e_cell_Cell x38.fCells), dN x38.fEnd, dT x38.fHidden], .agg [.sl 5 (List.map e_cell_Cell x38.fCells), dN x38.fEnd, dT x38.fHidden], dT true, dT false]) (fun D env37 => [.lp b0 .ready none [14, 15] rfA69_0 rfB69_0 [(5, (dP b5)), (3, .nod [dP b4]), (2, .nod [(eOP a0), dT a1, dN a2])] 42, .var b1 [dN a3] 3, .var b2 [dN a4] 3, .var b3 [(eOP a5)] 25, .var b4 [.val v6] 264, (bif D 15 then .var b5 [.val (vn (env37 15) 0)] 122 else .var b5 [.val y8] 122), .row v6 (lB a6) 1 5, .var (blk p2) [.val y27] 228, (bif D 15 then .row (vn (env37 15) 0) (lB x39) 1 5 else .row y8 (lB s10.2.1) 1 5), .row y27 (List.map e_wFr t26) 3 234]) [0, 0, 0, 4, 12, 28, 60, 124, 252, 0, 512, 1536, 3584, 8188, 16380, 32767, 65535] [0, 2, 5, 6, 8, 54] _ (by decide +kernel) (by decide +kernel) (fun _ => rfl) (fun _ => rfl) ?_ (fun _ => rfl) (fun _ => rfl) ?_
 rotate_left
 · intro env37
   show T X _ _ _
   refine T.condF rfl rfl ?_
   refine aK rfl ?_
   refine T.region ?_
   iterate 3 refine aA rfl rfl ?_
   refine TL.op1 (OpR.rowLoadM (j := x31) e_wFr 9 hx32 rfl rfl rfl rfl) rfl ?_
   iterate 3 refine aA rfl rfl ?_
   refine TL.op0 (OpR.rowStoreM (j := x31) e_wFr (⟨x32.fN, x32.fFirst, w64 (x32.fNext + 1)⟩ : wFr) 9 hx32 rfl rfl rfl rfl rfl rfl rfl rfl rfl) ?_
   refine aN rfl ?_
   refine T.region ?_
   iterate 3 refine aA rfl rfl ?_
   refine TL.nil ?_
   obtain rfl := osi q14
   exact ⟨m12, Nat.lt_succ_self _, _, Gst.only [0, 2, 5, 6] rfl, (vn (env37 15) 0), y27, (w64 (s10.1 + 1), x39, (t26.set x31.toNat (⟨x32.fN, x32.fFirst, w64 (x32.fNext + 1)⟩ : wFr))), rfl, i15⟩
 iterate 5 refine aC ?_
 refine oT (.nod [.sl 1 (List.map eNP x36.fKids), .sl 3 (List.map e_row_Row x36.fItems), dN x36.fN]) (fun _ _ => OpR.cast (OpR.rowLoad0M (j := x31) e_wFr 9 hx32 rfl rfl rfl rfl) (congrArg eOP (osi hq33))) ?_
 iterate 6 refine aC ?_
 refine oT ((dN x32.fNext)) (fun _ _ => OpR.rowLoadM (j := x31) e_wFr 9 hx32 rfl rfl rfl rfl) ?_
 refine oT (.nod [.sl 5 (List.map e_cell_Cell x38.fCells), dN x38.fEnd, dT x38.fHidden]) (fun _ _ => OpR.indexM e_row_Row hx38 rfl rfl rfl rfl rfl) ?_
 refine aC ?_
 refine OpsS.cons' true ?_ (fun D hA env37 x j hj hD => match j, hj, hD with | 0, _, _ => rfl | 1, _, _ => rfl | 2, _, _ => rfl | 3, _, _ => rfl | 4, _, _ => rfl | 5, _, _ => rfl | 6, _, _ => rfl | 7, _, _ => rfl | 8, _, _ => rfl | 9, _, _ => rfl | 10, _, _ => rfl | 11, _, _ => rfl | 12, _, _ => rfl | 13, _, _ => rfl | 14, _, _ => rfl | 15, hj, _ => absurd rfl hj | 16, _, _ => rfl | _ + 17, _, _ => rfl) ?_
 · intro D env37 hA
   exact OpS.yp [(15, false)] ⟨hA.me, trivial⟩ (Want.plain rfl) (OpR.callY [0, 4, 5, 6, 8] rfl (grid_Grid_Save_r0_2_c hx39) rfl rfl rfl (fun _ => rfl)) (fun x => rfl) (fun x => rfl)
 refine aC ?_
 exact trivial
noncomputable def grid_Grid_Save (a0 : grid_Grid) (a1 : List UInt8) : Option (List UInt8) :=
  bnd (grid_Grid_Len a0) fun x3 =>
  bnd (walk_Range_row_Row a0.fRows 0 x3) fun x4 =>
  bnd (walk_Range_row_Row_1_3 a0.fRows.fRoot a0.fTail a0.fEnd x4.1 x4.2.1 x4.2.2 a1) fun x6 =>
  some x6
theorem grid_Grid_Save_c {a0 : grid_Grid} {a1 : List UInt8} {b0 : Nat} {v1 : Value} {res : (List UInt8)} (h0 : grid_Grid_Save a0 a1 = some res) : CallF X 69 [.agg [(eOP a0.fRows.fRoot), dT a0.fTail, dN a0.fEnd], dP b0] [.var b0 [.val v1] 264, .row v1 (lB a1) 1 5] (fun x => .sl 1 (lB res)) (fun x => [.var b0 [.val v1] 264, .row v1 (lB a1) 1 5]) := by
 unfold grid_Grid_Save at h0
 refine CallF.mkG (X := X) rfl Tryz.func69 rfl rfl Tryz.ntmps69 rfl rfl ?_
 refine aS ?_
 refine TL.op1 (OpR.boxImm rfl rfl) rfl ?_
 refine TL.op1 (OpR.boxImm rfl rfl) rfl ?_
 refine aA rfl rfl ?_
 refine aN rfl ?_
 refine aS ?_
 refine TL.op (OpR.alloc rfl rfl (fun _ => rfl)) rfl (fun p1 => ?_)
 refine aN rfl ?_
 refine T.seq ?_
 refine T.seq ?_
 obtain ⟨x3, hx3, h0⟩ := bS h0
 obtain ⟨x4, hx4, h0⟩ := bS h0
 refine T.drawS drawsX (fun env2 => [.nod [(eOP a0.fRows.fRoot), dT a0.fTail, dN a0.fEnd], .agg [(eOP a0.fRows.fRoot)], .agg [(eOP a0.fRows.fRoot), dT a0.fTail, dN a0.fEnd], dN x3, .fn (.func 146) [] [dP (blk (vn (env2 4) 0)), dP (blk (vn (env2 4) 1)), dP (blk (vn (env2 4) 2))]]) (fun D env2 => [.var b0 [.val v1] 264, .row v1 (lB a1) 1 5, .var (blk p1) [.val (.slice none 0 0)] 122] ++ (bif D 4 then [.var (blk (vn (env2 4) 0)) [dN x4.1] 3] else []) ++ (bif D 4 then [.var (blk (vn (env2 4) 1)) [dN x4.2.1] 3] else []) ++ (bif D 4 then [.var (blk (vn (env2 4) 2)) [(eOP x4.2.2)] 25] else [])) [0, 1, 0, 4, 15] [2, 3, 4, 5, 13] _ (by decide +kernel) (by decide +kernel) (fun _ => rfl) (fun _ => rfl) ?_ (fun _ => rfl) (fun _ => rfl) ?_
 rotate_left
 · intro env2
   show T X _ _ _
   refine T.block ?_
   obtain ⟨x6, hx6, h0⟩ := bS h0
   refine T.rangeN (A := rfA69_0) (B := rfB69_0) [2, 3, 5] [3, 4, 5, 0, 2, 1] (.inl rfl) rfl rfl rfl rfl rfl fn146 rfl rfl (fun l5 => (walk_Range_row_Row_1_3_c hx6)) (fun _ => rfl) (fun w7 => ?_)
   show T X _ _ _
   refine aS ?_
   refine TL.op1 (OpR.loadPtr 2 rfl rfl rfl rfl) rfl ?_
   refine aA rfl rfl ?_
   refine aN rfl ?_
   refine T.ret ?_
   obtain rfl := osi h0
   exact PostG.retP (ks := [0, 1]) (Gst.trans (Gst.only [4] rfl) (Gst.trans (Gst.freezeRow 6 rfl rfl (ReS.cons (Re.base .all) ReS.nil) (ReO.same (ReO.same (ReO.var (ReL.cons (Re.base .all) ReL.nil) (ReO.same (ReO.same (ReO.same (ReO.same ReO.nil)))))))) (Gst.pick [0, 1] rfl rfl))) undef (cT rfl ResL.nil) rfl rfl rfl rfl
 iterate 3 refine aC ?_
 refine oT ((dN x3)) (fun _ _ => OpR.call0 fn22 (grid_Grid_Len_c hx3) rfl) ?_
 refine OpsS.cons' true ?_ (fun D hA env2 x j hj hD => match j, hj, hD with | 0, _, _ => rfl | 1, _, _ => rfl | 2, _, _ => rfl | 3, _, _ => rfl | 4, hj, _ => absurd rfl hj | _ + 5, _, _ => rfl) ?_
 · intro D env2 hA
   exact OpS.yp [(4, false)] ⟨hA.me, trivial⟩ (Want.plain rfl) (OpR.call [] fn80 (walk_Range_row_Row_c hx4) rfl rfl rfl (fun _ => rfl)) (fun x => rfl) (fun x => rfl)
 exact trivial
noncomputable def cols_Pad_1 (a0 : Int) (a1 : row_Row) (a2 : Int) : Option row_Row :=
  bnd (row_Row_Pad a1 a2) fun x2 =>
  some x2
theorem cols_Pad_1_c {a0 : Int} {a1 : row_Row} {a2 : Int} {b0 : Nat} {res : row_Row} (h0 : cols_Pad_1 a0 a1 a2 = some res) : CallF X 138 [dN a0, .agg [.sl 5 (List.map e_cell_Cell a1.fCells), dN a1.fEnd, dT a1.fHidden], dP b0] [.var b0 [dN a2] 3] (fun x => .agg [.sl 5 (List.map e_cell_Cell res.fCells), dN res.fEnd, dT res.fHidden]) (fun x => [.var b0 [dN a2] 3]) := by
 unfold cols_Pad_1 at h0
 refine CallF.mkG (X := X) rfl Tryz.func138 rfl rfl Tryz.ntmps138 rfl rfl ?_
 refine aS ?_
 refine TL.op1 (OpR.boxImm rfl rfl) rfl ?_
 refine TL.op (OpR.alloc rfl rfl (fun _ => rfl)) rfl (fun p1 => ?_)
 refine aN rfl ?_
 refine aS ?_
 refine aA rfl rfl ?_
 refine TL.op1 (OpR.loadPtr 0 rfl rfl rfl rfl) rfl ?_
 obtain ⟨x2, hx2, h0⟩ := bS h0
 refine TL.op1 (OpR.call0 fn90 (row_Row_Pad_c hx2) rfl) rfl ?_
 refine TL.op0 (OpR.store 1 rfl rfl rfl rfl rfl rfl rfl rfl) ?_
 refine aN rfl ?_
 refine T.ret ?_
 obtain rfl := osi h0
 exact rO [0] [5] rfl undef (cV 1 rfl rfl rfl rfl ResL.nil) rfl rfl rfl rfl
noncomputable def walk_Map_row_Row_2.l1 (a1 : Int) (x3 : (List row_Row)) (s6 : Int × (List row_Row)) : Option (Lp (Int × (List row_Row)) (List row_Row)) :=
  if s6.1 < (x3.length : Int) then
    bnd (idx s6.2 s6.1) fun x15 =>
    bnd (cols_Pad_1 s6.1 x15 a1) fun x17 =>
    some (Lp.next (w64 (s6.1 + 1), (s6.2.set s6.1.toNat x17)))
  else
    some (Lp.done s6.2)
noncomputable def walk_Map_row_Row_2 (a0 : tTr) (a1 : Int) : Option tTr :=
  bnd (walk_All_row_Row a0) fun x2 =>
  bnd (slices_Clone_row_Row_row_Row x2) fun x3 =>
  bnd (loop (walk_Map_row_Row_2.l1 a1 x3) (0, x3) : Option (List row_Row)) fun t5 =>
  bnd (tree_Of_row_Row t5) fun x18 =>
  some x18
theorem walk_Map_row_Row_2_c {a0 : tTr} {a1 : Int} {b0 : Nat} {res : tTr} (h0 : walk_Map_row_Row_2 a0 a1 = some res) : CallF X 137 [.agg [(eOP a0.fRoot)], .fn (.func 138) [] [dP b0]] [.var b0 [dN a1] 3] (fun x => .agg [(eOP res.fRoot)]) (fun x => [.var b0 [dN a1] 3]) := by
 unfold walk_Map_row_Row_2 at h0
 refine CallF.mkG (X := X) rfl Tryz.func137 rfl rfl Tryz.ntmps137 rfl rfl ?_
 refine aS ?_
 refine TL.op1 (OpR.boxImm rfl rfl) rfl ?_
 refine TL.op (OpR.alloc rfl rfl (fun _ => rfl)) rfl (fun p1 => ?_)
 refine aN rfl ?_
 refine aS ?_
 refine aA rfl rfl ?_
 obtain ⟨x2, hx2, h0⟩ := bS h0
 refine TL.op1 (OpR.call0 fn100 (walk_All_row_Row_c hx2) rfl) rfl ?_
 obtain ⟨x3, hx3, h0⟩ := bS h0
 refine TL.op (OpR.call [] fn191 (slices_Clone_row_Row_row_Row_c hx3) rfl rfl rfl (fun _ => rfl)) rfl (fun w4 => ?_)
 refine aA rfl rfl ?_
 refine aN rfl ?_
 refine T.seq ?_
 refine aS ?_
 refine aA rfl rfl ?_
 refine TL.op1 (OpR.rowLenM e_row_Row 2 rfl rfl rfl rfl) rfl ?_
 refine aA rfl rfl ?_
 refine aN rfl ?_
 obtain ⟨t5, ht5, h0⟩ := bS h0
 refine T.cutC (fun S' => S' = ⟨[(5, .val (vn w4 0)), (4, (dP (blk p1)))], [.var b0 [dN a1] 3, .var (blk p1) [(eOP none)] 25, .row (vn w4 0) (List.map e_row_Row t5) 3 49], 28⟩) (fun _ h => h) ?_ ?_
 rotate_left
 · rintro _ rfl
   show T X _ _ _
   refine aS ?_
   refine aA rfl rfl ?_
   refine TL.ghost (Gst.freezeRow 2 rfl rfl (ReS.cons (Re.base .all) (ReS.refl _)) (ReO.same (ReO.same (ReO.same ReO.nil)))) ?_
   obtain ⟨x18, hx18, h0⟩ := bS h0
   refine TL.op1 (OpR.call0 fn101 (tree_Of_row_Row_c hx18) rfl) rfl ?_
   refine TL.op0 (OpR.store 1 rfl rfl rfl rfl rfl rfl rfl rfl) ?_
   refine aN rfl ?_
   refine T.ret ?_
   obtain rfl := osi h0
   exact rP [0] [4] [0, 1] rfl rfl rfl undef (cV 1 rfl rfl rfl rfl ResL.nil) rfl rfl rfl rfl
 refine T.block ?_
 obtain ⟨n7, n12⟩ := loop_some ht5
 refine T.loop (fun n S' => ∃ S'', Gst S' S'' ∧ ∃ s6 : Int × (List row_Row), S'' = ⟨[(13, (dN s6.1)), (12, (dN (x3.length : Int))), (11, .val (vn w4 0)), (5, .val (vn w4 0)), (4, (dP (blk p1))), (1, .fn (.func 138) [] [dP b0])], [.var b0 [dN a1] 3, .var (blk p1) [(eOP none)] 25, .row (vn w4 0) (List.map e_row_Row s6.2) 3 49], 28⟩ ∧ iter (walk_Map_row_Row_2.l1 a1 x3) n s6 = some t5) n7 ?_ ?_
 · exact ⟨_, Gst.only [1, 4, 5, 11, 12, 13] rfl, (0, x3), rfl, n12⟩
 rintro n7 _ ⟨_, g, s6, rfl, i11⟩
 refine T.ghost g ?_
 obtain ⟨m8, q9, rfl, q10, i11⟩ := iter_succ i11
 unfold walk_Map_row_Row_2.l1 at q10
 refine aS ?_
 refine aA rfl rfl ?_
 refine aN rfl ?_
 refine T.seq ?_
 rcases ite_some q10 with ⟨c14, q10⟩ | ⟨c14, q10⟩
 rotate_left
 · refine T.condF rfl (eF c14) ?_
   refine T.exit ?_
   obtain rfl := osi q10
   obtain rfl : _ = _ := i11
   exact ⟨_, Gst.only [4, 5] rfl, rfl⟩
 refine T.condT rfl (eT c14) ?_
 refine aK rfl ?_
 refine T.seq ?_
 refine T.block ?_
 refine aS ?_
 refine aA rfl rfl ?_
 obtain ⟨x15, hx15, q10⟩ := bS q10
 refine TL.op1 (OpR.rowIndexM e_row_Row 2 hx15 rfl rfl rfl rfl rfl rfl rfl) rfl ?_
 refine TL.op1 (OpR.rowLoad0M (j := s6.1) e_row_Row 2 hx15 rfl rfl rfl rfl) rfl ?_
 refine TL.op (OpR.alloc rfl rfl (fun _ => rfl)) rfl (fun p16 => ?_)
 refine aA rfl rfl ?_
 refine TL.op0 (OpR.store 3 rfl rfl rfl rfl rfl rfl rfl rfl) ?_
 refine aN rfl ?_
 refine T.region ?_
 iterate 4 refine aA rfl rfl ?_
 refine TL.op1 (OpR.loadPtr 3 rfl rfl rfl rfl) rfl ?_
 obtain ⟨x17, hx17, q10⟩ := bS q10
 refine TL.op1 (OpR.callV [0] rfl fn138 (cols_Pad_1_c hx17) rfl rfl rfl (fun _ => rfl)) rfl ?_
 refine TL.op1 (OpR.rowIndexM e_row_Row 2 hx15 rfl rfl rfl rfl rfl rfl rfl) rfl ?_
 refine TL.op0 (OpR.rowStore0M (j := s6.1) e_row_Row x17 2 hx15 rfl rfl rfl rfl rfl rfl rfl rfl rfl) ?_
 refine aN rfl ?_
 refine T.region ?_
 iterate 2 refine aA rfl rfl ?_
 refine TL.nil ?_
 obtain rfl := osi q10
 exact ⟨m8, Nat.lt_succ_self _, _, gP [1, 4, 5, 11, 12, 13] [0, 1, 2] rfl rfl rfl, (w64 (s6.1 + 1), (s6.2.set s6.1.toNat x17)), rfl, i11⟩
noncomputable def cols_Pad (a0 : grid_Grid) : Option grid_Grid :=
  bnd (grid_Grid_Width a0) fun x3 =>
  bnd (walk_Map_row_Row_2 a0.fRows x3) fun x5 =>
  some (⟨x5, a0.fTail, a0.fEnd⟩ : grid_Grid)
theorem cols_Pad_c {a0 : grid_Grid} {res : grid_Grid} (h0 : cols_Pad a0 = some res) : CallF X 70 [.agg [(eOP a0.fRows.fRoot), dT a0.fTail, dN a0.fEnd]] [] (fun x => .agg [(eOP res.fRows.fRoot), dT res.fTail, dN res.fEnd]) (fun x => []) := by
 unfold cols_Pad at h0
 refine CallF.mkG (X := X) rfl Tryz.func70 rfl rfl Tryz.ntmps70 rfl rfl ?_
 refine aS ?_
 refine TL.op (OpR.boxVar rfl rfl (fun _ => rfl)) rfl (fun p1 => ?_)
 refine TL.op (OpR.alloc rfl rfl (fun _ => rfl)) rfl (fun p2 => ?_)
 refine aN rfl ?_
 refine aS ?_
 refine TL.op1 (OpR.loadPtr 0 rfl rfl rfl rfl) rfl ?_
 obtain ⟨x3, hx3, h0⟩ := bS h0
 refine TL.op1 (OpR.call0 fn23 (grid_Grid_Width_c hx3) rfl) rfl ?_
 refine TL.op (OpR.alloc rfl rfl (fun _ => rfl)) rfl (fun p4 => ?_)
 refine TL.op0 (OpR.store 2 rfl rfl rfl rfl rfl rfl rfl rfl) ?_
 refine aN rfl ?_
 refine aS ?_
 refine aA rfl rfl ?_
 refine TL.op1 (OpR.loadPtr 0 rfl rfl rfl rfl) rfl ?_
 refine aA rfl rfl ?_
 obtain ⟨x5, hx5, h0⟩ := bS h0
 refine TL.op1 (OpR.call [2] fn137 (walk_Map_row_Row_2_c hx5) rfl rfl rfl (fun _ => rfl)) rfl ?_
 refine aA rfl rfl ?_
 refine TL.op0 (OpR.store 0 rfl rfl rfl rfl rfl rfl rfl rfl) ?_
 refine aN rfl ?_
 refine aS ?_
 refine TL.op1 (OpR.loadPtr 0 rfl rfl rfl rfl) rfl ?_
 refine TL.op0 (OpR.store 1 rfl rfl rfl rfl rfl rfl rfl rfl) ?_
 refine aN rfl ?_
 refine T.ret ?_
 obtain rfl := osi h0
 exact rP [] [2] [1] rfl rfl rfl undef (cV 0 rfl rfl rfl rfl ResL.nil) rfl rfl rfl rfl
noncomputable def law12_awake : Option Bool :=
  bnd (grid_Load [97, 44, 98, 10, 99]) fun x2 =>
  match x2 with
  | .inl x2 =>
      if x2.2.1 = 0 then
        bnd (cols_Insert x2.1 2) fun x6 =>
        bnd (if x6.2 = 0 then
          bnd (grid_Grid_Save x6.1 x2.2.2) fun x10 =>
          if x10 = [97, 44, 98, 44, 10, 99] then
            bnd (cols_Even x2.1) fun x12 =>
            if x12 = true then
              some false
            else
              bnd (cols_Pad x2.1) fun x14 =>
              bnd (grid_Grid_Save x14 x2.2.2) fun x15 =>
              some (x15 == [97, 44, 98, 10, 99, 44])
          else
            some false
        else
          some false : Option Bool) fun t8 =>
        some t8
      else
        some false
  | .inr x2 =>
      some false
theorem law12_awake_c {res : Bool} (h0 : law12_awake = some res) : CallF X 16 [] [] (fun x => (dT res)) (fun x => []) := by
 unfold law12_awake at h0
 refine CallF.mkG (X := X) rfl Tryz.func16 rfl rfl Tryz.ntmps16 rfl rfl ?_
 refine aS ?_
 refine aA rfl rfl ?_
 refine aN rfl ?_
 refine aS ?_
 refine TL.op (OpR.litRow rfl rfl rfl rfl rfl rfl rfl rfl (fun _ => rfl)) rfl (fun v1 => ?_)
 refine TL.op1 (OpR.markRow 0 rfl rfl rfl rfl rfl rfl rfl rfl) rfl ?_
 obtain ⟨x2, hx2, h0⟩ := bS h0
 rcases x2 with x2 | x2
 rotate_left
 · dsimp only at h0
   refine TL.op1 (OpR.call0 fn67 (grid_Load_cx2 hx2) rfl) rfl ?_
   iterate 4 refine aA rfl rfl ?_
   refine TL.op (OpR.alloc rfl rfl (fun _ => rfl)) rfl (fun p16 => ?_)
   refine TL.op0 (OpR.store 1 rfl rfl rfl rfl rfl rfl rfl rfl) ?_
   iterate 2 refine aA rfl rfl ?_
   refine aN rfl ?_
   refine T.seq ?_
   refine aS ?_
   refine aA rfl rfl ?_
   refine TL.op1 (OpR.ptrNil (A := none) rfl rfl rfl) rfl ?_
   refine aA rfl rfl ?_
   refine TL.off rfl rfl rfl rfl rfl rfl rfl ?_
   refine TL.off rfl rfl rfl rfl rfl rfl rfl ?_
   refine TL.op1 (OpR.pickT rfl rfl rfl) rfl ?_
   refine aN rfl ?_
   refine T.condT rfl rfl ?_
   refine aS ?_
   refine aA rfl rfl ?_
   refine aN rfl ?_
   refine T.ret ?_
   obtain rfl := osi h0
   exact rP [] [0] [] rfl rfl rfl undef (cT rfl ResL.nil) rfl rfl rfl rfl
 dsimp only at h0
 refine TL.op (OpR.call [] fn67 (grid_Load_cx1 hx2) rfl rfl rfl (fun _ => rfl)) rfl (fun w3 => ?_)
 iterate 4 refine aA rfl rfl ?_
 refine TL.op (OpR.alloc rfl rfl (fun _ => rfl)) rfl (fun p4 => ?_)
 refine TL.op0 (OpR.store 3 rfl rfl rfl rfl rfl rfl rfl rfl) ?_
 iterate 2 refine aA rfl rfl ?_
 refine aN rfl ?_
 refine T.seq ?_
 refine aS ?_
 refine aA rfl rfl ?_
 refine TL.op1 (OpR.ptrNil (A := some ⟨(blk (vn w3 0)), 0, none⟩) rfl rfl rfl) rfl ?_
 refine aA rfl rfl ?_
 refine TL.on rfl rfl rfl rfl rfl ?_
 refine aA rfl rfl ?_
 refine TL.on rfl rfl rfl rfl rfl ?_
 refine aA rfl rfl ?_
 refine TL.op1 (OpR.pickF rfl rfl rfl) rfl ?_
 refine aN rfl ?_
 rcases ite_some h0 with ⟨c5, h0⟩ | ⟨c5, h0⟩
 rotate_left
 · refine T.condT rfl (not_f (beq_eq_false_iff_ne.2 c5)) ?_
   refine aS ?_
   refine aA rfl rfl ?_
   refine aN rfl ?_
   refine T.ret ?_
   obtain rfl := osi h0
   exact rP [] [0] [] rfl rfl rfl undef (cT rfl ResL.nil) rfl rfl rfl rfl
 refine T.condF rfl (not_t (beq_iff_eq.2 c5)) ?_
 refine aK rfl ?_
 refine aS ?_
 refine TL.op1 (OpR.loadPtr 3 rfl rfl rfl rfl) rfl ?_
 obtain ⟨x6, hx6, h0⟩ := bS h0
 refine TL.op1 (OpR.call0 fn26 (cols_Insert_c hx6) rfl) rfl ?_
 iterate 3 refine aA rfl rfl ?_
 refine TL.op (OpR.alloc rfl rfl (fun _ => rfl)) rfl (fun p7 => ?_)
 refine TL.op0 (OpR.store 4 rfl rfl rfl rfl rfl rfl rfl rfl) ?_
 refine aA rfl rfl ?_
 refine aN rfl ?_
 refine T.seq ?_
 obtain ⟨t8, ht8, h0⟩ := bS h0
 refine T.cutC (fun S' => S' = ⟨[(0, (dT t8))], [], 46⟩) (fun _ h => h) ?_ ?_
 rotate_left
 · rintro _ rfl
   show T X _ _ _
   refine T.ret ?_
   obtain rfl := osi h0
   exact rO [] [0] rfl undef (cT rfl ResL.nil) rfl rfl rfl rfl
 refine T.region ?_
 iterate 3 refine aA rfl rfl ?_
 rcases ite_some ht8 with ⟨c9, ht8⟩ | ⟨c9, ht8⟩
 rotate_left
 · refine TL.off rfl rfl rfl rfl (beq_eq_false_iff_ne.2 c9) rfl rfl ?_
   refine TL.off rfl rfl rfl rfl (beq_eq_false_iff_ne.2 c9) rfl rfl ?_
   refine TL.off rfl rfl rfl rfl (beq_eq_false_iff_ne.2 c9) rfl rfl ?_
   refine TL.off rfl rfl rfl rfl (beq_eq_false_iff_ne.2 c9) rfl rfl ?_
   refine TL.off rfl rfl rfl rfl (beq_eq_false_iff_ne.2 c9) rfl rfl ?_
   refine TL.op1 (OpR.pickF rfl (beq_eq_false_iff_ne.2 c9) rfl) rfl ?_
   refine aA rfl rfl ?_
   refine TL.off rfl rfl rfl rfl rfl rfl rfl ?_
   refine TL.off rfl rfl rfl rfl rfl rfl rfl ?_
   refine TL.off rfl rfl rfl rfl rfl rfl rfl ?_
   refine TL.op1 (OpR.pickF rfl rfl rfl) rfl ?_
   refine aA rfl rfl ?_
   refine TL.off rfl rfl rfl rfl rfl rfl rfl ?_
   refine TL.off rfl rfl rfl rfl rfl rfl rfl ?_
   refine TL.off rfl rfl rfl rfl rfl rfl rfl ?_
   refine TL.off rfl rfl rfl rfl rfl rfl rfl ?_
   refine TL.off rfl rfl rfl rfl rfl rfl rfl ?_
   refine TL.off rfl rfl rfl rfl rfl rfl rfl ?_
   refine TL.op1 (OpR.pickF rfl rfl rfl) rfl ?_
   refine aA rfl rfl ?_
   refine TL.nil ?_
   obtain rfl := osi ht8
   exact ⟨_, gP [0] [] rfl rfl rfl, rfl⟩
 refine TL.on rfl rfl rfl rfl (beq_iff_eq.2 c9) ?_
 refine TL.op1 (OpR.loadPtr 4 rfl rfl rfl rfl) rfl ?_
 refine TL.on rfl rfl rfl rfl (beq_iff_eq.2 c9) ?_
 refine aA rfl rfl ?_
 refine TL.on rfl rfl rfl rfl (beq_iff_eq.2 c9) ?_
 obtain ⟨x10, hx10, ht8⟩ := bS ht8
 refine TL.op1 (OpR.call [1, 2] fn69 (grid_Grid_Save_c hx10) rfl rfl rfl (fun _ => rfl)) rfl ?_
 refine TL.on rfl rfl rfl rfl (beq_iff_eq.2 c9) ?_
 refine TL.op1 (OpR.toStr (bs := x10) rfl rfl rfl rfl rfl rfl rfl) rfl ?_
 refine TL.on rfl rfl rfl rfl (beq_iff_eq.2 c9) ?_
 refine TL.op1 (OpR.cast (OpR.pure rfl) (boolE (strEq _ _))) rfl ?_
 refine TL.op1 (OpR.pickT rfl (beq_iff_eq.2 c9) rfl) rfl ?_
 refine aA rfl rfl ?_
 rcases ite_some ht8 with ⟨c11, ht8⟩ | ⟨c11, ht8⟩
 rotate_left
 · refine TL.off rfl rfl rfl rfl (beq_eq_false_iff_ne.2 c11) rfl rfl ?_
   refine TL.off rfl rfl rfl rfl (beq_eq_false_iff_ne.2 c11) rfl rfl ?_
   refine TL.off rfl rfl rfl rfl (beq_eq_false_iff_ne.2 c11) rfl rfl ?_
   refine TL.op1 (OpR.pickF rfl (beq_eq_false_iff_ne.2 c11) rfl) rfl ?_
   refine aA rfl rfl ?_
   refine TL.off rfl rfl rfl rfl rfl rfl rfl ?_
   refine TL.off rfl rfl rfl rfl rfl rfl rfl ?_
   refine TL.off rfl rfl rfl rfl rfl rfl rfl ?_
   refine TL.off rfl rfl rfl rfl rfl rfl rfl ?_
   refine TL.off rfl rfl rfl rfl rfl rfl rfl ?_
   refine TL.off rfl rfl rfl rfl rfl rfl rfl ?_
   refine TL.op1 (OpR.pickF rfl rfl rfl) rfl ?_
   refine aA rfl rfl ?_
   refine TL.nil ?_
   obtain rfl := osi ht8
   exact ⟨_, gP [0] [] rfl rfl rfl, rfl⟩
 refine TL.on rfl rfl rfl rfl (beq_iff_eq.2 c11) ?_
 refine TL.op1 (OpR.loadPtr 3 rfl rfl rfl rfl) rfl ?_
 refine TL.on rfl rfl rfl rfl (beq_iff_eq.2 c11) ?_
 obtain ⟨x12, hx12, ht8⟩ := bS ht8
 refine TL.op1 (OpR.call0 fn20 (cols_Even_c hx12) rfl) rfl ?_
 refine TL.on rfl rfl rfl rfl (beq_iff_eq.2 c11) ?_
 refine aA rfl rfl ?_
 refine TL.op1 (OpR.pickT rfl (beq_iff_eq.2 c11) rfl) rfl ?_
 refine aA rfl rfl ?_
 rcases ite_some ht8 with ⟨c13, ht8⟩ | ⟨c13, ht8⟩
 · refine TL.off rfl rfl rfl rfl (not_t (c13)) rfl rfl ?_
   refine TL.off rfl rfl rfl rfl (not_t (c13)) rfl rfl ?_
   refine TL.off rfl rfl rfl rfl (not_t (c13)) rfl rfl ?_
   refine TL.off rfl rfl rfl rfl (not_t (c13)) rfl rfl ?_
   refine TL.off rfl rfl rfl rfl (not_t (c13)) rfl rfl ?_
   refine TL.off rfl rfl rfl rfl (not_t (c13)) rfl rfl ?_
   refine TL.op1 (OpR.pickF rfl (not_t (c13)) rfl) rfl ?_
   refine aA rfl rfl ?_
   refine TL.nil ?_
   obtain rfl := osi ht8
   exact ⟨_, gP [0] [] rfl rfl rfl, rfl⟩
 refine TL.on rfl rfl rfl rfl (not_f (eq_false_of_ne_true c13)) ?_
 refine TL.op1 (OpR.loadPtr 3 rfl rfl rfl rfl) rfl ?_
 refine TL.on rfl rfl rfl rfl (not_f (eq_false_of_ne_true c13)) ?_
 obtain ⟨x14, hx14, ht8⟩ := bS ht8
 refine TL.op1 (OpR.call0 fn70 (cols_Pad_c hx14) rfl) rfl ?_
 refine TL.on rfl rfl rfl rfl (not_f (eq_false_of_ne_true c13)) ?_
 refine aA rfl rfl ?_
 refine TL.on rfl rfl rfl rfl (not_f (eq_false_of_ne_true c13)) ?_
 obtain ⟨x15, hx15, ht8⟩ := bS ht8
 refine TL.op1 (OpR.call [1, 2] fn69 (grid_Grid_Save_c hx15) rfl rfl rfl (fun _ => rfl)) rfl ?_
 refine TL.on rfl rfl rfl rfl (not_f (eq_false_of_ne_true c13)) ?_
 refine TL.op1 (OpR.toStr (bs := x15) rfl rfl rfl rfl rfl rfl rfl) rfl ?_
 refine TL.on rfl rfl rfl rfl (not_f (eq_false_of_ne_true c13)) ?_
 refine TL.op1 (OpR.cast (OpR.pure rfl) (boolE (strEq _ _))) rfl ?_
 refine TL.op1 (OpR.pickT rfl (not_f (eq_false_of_ne_true c13)) rfl) rfl ?_
 refine aA rfl rfl ?_
 refine TL.nil ?_
 obtain rfl := osi ht8
 exact ⟨_, gP [0] [] rfl rfl rfl, rfl⟩
noncomputable def law12_ColsBack.l1 (x30 : ref11_Grid) (x31 : ref11_Grid) (s34 : Int) : Option (Lp Int (Ex Unit Bool)) :=
  if s34 < (x30.fRows.length : Int) then
    bnd (idx x30.fRows s34) fun x43 =>
    bnd (bnd (idx x31.fRows s34) fun x46 =>
    if (x43.fCells.length : Int) > (x46.fCells.length : Int) then
      some true
    else
      bnd (cut x46.fCells 0 (x43.fCells.length : Int)) fun x48 =>
      bnd (ref07_Same x43.fCells x48) fun x49 =>
      some (!x49) : Option Bool) fun t44 =>
    if t44 = true then
      some (Lp.done (Ex.ret false))
    else
      some (Lp.next (w64 (s34 + 1)))
  else
    some (Lp.done (Ex.brk ()))
noncomputable def law12_ColsBack (a0 : List UInt8) (a1 : Int) (a2 : Int) : Option Bool :=
  bnd (law11_Cut a0 1500) fun x1 =>
  bnd (law11_Begun x1) fun x2 =>
  match x2 with
  | .inl x2 =>
      if x2.2.2.1 = true then
        bnd (cols_Insert x2.1 a1) fun x7 =>
        bnd (if x7.2 = 0 then
          bnd (cols_Delete x7.1 a1) fun x12 =>
          bnd (if x12.2 = 0 then
            bnd (grid_Same x2.1 x12.1 x2.2.2.2) fun x16 =>
            some (!x16)
          else
            some true : Option Bool) fun t14 =>
          if t14 = true then
            some (Ex.ret false)
          else
            some (Ex.brk ())
        else
          some (Ex.brk ()) : Option (Ex Unit Bool)) fun t9 => match t9 with
          | .brk u10 =>
            bnd (cols_Move x2.1 a1 a2) fun x18 =>
            if x18.2 = 0 then
              bnd (cols_Move x18.1 a2 a1) fun x21 =>
              bnd (if x21.2 = 0 then
                bnd (cols_Even x2.1) fun x25 =>
                if x25 = true then
                  bnd (grid_Same x2.1 x21.1 x2.2.2.2) fun x27 =>
                  some (!x27)
                else
                  some false
              else
                some true : Option Bool) fun t23 =>
              if t23 = true then
                some false
              else
                bnd (law11_Plain x2.1 x2.2.2.2) fun x30 =>
                bnd (law11_Plain x21.1 x2.2.2.2) fun x31 =>
                bnd (loop (law12_ColsBack.l1 x30 x31) 0 : Option (Ex Unit Bool)) fun t32 => match t32 with
                  | .brk u33 =>
                    bnd (law12_awake) fun x51 =>
                    some x51
                  | .ret u33 => some u33
            else
              bnd (law12_awake) fun x52 =>
              some x52
          | .ret u10 => some u10
      else
        bnd (law12_awake) fun x53 =>
        some x53
  | .inr x2 =>
      some false
theorem law12_ColsBack_c {a0 : List UInt8} {a1 : Int} {a2 : Int} {res : Bool} (h0 : law12_ColsBack a0 a1 a2 = some res) : CallF X 5 [.val (.string (bs a0)), dN a1, dN a2] [] (fun x => (dT res)) (fun x => []) := by
 unfold law12_ColsBack at h0
 refine CallF.mkG (X := X) rfl Tryz.func5 rfl rfl Tryz.ntmps5 rfl rfl ?_
 refine aS ?_
 refine aA rfl rfl ?_
 refine aN rfl ?_
 refine aS ?_
 refine aA rfl rfl ?_
 obtain ⟨x1, hx1, h0⟩ := bS h0
 refine TL.op1 (OpR.call0 fn15 (law11_Cut_c hx1) rfl) rfl ?_
 obtain ⟨x2, hx2, h0⟩ := bS h0
 rcases x2 with x2 | x2
 rotate_left
 · dsimp only at h0
   refine TL.op1 (OpR.call0 fn14 (law11_Begun_cx2 hx2) rfl) rfl ?_
   iterate 5 refine aA rfl rfl ?_
   refine TL.op (OpR.alloc rfl rfl (fun _ => rfl)) rfl (fun p54 => ?_)
   refine TL.op (OpR.alloc rfl rfl (fun _ => rfl)) rfl (fun p55 => ?_)
   refine TL.op0 (OpR.store 0 rfl rfl rfl rfl rfl rfl rfl rfl) ?_
   refine aA rfl rfl ?_
   refine TL.op0 (OpR.store 1 rfl rfl rfl rfl rfl rfl rfl rfl) ?_
   refine aA rfl rfl ?_
   refine aN rfl ?_
   refine T.seq ?_
   refine aS ?_
   iterate 2 refine aA rfl rfl ?_
   refine aN rfl ?_
   refine T.condT rfl rfl ?_
   refine aS ?_
   refine aA rfl rfl ?_
   refine TL.op1 (OpR.ptrNe (A := none) rfl rfl rfl) rfl ?_
   refine aA rfl rfl ?_
   refine TL.off rfl rfl rfl rfl rfl rfl rfl ?_
   refine TL.op1 (OpR.pickF rfl rfl rfl) rfl ?_
   refine aA rfl rfl ?_
   refine aN rfl ?_
   refine T.ret ?_
   obtain rfl := osi h0
   exact rP [] [6] [] rfl rfl rfl undef (cT rfl ResL.nil) rfl rfl rfl rfl
 dsimp only at h0
 refine TL.op (OpR.call [] fn14 (law11_Begun_cx1 hx2) rfl rfl rfl (fun _ => rfl)) rfl (fun w3 => ?_)
 iterate 5 refine aA rfl rfl ?_
 refine TL.op (OpR.alloc rfl rfl (fun _ => rfl)) rfl (fun p4 => ?_)
 refine TL.op (OpR.alloc rfl rfl (fun _ => rfl)) rfl (fun p5 => ?_)
 refine TL.op0 (OpR.store 2 rfl rfl rfl rfl rfl rfl rfl rfl) ?_
 refine aA rfl rfl ?_
 refine TL.op0 (OpR.store 3 rfl rfl rfl rfl rfl rfl rfl rfl) ?_
 refine aA rfl rfl ?_
 refine aN rfl ?_
 refine T.seq ?_
 refine aS ?_
 iterate 2 refine aA rfl rfl ?_
 refine aN rfl ?_
 rcases ite_some h0 with ⟨c6, h0⟩ | ⟨c6, h0⟩
 rotate_left
 · refine T.condT rfl (not_f (eq_false_of_ne_true c6)) ?_
   refine aS ?_
   refine aA rfl rfl ?_
   refine TL.op1 (OpR.ptrNe (A := some ⟨(blk (vn w3 0)), 0, none⟩) rfl rfl rfl) rfl ?_
   refine aA rfl rfl ?_
   refine TL.on rfl rfl rfl rfl rfl ?_
   obtain ⟨x53, hx53, h0⟩ := bS h0
   refine TL.op1 (OpR.call0 fn16 (law12_awake_c hx53) rfl) rfl ?_
   refine TL.op1 (OpR.pickT rfl rfl rfl) rfl ?_
   refine aA rfl rfl ?_
   refine aN rfl ?_
   refine T.ret ?_
   obtain rfl := osi h0
   exact rP [] [6] [] rfl rfl rfl undef (cT rfl ResL.nil) rfl rfl rfl rfl
 refine T.condF rfl (not_t (c6)) ?_
 refine aK rfl ?_
 refine T.seq ?_
 refine aS ?_
 refine TL.op1 (OpR.loadPtr 2 rfl rfl rfl rfl) rfl ?_
 refine aA rfl rfl ?_
 obtain ⟨x7, hx7, h0⟩ := bS h0
 refine TL.op1 (OpR.call0 fn26 (cols_Insert_c hx7) rfl) rfl ?_
 iterate 3 refine aA rfl rfl ?_
 refine TL.op (OpR.alloc rfl rfl (fun _ => rfl)) rfl (fun p8 => ?_)
 refine TL.op0 (OpR.store 4 rfl rfl rfl rfl rfl rfl rfl rfl) ?_
 refine aA rfl rfl ?_
 refine aN rfl ?_
 refine aS ?_
 iterate 2 refine aA rfl rfl ?_
 refine aN rfl ?_
 obtain ⟨t9, ht9, h0⟩ := bS h0
 refine T.cutC (fun S' => ∃ u10, t9 = Ex.brk u10 ∧ S' = ⟨[(8, (dP (blk (vn w3 0)))), (7, (dP (blk p4))), (6, (dT false)), (2, (dN a2)), (1, (dN a1))], [.var (blk p4) [(eOP x2.1.fRows.fRoot), dT x2.1.fTail, dN x2.1.fEnd] 27, .var (blk (vn w3 0)) [.val (vn w3 1)] 264, .row (vn w3 1) (lB x2.2.2.2) 1 5], 139⟩) (fun _ h => h) ?_ ?_
 · rcases ite_some ht9 with ⟨c11, ht9⟩ | ⟨c11, ht9⟩
   rotate_left
   · refine T.condF rfl (beq_eq_false_iff_ne.2 c11) ?_
     refine T.skip ?_
     obtain rfl := osi ht9
     exact ⟨_, gP [1, 2, 6, 7, 8] [2, 0, 1] rfl rfl rfl, _, rfl, rfl⟩
   refine T.condT rfl (beq_iff_eq.2 c11) ?_
   refine aS ?_
   refine TL.op1 (OpR.loadPtr 4 rfl rfl rfl rfl) rfl ?_
   refine aA rfl rfl ?_
   obtain ⟨x12, hx12, ht9⟩ := bS ht9
   refine TL.op1 (OpR.call0 fn27 (cols_Delete_c hx12) rfl) rfl ?_
   iterate 3 refine aA rfl rfl ?_
   refine TL.op (OpR.alloc rfl rfl (fun _ => rfl)) rfl (fun p13 => ?_)
   refine TL.op0 (OpR.store 5 rfl rfl rfl rfl rfl rfl rfl rfl) ?_
   refine aA rfl rfl ?_
   refine aN rfl ?_
   refine T.seq ?_
   obtain ⟨t14, ht14, ht9⟩ := bS ht9
   refine T.cutC (fun S' => S' = ⟨[(60, (dT t14)), (8, (dP (blk (vn w3 0)))), (7, (dP (blk p4))), (6, (dT false)), (2, (dN a2)), (1, (dN a1))], [.var (blk p4) [(eOP x2.1.fRows.fRoot), dT x2.1.fTail, dN x2.1.fEnd] 27, .var (blk (vn w3 0)) [.val (vn w3 1)] 264, .row (vn w3 1) (lB x2.2.2.2) 1 5], 139⟩) (fun _ h => h) ?_ ?_
   rotate_left
   · rintro _ rfl
     show T X _ _ _
     rcases ite_some ht9 with ⟨c17, ht9⟩ | ⟨c17, ht9⟩
     rotate_left
     · refine T.condF rfl (eq_false_of_ne_true c17) ?_
       refine T.skip ?_
       obtain rfl := osi ht9
       exact ⟨_, Gst.only [1, 2, 6, 7, 8] rfl, _, rfl, rfl⟩
     refine T.condT rfl (c17) ?_
     refine aS ?_
     refine aA rfl rfl ?_
     refine aN rfl ?_
     refine T.ret ?_
     obtain rfl := osi ht9
     obtain rfl := osi h0
     exact rP [] [6] [] rfl rfl rfl undef (cT rfl ResL.nil) rfl rfl rfl rfl
   refine T.region ?_
   iterate 3 refine aA rfl rfl ?_
   rcases ite_some ht14 with ⟨c15, ht14⟩ | ⟨c15, ht14⟩
   rotate_left
   · refine TL.off rfl rfl rfl rfl (not_f (beq_eq_false_iff_ne.2 c15)) rfl rfl ?_
     refine TL.off rfl rfl rfl rfl (not_f (beq_eq_false_iff_ne.2 c15)) rfl rfl ?_
     refine TL.off rfl rfl rfl rfl (not_f (beq_eq_false_iff_ne.2 c15)) rfl rfl ?_
     refine TL.off rfl rfl rfl rfl (not_f (beq_eq_false_iff_ne.2 c15)) rfl rfl ?_
     refine TL.off rfl rfl rfl rfl (not_f (beq_eq_false_iff_ne.2 c15)) rfl rfl ?_
     refine TL.op1 (OpR.pickT rfl (not_f (beq_eq_false_iff_ne.2 c15)) rfl) rfl ?_
     refine TL.nil ?_
     obtain rfl := osi ht14
     exact ⟨_, gP [1, 2, 6, 7, 8, 60] [2, 0, 1] rfl rfl rfl, rfl⟩
   refine TL.on rfl rfl rfl rfl (not_t (beq_iff_eq.2 c15)) ?_
   refine aA rfl rfl ?_
   refine TL.on rfl rfl rfl rfl (not_t (beq_iff_eq.2 c15)) ?_
   refine TL.op1 (OpR.loadPtr 2 rfl rfl rfl rfl) rfl ?_
   refine TL.on rfl rfl rfl rfl (not_t (beq_iff_eq.2 c15)) ?_
   refine TL.op1 (OpR.loadPtr 5 rfl rfl rfl rfl) rfl ?_
   refine TL.on rfl rfl rfl rfl (not_t (beq_iff_eq.2 c15)) ?_
   obtain ⟨x16, hx16, ht14⟩ := bS ht14
   refine TL.op1 (OpR.call [0, 1] fn28 (grid_Same_c hx16) rfl rfl rfl (fun _ => rfl)) rfl ?_
   refine TL.on rfl rfl rfl rfl (not_t (beq_iff_eq.2 c15)) ?_
   refine aA rfl rfl ?_
   refine TL.op1 (OpR.pickF rfl (not_t (beq_iff_eq.2 c15)) rfl) rfl ?_
   refine TL.nil ?_
   obtain rfl := osi ht14
   exact ⟨_, gP [1, 2, 6, 7, 8, 60] [2, 0, 1] rfl rfl rfl, rfl⟩
 rintro _ ⟨u10, rfl, rfl⟩
 show T X _ _ _
 refine aS ?_
 refine TL.op1 (OpR.loadPtr 0 rfl rfl rfl rfl) rfl ?_
 iterate 2 refine aA rfl rfl ?_
 obtain ⟨x18, hx18, h0⟩ := bS h0
 refine TL.op1 (OpR.call0 fn29 (cols_Move_c hx18) rfl) rfl ?_
 iterate 3 refine aA rfl rfl ?_
 refine TL.op (OpR.alloc rfl rfl (fun _ => rfl)) rfl (fun p19 => ?_)
 refine TL.op0 (OpR.store 3 rfl rfl rfl rfl rfl rfl rfl rfl) ?_
 refine aA rfl rfl ?_
 refine aN rfl ?_
 refine T.seq ?_
 refine aS ?_
 iterate 2 refine aA rfl rfl ?_
 refine aN rfl ?_
 rcases ite_some h0 with ⟨c20, h0⟩ | ⟨c20, h0⟩
 rotate_left
 · refine T.condT rfl (not_f (beq_eq_false_iff_ne.2 c20)) ?_
   refine aS ?_
   obtain ⟨x52, hx52, h0⟩ := bS h0
   refine TL.op1 (OpR.call0 fn16 (law12_awake_c hx52) rfl) rfl ?_
   refine aA rfl rfl ?_
   refine aN rfl ?_
   refine T.ret ?_
   obtain rfl := osi h0
   exact rP [] [6] [] rfl rfl rfl undef (cT rfl ResL.nil) rfl rfl rfl rfl
 refine T.condF rfl (not_t (beq_iff_eq.2 c20)) ?_
 refine aK rfl ?_
 refine aS ?_
 refine TL.op1 (OpR.loadPtr 3 rfl rfl rfl rfl) rfl ?_
 iterate 2 refine aA rfl rfl ?_
 obtain ⟨x21, hx21, h0⟩ := bS h0
 refine TL.op1 (OpR.call0 fn29 (cols_Move_c hx21) rfl) rfl ?_
 iterate 3 refine aA rfl rfl ?_
 refine TL.op (OpR.alloc rfl rfl (fun _ => rfl)) rfl (fun p22 => ?_)
 refine TL.op0 (OpR.store 4 rfl rfl rfl rfl rfl rfl rfl rfl) ?_
 refine aA rfl rfl ?_
 refine aN rfl ?_
 refine T.seq ?_
 refine T.seq ?_
 obtain ⟨t23, ht23, h0⟩ := bS h0
 refine T.cutC (fun S' => S' = ⟨[(90, (dT t23)), (17, (dP (blk p22))), (8, (dP (blk (vn w3 0)))), (7, (dP (blk p4))), (6, (dT false))], [.var (blk p4) [(eOP x2.1.fRows.fRoot), dT x2.1.fTail, dN x2.1.fEnd] 27, .var (blk (vn w3 0)) [.val (vn w3 1)] 264, .var (blk p22) [(eOP x21.1.fRows.fRoot), dT x21.1.fTail, dN x21.1.fEnd] 27, .row (vn w3 1) (lB x2.2.2.2) 1 5], 139⟩) (fun _ h => h) ?_ ?_
 · refine T.region ?_
   iterate 3 refine aA rfl rfl ?_
   rcases ite_some ht23 with ⟨c24, ht23⟩ | ⟨c24, ht23⟩
   rotate_left
   · refine TL.off rfl rfl rfl rfl (not_f (beq_eq_false_iff_ne.2 c24)) rfl rfl ?_
     refine TL.off rfl rfl rfl rfl (not_f (beq_eq_false_iff_ne.2 c24)) rfl rfl ?_
     refine TL.off rfl rfl rfl rfl (not_f (beq_eq_false_iff_ne.2 c24)) rfl rfl ?_
     refine TL.offU rfl rfl rfl rfl rfl rfl ?_
     refine TL.offU rfl rfl rfl rfl rfl rfl ?_
     refine TL.offU rfl rfl rfl rfl rfl rfl ?_
     refine TL.offU rfl rfl rfl rfl rfl rfl ?_
     refine TL.offU rfl rfl rfl rfl rfl rfl ?_
     refine TL.off rfl rfl rfl rfl (not_f (beq_eq_false_iff_ne.2 c24)) rfl rfl ?_
     refine TL.op1 (OpR.pickT rfl (not_f (beq_eq_false_iff_ne.2 c24)) rfl) rfl ?_
     refine TL.nil ?_
     obtain rfl := osi ht23
     exact ⟨_, gP [6, 7, 8, 17, 90] [0, 1, 4, 2] rfl rfl rfl, rfl⟩
   refine TL.on rfl rfl rfl rfl (not_t (beq_iff_eq.2 c24)) ?_
   refine TL.op1 (OpR.loadPtr 0 rfl rfl rfl rfl) rfl ?_
   refine TL.on rfl rfl rfl rfl (not_t (beq_iff_eq.2 c24)) ?_
   obtain ⟨x25, hx25, ht23⟩ := bS ht23
   refine TL.op1 (OpR.call0 fn20 (cols_Even_c hx25) rfl) rfl ?_
   refine TL.on rfl rfl rfl rfl (not_t (beq_iff_eq.2 c24)) ?_
   refine aA rfl rfl ?_
   rcases ite_some ht23 with ⟨c26, ht23⟩ | ⟨c26, ht23⟩
   rotate_left
   · refine TL.off rfl rfl rfl rfl (eq_false_of_ne_true c26) rfl rfl ?_
     refine TL.off rfl rfl rfl rfl (eq_false_of_ne_true c26) rfl rfl ?_
     refine TL.off rfl rfl rfl rfl (eq_false_of_ne_true c26) rfl rfl ?_
     refine TL.off rfl rfl rfl rfl (eq_false_of_ne_true c26) rfl rfl ?_
     refine TL.off rfl rfl rfl rfl (eq_false_of_ne_true c26) rfl rfl ?_
     refine TL.on rfl rfl rfl rfl (not_t (beq_iff_eq.2 c24)) ?_
     refine TL.op1 (OpR.pickF rfl (eq_false_of_ne_true c26) rfl) rfl ?_
     refine TL.op1 (OpR.pickF rfl (not_t (beq_iff_eq.2 c24)) rfl) rfl ?_
     refine TL.nil ?_
     obtain rfl := osi ht23
     exact ⟨_, gP [6, 7, 8, 17, 90] [0, 1, 4, 2] rfl rfl rfl, rfl⟩
   refine TL.on rfl rfl rfl rfl (c26) ?_
   refine aA rfl rfl ?_
   refine TL.on rfl rfl rfl rfl (c26) ?_
   refine TL.op1 (OpR.loadPtr 0 rfl rfl rfl rfl) rfl ?_
   refine TL.on rfl rfl rfl rfl (c26) ?_
   refine TL.op1 (OpR.loadPtr 4 rfl rfl rfl rfl) rfl ?_
   refine TL.on rfl rfl rfl rfl (c26) ?_
   obtain ⟨x27, hx27, ht23⟩ := bS ht23
   refine TL.op1 (OpR.call [1, 2] fn28 (grid_Same_c hx27) rfl rfl rfl (fun _ => rfl)) rfl ?_
   refine TL.on rfl rfl rfl rfl (c26) ?_
   refine aA rfl rfl ?_
   refine TL.on rfl rfl rfl rfl (not_t (beq_iff_eq.2 c24)) ?_
   refine TL.op1 (OpR.pickT rfl (c26) rfl) rfl ?_
   refine TL.op1 (OpR.pickF rfl (not_t (beq_iff_eq.2 c24)) rfl) rfl ?_
   refine TL.nil ?_
   obtain rfl := osi ht23
   exact ⟨_, gP [6, 7, 8, 17, 90] [0, 1, 4, 2] rfl rfl rfl, rfl⟩
 rintro _ rfl
 show T X _ _ _
 rcases ite_some h0 with ⟨c28, h0⟩ | ⟨c28, h0⟩
 · refine T.condT rfl (c28) ?_
   refine aS ?_
   refine aA rfl rfl ?_
   refine aN rfl ?_
   refine T.ret ?_
   obtain rfl := osi h0
   exact rP [] [6] [] rfl rfl rfl undef (cT rfl ResL.nil) rfl rfl rfl rfl
 refine T.condF rfl (eq_false_of_ne_true c28) ?_
 refine aK rfl ?_
 refine T.seq ?_
 obtain ⟨x30, hx30, h0⟩ := bS h0
 obtain ⟨x31, hx31, h0⟩ := bS h0
 refine T.drawS drawsX (fun env29 => [dP (blk (vn w3 0)), .agg [(eOP x2.1.fRows.fRoot), dT x2.1.fTail, dN x2.1.fEnd], .agg [.sl 3 (List.map e_ref08_Row x30.fRows), dT x30.fTail, dN x30.fEnd], dP (blk (vn w3 0)), .agg [(eOP x21.1.fRows.fRoot), dT x21.1.fTail, dN x21.1.fEnd], .agg [.sl 3 (List.map e_ref08_Row x31.fRows), dT x31.fTail, dN x31.fEnd], dP (blk (env29 6)), dP (blk (env29 7)), .dead, .dead]) (fun D env29 => [.var (blk p4) [(eOP x2.1.fRows.fRoot), dT x2.1.fTail, dN x2.1.fEnd] 27, .var (blk (vn w3 0)) [.val (vn w3 1)] 264, .var (blk p22) [(eOP x21.1.fRows.fRoot), dT x21.1.fTail, dN x21.1.fEnd] 27, .row (vn w3 1) (lB x2.2.2.2) 1 5] ++ (bif D 6 then [(bif D 8 then .var (blk (env29 6)) [.sl 3 (List.map e_ref08_Row x30.fRows), dT x30.fTail, dN x30.fEnd] 31 else .var (blk (env29 6)) [.val (.slice none 0 0), dT false, dN 0] 31)] else []) ++ (bif D 7 then [(bif D 9 then .var (blk (env29 7)) [.sl 3 (List.map e_ref08_Row x31.fRows), dT x31.fTail, dN x31.fEnd] 31 else .var (blk (env29 7)) [.val (.slice none 0 0), dT false, dN 0] 31)] else [])) [0, 0, 3, 0, 0, 31, 0, 0, 255, 511] [6, 19, 20] _ (by decide +kernel) (by decide +kernel) (fun _ => rfl) (fun _ => rfl) ?_ (fun _ => rfl) (fun _ => rfl) ?_
 · refine aC ?_
   refine oT (.agg [(eOP x2.1.fRows.fRoot), dT x2.1.fTail, dN x2.1.fEnd]) (fun _ _ => OpR.loadPtr 0 rfl rfl rfl rfl) ?_
   refine OpsS.cons' true ?_ (fun _ _ _ _ _ _ _ => rfl) ?_
   · intro D env29 hA
     have e8 : D 8 = false := hA.no 8 _ rfl rfl
     have e9 : D 9 = false := hA.no 9 _ rfl rfl
     rcases Bool.eq_false_or_eq_true (D 6) with e6 | e6
     · rcases Bool.eq_false_or_eq_true (D 7) with e7 | e7
       · exact OpS.yp [(8, false), (9, false), (6, true), (7, true)] ⟨e8, e9, e6, e7, trivial⟩ (Want.plain rfl) (OpR.call [1, 3] fn19 (law11_Plain_c hx30) rfl rfl rfl (fun _ => rfl)) (fun x => rfl) (fun x => rfl)
       exact OpS.yp [(8, false), (9, false), (6, true), (7, false)] ⟨e8, e9, e6, e7, trivial⟩ (Want.plain rfl) (OpR.call [1, 3] fn19 (law11_Plain_c hx30) rfl rfl rfl (fun _ => rfl)) (fun x => rfl) (fun x => rfl)
     rcases Bool.eq_false_or_eq_true (D 7) with e7 | e7
     · exact OpS.yp [(8, false), (9, false), (6, false), (7, true)] ⟨e8, e9, e6, e7, trivial⟩ (Want.plain rfl) (OpR.call [1, 3] fn19 (law11_Plain_c hx30) rfl rfl rfl (fun _ => rfl)) (fun x => rfl) (fun x => rfl)
     exact OpS.yp [(8, false), (9, false), (6, false), (7, false)] ⟨e8, e9, e6, e7, trivial⟩ (Want.plain rfl) (OpR.call [1, 3] fn19 (law11_Plain_c hx30) rfl rfl rfl (fun _ => rfl)) (fun x => rfl) (fun x => rfl)
   refine aC ?_
   refine oT (.agg [(eOP x21.1.fRows.fRoot), dT x21.1.fTail, dN x21.1.fEnd]) (fun _ _ => OpR.loadPtr 2 rfl rfl rfl rfl) ?_
   refine OpsS.cons' true ?_ (fun _ _ _ _ _ _ _ => rfl) ?_
   · intro D env29 hA
     have e8 : D 8 = false := hA.no 8 _ rfl rfl
     have e9 : D 9 = false := hA.no 9 _ rfl rfl
     rcases Bool.eq_false_or_eq_true (D 6) with e6 | e6
     · rcases Bool.eq_false_or_eq_true (D 7) with e7 | e7
       · exact OpS.yp [(8, false), (9, false), (6, true), (7, true)] ⟨e8, e9, e6, e7, trivial⟩ (Want.plain rfl) (OpR.call [1, 3] fn19 (law11_Plain_c hx31) rfl rfl rfl (fun _ => rfl)) (fun x => rfl) (fun x => rfl)
       exact OpS.yp [(8, false), (9, false), (6, true), (7, false)] ⟨e8, e9, e6, e7, trivial⟩ (Want.plain rfl) (OpR.call [1, 3] fn19 (law11_Plain_c hx31) rfl rfl rfl (fun _ => rfl)) (fun x => rfl) (fun x => rfl)
     rcases Bool.eq_false_or_eq_true (D 7) with e7 | e7
     · exact OpS.yp [(8, false), (9, false), (6, false), (7, true)] ⟨e8, e9, e6, e7, trivial⟩ (Want.plain rfl) (OpR.call [1, 3] fn19 (law11_Plain_c hx31) rfl rfl rfl (fun _ => rfl)) (fun x => rfl) (fun x => rfl)
     exact OpS.yp [(8, false), (9, false), (6, false), (7, false)] ⟨e8, e9, e6, e7, trivial⟩ (Want.plain rfl) (OpR.call [1, 3] fn19 (law11_Plain_c hx31) rfl rfl rfl (fun _ => rfl)) (fun x => rfl) (fun x => rfl)
   refine OpsS.cons' true ?_ (fun D hA env29 x j hj hD => match j, hj, hD with | 0, _, _ => rfl | 1, _, _ => rfl | 2, _, _ => rfl | 3, _, _ => rfl | 4, _, _ => rfl | 5, _, _ => rfl | 6, hj, _ => absurd rfl hj | 7, _, _ => rfl | 8, _, _ => rfl | 9, _, _ => rfl | _ + 10, _, _ => rfl) ?_
   · intro D env29 hA
     have e8 : D 8 = false := hA.no 8 _ rfl rfl
     have e9 : D 9 = false := hA.no 9 _ rfl rfl
     rcases Bool.eq_false_or_eq_true (D 7) with e7 | e7
     rotate_left
     · exact OpS.yp [(8, false), (9, false), (7, false), (6, false)] ⟨e8, e9, e7, hA.me, trivial⟩ (Want.plain rfl) (OpR.alloc rfl rfl (fun _ => rfl)) (fun x => rfl) (fun x => rfl)
     exact OpS.yp [(8, false), (9, false), (7, true), (6, false)] ⟨e8, e9, e7, hA.me, trivial⟩ (Want.plain rfl) (OpR.pick [0, 1, 2, 3, 5, 4] (OpR.alloc rfl rfl (fun _ => rfl)) (fun _ => rfl) rfl) (fun x => rfl) (fun x => rfl)
   refine OpsS.cons' true ?_ (fun D hA env29 x j hj hD => match j, hj, hD with | 0, _, _ => rfl | 1, _, _ => rfl | 2, _, _ => rfl | 3, _, _ => rfl | 4, _, _ => rfl | 5, _, _ => rfl | 6, _, _ => rfl | 7, hj, _ => absurd rfl hj | 8, _, _ => rfl | 9, _, _ => rfl | _ + 10, _, _ => rfl) ?_
   · intro D env29 hA
     have e8 : D 8 = false := hA.no 8 _ rfl rfl
     have e9 : D 9 = false := hA.no 9 _ rfl rfl
     rcases Bool.eq_false_or_eq_true (D 6) with e6 | e6
     · exact OpS.yp [(8, false), (9, false), (6, true), (7, false)] ⟨e8, e9, e6, hA.me, trivial⟩ (Want.plain rfl) (OpR.alloc rfl rfl (fun _ => rfl)) (fun x => rfl) (fun x => rfl)
     exact OpS.yp [(8, false), (9, false), (6, false), (7, false)] ⟨e8, e9, e6, hA.me, trivial⟩ (Want.plain rfl) (OpR.alloc rfl rfl (fun _ => rfl)) (fun x => rfl) (fun x => rfl)
   refine OpsS.cons' true ?_ (fun _ _ _ _ _ _ _ => rfl) ?_
   · intro D env29 hA
     have e6 : D 6 = true := hA.yes 6 _ rfl rfl
     have e7 : D 7 = true := hA.yes 7 _ rfl rfl
     have e9 : D 9 = false := hA.no 9 _ rfl rfl
     exact OpS.yp [(6, true), (7, true), (9, false), (8, false)] ⟨e6, e7, e9, hA.me, trivial⟩ (Want.plain rfl) (OpR.store 4 rfl rfl rfl rfl rfl rfl rfl rfl) (fun x => rfl) (fun x => rfl)
   refine OpsS.cons' true ?_ (fun _ _ _ _ _ _ _ => rfl) ?_
   · intro D env29 hA
     have e6 : D 6 = true := hA.yes 6 _ rfl rfl
     have e7 : D 7 = true := hA.yes 7 _ rfl rfl
     have e8 : D 8 = true := hA.yes 8 _ rfl rfl
     exact OpS.yp [(6, true), (7, true), (8, true), (9, false)] ⟨e6, e7, e8, hA.me, trivial⟩ (Want.plain rfl) (OpR.store 5 rfl rfl rfl rfl rfl rfl rfl rfl) (fun x => rfl) (fun x => rfl)
   exact trivial
 intro env29
 show T X _ _ _
 refine T.seq ?_
 refine aS ?_
 refine aA rfl rfl ?_
 refine TL.op1 (OpR.loadPtr 4 rfl rfl rfl rfl) rfl ?_
 refine TL.op1 (OpR.cast (OpR.pure rfl) (intE (lenM _ _))) rfl ?_
 refine aA rfl rfl ?_
 refine aN rfl ?_
 obtain ⟨t32, ht32, h0⟩ := bS h0
 refine T.cutC (fun S' => ∃ u33, t32 = Ex.brk u33 ∧ S' = ⟨[(6, (dT false))], [], 139⟩) (fun _ h => h) ?_ ?_
 rotate_left
 · rintro _ ⟨u33, rfl, rfl⟩
   show T X _ _ _
   refine aS ?_
   obtain ⟨x51, hx51, h0⟩ := bS h0
   refine TL.op1 (OpR.call0 fn16 (law12_awake_c hx51) rfl) rfl ?_
   refine aA rfl rfl ?_
   refine aN rfl ?_
   refine T.ret ?_
   obtain rfl := osi h0
   exact rO [] [6] rfl undef (cT rfl ResL.nil) rfl rfl rfl rfl
 refine T.block ?_
 obtain ⟨n35, n40⟩ := loop_some ht32
 refine T.loop (fun n S' => ∃ S'', Gst S' S'' ∧ ∃ s34 : Int, S'' = ⟨[(100, (dN s34)), (99, (dN (x30.fRows.length : Int))), (20, (dP (blk (env29 7)))), (19, (dP (blk (env29 6)))), (6, (dT false))], [.var (blk (env29 6)) [.sl 3 (List.map e_ref08_Row x30.fRows), dT x30.fTail, dN x30.fEnd] 31, .var (blk (env29 7)) [.sl 3 (List.map e_ref08_Row x31.fRows), dT x31.fTail, dN x31.fEnd] 31], 139⟩ ∧ iter (law12_ColsBack.l1 x30 x31) n s34 = some t32) n35 ?_ ?_
 · exact ⟨_, gP [6, 19, 20, 99, 100] [4, 5] rfl rfl rfl, 0, rfl, n40⟩
 rintro n35 _ ⟨_, g, s34, rfl, i39⟩
 refine T.ghost g ?_
 obtain ⟨m36, q37, rfl, q38, i39⟩ := iter_succ i39
 unfold law12_ColsBack.l1 at q38
 refine aS ?_
 refine aA rfl rfl ?_
 refine aN rfl ?_
 refine T.seq ?_
 rcases ite_some q38 with ⟨c42, q38⟩ | ⟨c42, q38⟩
 rotate_left
 · refine T.condF rfl (eF c42) ?_
   refine T.exit ?_
   obtain rfl := osi q38
   obtain rfl : _ = _ := i39
   exact ⟨_, gP [6] [] rfl rfl rfl, _, rfl, rfl⟩
 refine T.condT rfl (eT c42) ?_
 refine aK rfl ?_
 refine T.seq ?_
 refine T.block ?_
 refine aS ?_
 iterate 2 refine aA rfl rfl ?_
 refine aN rfl ?_
 refine aS ?_
 refine aA rfl rfl ?_
 refine TL.op1 (OpR.loadPtr 0 rfl rfl rfl rfl) rfl ?_
 refine aA rfl rfl ?_
 obtain ⟨x43, hx43, q38⟩ := bS q38
 refine TL.op1 (OpR.indexM e_ref08_Row hx43 rfl rfl rfl rfl rfl) rfl ?_
 iterate 2 refine aA rfl rfl ?_
 refine TL.op1 (OpR.cast (OpR.pure rfl) (intE (lenM _ _))) rfl ?_
 refine aA rfl rfl ?_
 refine aN rfl ?_
 refine T.seq ?_
 obtain ⟨t44, ht44, q38⟩ := bS q38
 refine T.cutC (fun S' => S' = ⟨[(136, (dT t44)), (100, (dN s34)), (99, (dN (x30.fRows.length : Int))), (20, (dP (blk (env29 7)))), (19, (dP (blk (env29 6)))), (6, (dT false))], [.var (blk (env29 6)) [.sl 3 (List.map e_ref08_Row x30.fRows), dT x30.fTail, dN x30.fEnd] 31, .var (blk (env29 7)) [.sl 3 (List.map e_ref08_Row x31.fRows), dT x31.fTail, dN x31.fEnd] 31], 139⟩) (fun _ h => h) ?_ ?_
 rotate_left
 · rintro _ rfl
   show T X _ _ _
   rcases ite_some q38 with ⟨c50, q38⟩ | ⟨c50, q38⟩
   rotate_left
   · refine T.condF rfl (eq_false_of_ne_true c50) ?_
     refine aK rfl ?_
     refine T.region ?_
     iterate 2 refine aA rfl rfl ?_
     refine TL.nil ?_
     obtain rfl := osi q38
     exact ⟨m36, Nat.lt_succ_self _, _, Gst.only [6, 19, 20, 99, 100] rfl, w64 (s34 + 1), rfl, i39⟩
   refine T.condT rfl (c50) ?_
   refine aS ?_
   refine aA rfl rfl ?_
   refine aN rfl ?_
   refine T.ret ?_
   obtain rfl := osi q38
   obtain rfl : _ = _ := i39
   obtain rfl := osi h0
   exact rP [] [6] [] rfl rfl rfl undef (cT rfl ResL.nil) rfl rfl rfl rfl
 obtain ⟨x46, hx46, ht44⟩ := bS ht44
 rcases ite_some ht44 with ⟨c47, ht44⟩ | ⟨c47, ht44⟩
 · refine T.drawQ drawsX [dN (x43.fCells.length : Int), dP (blk (env29 7)), .sl 3 (List.map e_ref08_Row x31.fRows), dN s34, .nod [.sl 3 (List.map e_ref07_Cell x46.fCells), dN x46.fEnd, dT x46.fHidden], .nod [.sl 3 (List.map e_ref07_Cell x46.fCells), dN x46.fEnd, dT x46.fHidden], .sl 3 (List.map e_ref07_Cell x46.fCells), dN (x46.fCells.length : Int), dT (decide ((x43.fCells.length : Int) > (x46.fCells.length : Int))), dT (decide ((x43.fCells.length : Int) > (x46.fCells.length : Int))), .tup [], .tup [], .tup [], .tup [], .tup [], .tup [], .tup [], .tup [], .tup [], .tup [], .tup [], .tup [], .tup [], .tup [], .tup [], .tup [], dT true] [6, 19, 20, 99, 100, 136] (by decide +kernel) rfl ?_ rfl ?_
   rotate_left
   · obtain rfl := osi ht44
     exact ⟨_, Gst.only [6, 19, 20, 99, 100, 136] rfl, rfl⟩
   iterate 2 refine aB rfl rfl rfl ?_
   refine OpsQ.yes (Want.plain rfl) rfl (OpR.loadPtr 1 rfl rfl rfl rfl) ?_
   refine aB rfl rfl rfl ?_
   refine OpsQ.yes (Want.plain rfl) rfl (OpR.indexM e_ref08_Row hx46 rfl rfl rfl rfl rfl) ?_
   iterate 2 refine aB rfl rfl rfl ?_
   refine OpsQ.yes (Want.plain rfl) rfl (OpR.cast (OpR.pure rfl) (intE (lenM _ _))) ?_
   iterate 2 refine aB rfl rfl rfl ?_
   refine OpsQ.no (Want.bool rfl rfl rfl rfl (by rw [(eT c47)]; rfl)) rfl ?_
   refine OpsQ.no (Want.bool rfl rfl rfl rfl (by rw [(eT c47)]; rfl)) rfl ?_
   refine OpsQ.no (Want.bool rfl rfl rfl rfl (by rw [(eT c47)]; rfl)) rfl ?_
   refine OpsQ.no (Want.bool rfl rfl rfl rfl (by rw [(eT c47)]; rfl)) rfl ?_
   refine OpsQ.no (Want.bool rfl rfl rfl rfl (by rw [(eT c47)]; rfl)) rfl ?_
   refine OpsQ.no (Want.bool rfl rfl rfl rfl (by rw [(eT c47)]; rfl)) rfl ?_
   refine OpsQ.no (Want.bool rfl rfl rfl rfl (by rw [(eT c47)]; rfl)) rfl ?_
   refine OpsQ.no (Want.bool rfl rfl rfl rfl (by rw [(eT c47)]; rfl)) rfl ?_
   refine OpsQ.no (Want.bool rfl rfl rfl rfl (by rw [(eT c47)]; rfl)) rfl ?_
   refine OpsQ.no (Want.bool rfl rfl rfl rfl (by rw [(eT c47)]; rfl)) rfl ?_
   refine OpsQ.no (Want.bool rfl rfl rfl rfl (by rw [(eT c47)]; rfl)) rfl ?_
   refine OpsQ.no (Want.bool rfl rfl rfl rfl (by rw [(eT c47)]; rfl)) rfl ?_
   refine OpsQ.no (Want.bool rfl rfl rfl rfl (by rw [(eT c47)]; rfl)) rfl ?_
   refine OpsQ.no (Want.bool rfl rfl rfl rfl (by rw [(eT c47)]; rfl)) rfl ?_
   refine OpsQ.no (Want.bool rfl rfl rfl rfl (by rw [(eT c47)]; rfl)) rfl ?_
   refine OpsQ.no (Want.bool rfl rfl rfl rfl (by rw [(eT c47)]; rfl)) rfl ?_
   refine OpsQ.yes (Want.plain rfl) rfl (OpR.pickT rfl (eT c47) rfl) ?_
   exact OpsQ.nil
 obtain ⟨x48, hx48, ht44⟩ := bS ht44
 obtain ⟨x49, hx49, ht44⟩ := bS ht44
 refine T.drawQ drawsX [dN (x43.fCells.length : Int), dP (blk (env29 7)), .sl 3 (List.map e_ref08_Row x31.fRows), dN s34, .nod [.sl 3 (List.map e_ref07_Cell x46.fCells), dN x46.fEnd, dT x46.fHidden], .nod [.sl 3 (List.map e_ref07_Cell x46.fCells), dN x46.fEnd, dT x46.fHidden], .sl 3 (List.map e_ref07_Cell x46.fCells), dN (x46.fCells.length : Int), dT (decide ((x43.fCells.length : Int) > (x46.fCells.length : Int))), dT (decide ((x43.fCells.length : Int) > (x46.fCells.length : Int))), dP (blk (env29 6)), .sl 3 (List.map e_ref08_Row x30.fRows), dN s34, .nod [.sl 3 (List.map e_ref07_Cell x43.fCells), dN x43.fEnd, dT x43.fHidden], .nod [.sl 3 (List.map e_ref07_Cell x43.fCells), dN x43.fEnd, dT x43.fHidden], .sl 3 (List.map e_ref07_Cell x43.fCells), dP (blk (env29 7)), .sl 3 (List.map e_ref08_Row x31.fRows), dN s34, .nod [.sl 3 (List.map e_ref07_Cell x46.fCells), dN x46.fEnd, dT x46.fHidden], .nod [.sl 3 (List.map e_ref07_Cell x46.fCells), dN x46.fEnd, dT x46.fHidden], .sl 3 (List.map e_ref07_Cell x46.fCells), dN (x43.fCells.length : Int), .sl 3 (List.map e_ref07_Cell x48), dT x49, dT (!x49), dT (!x49)] [6, 19, 20, 99, 100, 136] (by decide +kernel) rfl ?_ rfl ?_
 rotate_left
 · obtain rfl := osi ht44
   exact ⟨_, Gst.only [6, 19, 20, 99, 100, 136] rfl, rfl⟩
 iterate 2 refine aB rfl rfl rfl ?_
 refine OpsQ.yes (Want.plain rfl) rfl (OpR.loadPtr 1 rfl rfl rfl rfl) ?_
 refine aB rfl rfl rfl ?_
 refine OpsQ.yes (Want.plain rfl) rfl (OpR.indexM e_ref08_Row hx46 rfl rfl rfl rfl rfl) ?_
 iterate 2 refine aB rfl rfl rfl ?_
 refine OpsQ.yes (Want.plain rfl) rfl (OpR.cast (OpR.pure rfl) (intE (lenM _ _))) ?_
 iterate 2 refine aB rfl rfl rfl ?_
 refine OpsQ.yes (Want.bool rfl rfl rfl rfl (by rw [(eF c47)]; rfl)) rfl (OpR.pure rfl) ?_
 refine OpsQ.yes (Want.bool rfl rfl rfl rfl (by rw [(eF c47)]; rfl)) rfl (OpR.loadPtr 0 rfl rfl rfl rfl) ?_
 refine OpsQ.yes (Want.bool rfl rfl rfl rfl (by rw [(eF c47)]; rfl)) rfl (OpR.pure rfl) ?_
 refine OpsQ.yes (Want.bool rfl rfl rfl rfl (by rw [(eF c47)]; rfl)) rfl (OpR.indexM e_ref08_Row hx43 rfl rfl rfl rfl rfl) ?_
 refine OpsQ.yes (Want.bool rfl rfl rfl rfl (by rw [(eF c47)]; rfl)) rfl (OpR.pure rfl) ?_
 refine OpsQ.yes (Want.bool rfl rfl rfl rfl (by rw [(eF c47)]; rfl)) rfl (OpR.pure rfl) ?_
 refine OpsQ.yes (Want.bool rfl rfl rfl rfl (by rw [(eF c47)]; rfl)) rfl (OpR.pure rfl) ?_
 refine OpsQ.yes (Want.bool rfl rfl rfl rfl (by rw [(eF c47)]; rfl)) rfl (OpR.loadPtr 1 rfl rfl rfl rfl) ?_
 refine OpsQ.yes (Want.bool rfl rfl rfl rfl (by rw [(eF c47)]; rfl)) rfl (OpR.pure rfl) ?_
 refine OpsQ.yes (Want.bool rfl rfl rfl rfl (by rw [(eF c47)]; rfl)) rfl (OpR.indexM e_ref08_Row hx46 rfl rfl rfl rfl rfl) ?_
 refine OpsQ.yes (Want.bool rfl rfl rfl rfl (by rw [(eF c47)]; rfl)) rfl (OpR.pure rfl) ?_
 refine OpsQ.yes (Want.bool rfl rfl rfl rfl (by rw [(eF c47)]; rfl)) rfl (OpR.pure rfl) ?_
 refine OpsQ.yes (Want.bool rfl rfl rfl rfl (by rw [(eF c47)]; rfl)) rfl (OpR.pure rfl) ?_
 refine OpsQ.yes (Want.bool rfl rfl rfl rfl (by rw [(eF c47)]; rfl)) rfl (OpR.sliceM (sz := 3) e_ref07_Cell hx48 rfl rfl rfl rfl BdM.none (BdM.some rfl) rfl) ?_
 refine OpsQ.yes (Want.bool rfl rfl rfl rfl (by rw [(eF c47)]; rfl)) rfl (OpR.call0 fn30 (ref07_Same_c hx49) rfl) ?_
 refine OpsQ.yes (Want.bool rfl rfl rfl rfl (by rw [(eF c47)]; rfl)) rfl (OpR.pure rfl) ?_
 refine OpsQ.yes (Want.plain rfl) rfl (OpR.pickF rfl (eF c47) rfl) ?_
 exact OpsQ.nil
end Go.Proofs.YtpmhiiemklhbhaaGreat.S
