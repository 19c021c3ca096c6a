/- Printed by a program of this session's own (gen.py): Lean functions for Go functions, and the proofs that the Go code comes to their answers. -/
import Derived.Test.YtpmhiiemklhbhaaG1xc
import Derived.Test.YtpmhiiemklhbhaaG1xb
import Derived.Test.YtpmhiiemklhbhaaG1xa
set_option linter.unusedVariables false
set_option linter.unusedSimpArgs false
set_option maxRecDepth 20000
namespace Go.Proofs.Ytpmhiiemklhbhaa.S
open Go Go.Sm
attribute [local irreducible] T TL OpR CallT iter loop
noncomputable def walk_Range_row_Row_1_2.l1 (a1 : Int) (s10 : Int × (List row_Row) × (List walk_frame_damier_row_Row)) : Option (Lp (Int × (List row_Row) × (List walk_frame_damier_row_Row)) (List row_Row)) :=
  if s10.1 < a1 then
    bnd (walk_stack_row_Row_top s10.2.2) fun x19 =>
    bnd (idx s10.2.2 x19) fun x20 =>
    bnd (some x20.fN) fun q21 => match q21 with
      | none =>
        none
      | some z22 =>
        bnd (o_tree_Node_damier_row_Row z22) fun x24 =>
        bnd (if x20.fNext = (x24.fItems.length : Int) then
          bnd (walk_stack_row_Row_forth s10.2.2) fun x29 =>
          some x29.2
        else
          some s10.2.2 : Option (List walk_frame_damier_row_Row)) fun t26 =>
        bnd (walk_stack_row_Row_top t26) fun x31 =>
        bnd (idx t26 x31) fun x32 =>
        bnd (some x32.fN) fun q33 => match q33 with
          | none =>
            none
          | some z34 =>
            bnd (o_tree_Node_damier_row_Row z34) fun x36 =>
            bnd (idx x36.fItems x32.fNext) fun x38 =>
            bnd (walk_All_row_Row_r0 s10.1 x38 s10.2.1) fun x39 =>
            some (Lp.next (w64 (s10.1 + 1), x39, (t26.set x31.toNat (⟨x32.fN, x32.fFirst, w64 (x32.fNext + 1)⟩ : walk_frame_damier_row_Row))))
  else
    some (Lp.done s10.2.1)
noncomputable def walk_Range_row_Row_1_2 (a0 : Int) (a1 : Int) (a2 : Option NP) (a3 : List row_Row) : Option (List row_Row) :=
  if a0 = a1 then
    some a3
  else
    bnd (tree_Tree_row_Row_Root (⟨a2⟩ : tree_Tree_damier_row_Row)) fun x4 =>
    match x4 with
    | .inl x4 =>
        none
    | .inr x4 =>
        bnd (walk_stack_row_Row_down x4.1 x4.2.1 x4.2.2 0 a0) fun x5 =>
        bnd (loop (walk_Range_row_Row_1_2.l1 a1) (a0, a3, x5) : Option (List row_Row)) fun t6 =>
        some t6
set_option maxHeartbeats 4000000 in
theorem walk_Range_row_Row_1_2_c {a0 : Int} {a1 : Int} {a2 : Option NP} {a3 : List row_Row} {b0 : Nat} {b1 : Nat} {b2 : Nat} {b3 : Nat} {b4 : Nat} {v5 : Value} {res : (List row_Row)} (h0 : walk_Range_row_Row_1_2 a0 a1 a2 a3 = some res) : CallF X 44 [.fn (.yield b0) [] [], .val (.pointer (some ⟨b1, 0, none⟩)), .val (.pointer (some ⟨b2, 0, none⟩)), .val (.pointer (some ⟨b3, 0, none⟩))] [.lp b0 .ready none [13, 14] rfA67_0 rfB67_0 [(3, .val (.pointer (some ⟨b4, 0, none⟩)))] 20, .var b1 [.val (.int .i64 a0)] 3, .var b2 [.val (.int .i64 a1)] 3, .var b3 [(eOP a2)] 24, .var b4 [.val v5] 81, .row v5 (List.map e_row_Row a3) 3 68] (fun x => .tup []) (fun x => [.lp b0 .ready none [13, 14] rfA67_0 rfB67_0 [(3, .val (.pointer (some ⟨b4, 0, none⟩)))] 20, .var b1 [.val (.int .i64 a0)] 3, .var b2 [.val (.int .i64 a1)] 3, .var b3 [(eOP a2)] 24, .var b4 [.val (vn x 0)] 81, .row (vn x 0) (List.map e_row_Row res) 3 68]) := by
 unfold walk_Range_row_Row_1_2 at h0
 refine CallF.mkG (X := X) rfl Try.func44 rfl rfl Try.ntmps44 rfl rfl ?_
 refine T.seq ?_
 refine aS ?_
 refine TL.op1 (OpR.loadPtr 1 rfl rfl rfl rfl) rfl ?_
 refine TL.op1 (OpR.loadPtr 2 rfl rfl rfl rfl) rfl ?_
 refine aA rfl rfl ?_
 refine TL.nil ?_
 show T X _ _ _
 rcases ite_some h0 with ⟨c1, h0⟩ | ⟨c1, h0⟩
 · refine T.condT rfl (beq_iff_eq.2 c1) ?_
   refine T.ret ?_
   obtain rfl := Option.some.inj h0
   exact PostG.retP (ks := [0, 1, 2, 3, 4, 5]) (Gst.only [] rfl) (.tuple #[v5]) ResL.nil rfl rfl rfl rfl
 refine T.condF rfl (beq_eq_false_iff_ne.2 c1) ?_
 refine T.skip ?_
 show T X _ _ _
 refine aS ?_
 refine TL.op (OpR.alloc rfl rfl (fun _ => rfl)) rfl (fun p2 => ?_)
 refine TL.nil ?_
 show T X _ _ _
 refine T.seq ?_
 obtain ⟨x4, hx4, h0⟩ := bnd_some h0
 rcases x4 with x4 | x4
 · dsimp only at h0
   exact (by cases h0)
 dsimp only at h0
 obtain ⟨x5, hx5, h0⟩ := bnd_some h0
 refine T.drawS drawsX (fun env3 => [.agg [(eOP a2)], .nod [.sl 1 (List.map eNP x4.1), .sl 3 (List.map e_row_Row x4.2.1), .val (.int .i64 x4.2.2)], .val (.int .i64 a0), .tup []]) (fun D env3 => [.lp b0 .ready none [13, 14] rfA67_0 rfB67_0 [(3, .val (.pointer (some ⟨b4, 0, none⟩)))] 20, .var b1 [.val (.int .i64 a0)] 3, .var b2 [.val (.int .i64 a1)] 3, .var b3 [(eOP a2)] 24, .var b4 [.val v5] 81, .row v5 (List.map e_row_Row a3) 3 68, (bif D 3 then .var (blk p2) [.val (vn (env3 3) 0)] 111 else .var (blk p2) [.val (.slice none 0 0)] 111)] ++ (bif D 3 then [.row (vn (env3 3) 0) (List.map e_walk_frame_damier_row_Row x5) 3 117] else [])) [0, 1, 0, 7] [0, 1, 2, 5] (fun env3 => [.lp b0 .ready none [13, 14] rfA67_0 rfB67_0 [(3, .val (.pointer (some ⟨b4, 0, none⟩)))] 20, .var b1 [.val (.int .i64 a0)] 3, .var b2 [.val (.int .i64 a1)] 3, .var b3 [(eOP a2)] 24, .var b4 [.val v5] 81, .row v5 (List.map e_row_Row a3) 3 68, .var (blk p2) [.val (vn (env3 3) 0)] 111, .row (vn (env3 3) 0) (List.map e_walk_frame_damier_row_Row x5) 3 117]) (by decide +kernel) (by decide +kernel) (fun _ => rfl) (fun _ => rfl) ?_ (fun _ => rfl) (fun _ => rfl) ?_
 · refine oS (d := .agg [(eOP a2)]) (fun _ => Want.plain rfl) (fun _ => rfl) (fun _ _ _ => rfl) (fun _ _ => OpR.loadPtr 3 rfl rfl rfl rfl) (fun _ _ _ _ _ _ _ => rfl) ?_
   refine oS (d := .nod [.sl 1 (List.map eNP x4.1), .sl 3 (List.map e_row_Row x4.2.1), .val (.int .i64 x4.2.2)]) (fun _ => Want.plain rfl) (fun _ => rfl) (fun _ _ _ => rfl) (fun _ _ => OpR.call0 fn46 (tree_Tree_row_Row_Root_cx2 hx4) rfl) (fun _ _ _ _ _ _ _ => rfl) ?_
   refine oS (d := .val (.int .i64 a0)) (fun _ => Want.plain rfl) (fun _ => rfl) (fun _ _ _ => rfl) (fun _ _ => OpR.loadPtr 1 rfl rfl rfl rfl) (fun _ _ _ _ _ _ _ => rfl) ?_
   refine OpsS.cons' true ?_ (fun D hA env3 x j hj hD => match j, hj, hD with | 0, _, _ => rfl | 1, _, _ => rfl | 2, _, _ => rfl | 3, hj, _ => absurd rfl hj | _ + 4, _, _ => rfl) ?_
   · intro D env3 hA
     exact OpS.yes (o0 := [.lp b0 .ready none [13, 14] rfA67_0 rfB67_0 [(3, .val (.pointer (some ⟨b4, 0, none⟩)))] 20, .var b1 [.val (.int .i64 a0)] 3, .var b2 [.val (.int .i64 a1)] 3, .var b3 [(eOP a2)] 24, .var b4 [.val v5] 81, .row v5 (List.map e_row_Row a3) 3 68, .var (blk p2) [.val (.slice none 0 0)] 111]) (o1 := fun x => [.lp b0 .ready none [13, 14] rfA67_0 rfB67_0 [(3, .val (.pointer (some ⟨b4, 0, none⟩)))] 20, .var b1 [.val (.int .i64 a0)] 3, .var b2 [.val (.int .i64 a1)] 3, .var b3 [(eOP a2)] 24, .var b4 [.val v5] 81, .row v5 (List.map e_row_Row a3) 3 68, .var (blk p2) [.val (vn x 0)] 111, .row (vn x 0) (List.map e_walk_frame_damier_row_Row x5) 3 117]) (d := fun x => .tup []) (Want.plain rfl) (by first | rfl | simp only [hA.me, cond_true, cond_false, List.cons_append, List.nil_append, List.append_nil]) (fun x => by first | rfl | simp only [ins_self, upd_self, hA.me, cond_true, cond_false, List.cons_append, List.nil_append, List.append_nil]) (fun x => rfl) (OpR.call [6] fn45 (walk_stack_row_Row_down_c hx5) rfl rfl rfl (fun _ => rfl))
   exact trivial
 intro env3
 show T X _ _ _
 refine aS ?_
 refine TL.op1 (OpR.loadPtr 1 rfl rfl rfl rfl) rfl ?_
 refine aA rfl rfl ?_
 refine TL.nil ?_
 show T X _ _ _
 obtain ⟨t6, ht6, h0⟩ := bnd_some h0
 refine T.cutN (fun S' => ∃ y7 : Value, S' = ⟨[], [.lp b0 .ready none [13, 14] rfA67_0 rfB67_0 [(3, .val (.pointer (some ⟨b4, 0, none⟩)))] 20, .var b1 [.val (.int .i64 a0)] 3, .var b2 [.val (.int .i64 a1)] 3, .var b3 [(eOP a2)] 24, .var b4 [.val y7] 81, .row y7 (List.map e_row_Row t6) 3 68], 62⟩) (fun _ _ g ⟨h, S', ds, g', r⟩ => ⟨h, S', ds, Gst.trans g g', r⟩) ?_ ?_
 rotate_left
 · rintro _ ⟨y7, rfl⟩
   obtain rfl := Option.some.inj h0
   exact PostG.finP (ks := [0, 1, 2, 3, 4, 5]) (Gst.only [] rfl) (.tuple #[y7]) ResL.nil rfl rfl rfl rfl
 refine T.block ?_
 obtain ⟨n11, n16⟩ := loop_some ht6
 refine T.loop (fun n S' => ∃ S'', Gst S' S'' ∧ ∃ y8 : Value, ∃ y9 : Value, ∃ s10 : Int × (List row_Row) × (List walk_frame_damier_row_Row), S'' = ⟨[(6, .val (.int .i64 s10.1)), (5, .val (.pointer (some ⟨(blk p2), 0, none⟩))), (2, .val (.pointer (some ⟨b2, 0, none⟩))), (0, .fn (.yield b0) [] [])], [.lp b0 .ready none [13, 14] rfA67_0 rfB67_0 [(3, .val (.pointer (some ⟨b4, 0, none⟩)))] 20, .var b1 [.val (.int .i64 a0)] 3, .var b2 [.val (.int .i64 a1)] 3, .var b3 [(eOP a2)] 24, .var b4 [.val y8] 81, .row y8 (List.map e_row_Row s10.2.1) 3 68, .var (blk p2) [.val y9] 111, .row y9 (List.map e_walk_frame_damier_row_Row s10.2.2) 3 117], 62⟩ ∧ iter (walk_Range_row_Row_1_2.l1 a1) n s10 = some t6) n11 ?_ ?_
 · exact ⟨_, Gst.only [0, 2, 5, 6] rfl, v5, (vn (env3 3) 0), (a0, a3, x5), rfl, n16⟩
 rintro n11 _ ⟨_, g, y8, y9, s10, rfl, i15⟩
 refine T.ghost g ?_
 obtain ⟨m12, q13, rfl, q14, i15⟩ := iter_succ i15
 unfold walk_Range_row_Row_1_2.l1 at q14
 refine T.seq ?_
 refine aS ?_
 refine aA rfl rfl ?_
 refine TL.op1 (OpR.loadPtr 2 rfl rfl rfl rfl) rfl ?_
 refine aA rfl rfl ?_
 refine TL.nil ?_
 show T X _ _ _
 rcases ite_some q14 with ⟨c18, q14⟩ | ⟨c18, q14⟩
 rotate_left
 · refine T.condF rfl (decide_eq_false c18) ?_
   refine T.exit ?_
   obtain rfl := Option.some.inj q14
   obtain rfl : _ = _ := i15
   exact ⟨_, Gst.trans (Gst.only [] rfl) (Gst.pick [0, 1, 2, 3, 4, 5] rfl rfl), y8, rfl⟩
 refine T.condT rfl (decide_eq_true c18) ?_
 refine T.skip ?_
 show T X _ _ _
 refine T.seq ?_
 refine T.block ?_
 refine T.seq ?_
 refine aS ?_
 obtain ⟨x19, hx19, q14⟩ := bnd_some q14
 refine TL.op1 (OpR.call [6, 7] fn47 (walk_stack_row_Row_top_c hx19) rfl rfl rfl (fun _ => rfl)) rfl ?_
 refine aA rfl rfl ?_
 refine TL.nil ?_
 show T X _ _ _
 refine T.seq ?_
 obtain ⟨x20, hx20, q14⟩ := bnd_some q14
 obtain ⟨q21, hq21, q14⟩ := bnd_some q14
 rcases q21 with _ | z22
 · dsimp only at q14
   exact (by cases q14)
 dsimp only at q14
 obtain ⟨x24, hx24, q14⟩ := bnd_some q14
 rw [o_tree_Node_damier_row_Row_eq hx24] at hq21
 refine T.drawQ drawsX [.val (.pointer (some ⟨blk y9, x19.toNat * 3, none⟩)), .val (.pointer (some ⟨blk y9, x19.toNat * 3, none⟩)), .val (.pointer (some ⟨blk y9, x19.toNat * 3 + 2, none⟩)), .val (.int .i64 x20.fNext), .val (.pointer (some ⟨blk y9, x19.toNat * 3, none⟩)), .val (.pointer (some ⟨blk y9, x19.toNat * 3, none⟩)), .val (.pointer (some ⟨blk y9, x19.toNat * 3, none⟩)), .nod [.sl 1 (List.map eNP x24.fKids), .sl 3 (List.map e_row_Row x24.fItems), .val (.int .i64 x24.fN)], .nod [.sl 1 (List.map eNP x24.fKids), .sl 3 (List.map e_row_Row x24.fItems), .val (.int .i64 x24.fN)], .nod [.sl 3 (List.map e_row_Row x24.fItems), .val (.int .i64 x24.fN)], .sl 3 (List.map e_row_Row x24.fItems), .val (.int .i64 (x24.fItems.length : Int)), .val (.bool (x20.fNext == (x24.fItems.length : Int)))] [0, 2, 5, 6, 35] (by decide +kernel) rfl ?_ rfl ?_
 · iterate 3 refine aB rfl rfl rfl ?_
   refine OpsQ.yes (Want.plain rfl) rfl (OpR.rowLoadM (j := x19) e_walk_frame_damier_row_Row 7 hx20 rfl rfl rfl rfl) ?_
   iterate 3 refine aB rfl rfl rfl ?_
   refine OpsQ.yes (Want.plain rfl) rfl (OpR.cast (OpR.rowLoad0M (j := x19) e_walk_frame_damier_row_Row 7 hx20 rfl rfl rfl rfl) (congrArg eOP (Option.some.inj hq21))) ?_
   iterate 3 refine aB rfl rfl rfl ?_
   refine OpsQ.yes (Want.plain rfl) rfl (OpR.cast (OpR.pure rfl) (intE (lenM _ _))) ?_
   refine aB rfl rfl rfl ?_
   exact OpsQ.nil
 show T X _ _ _
 obtain ⟨t26, ht26, q14⟩ := bnd_some q14
 refine T.cutC (fun S' => ∃ y27 : Value, S' = ⟨[(6, .val (.int .i64 s10.1)), (5, .val (.pointer (some ⟨(blk p2), 0, none⟩))), (2, .val (.pointer (some ⟨b2, 0, none⟩))), (0, .fn (.yield b0) [] [])], [.lp b0 .ready none [13, 14] rfA67_0 rfB67_0 [(3, .val (.pointer (some ⟨b4, 0, none⟩)))] 20, .var b1 [.val (.int .i64 a0)] 3, .var b2 [.val (.int .i64 a1)] 3, .var b3 [(eOP a2)] 24, .var b4 [.val y8] 81, .row y8 (List.map e_row_Row s10.2.1) 3 68, .var (blk p2) [.val y27] 111, .row y27 (List.map e_walk_frame_damier_row_Row t26) 3 117], 62⟩) (fun _ h => h) ?_ ?_
 · rcases ite_some ht26 with ⟨c28, ht26⟩ | ⟨c28, ht26⟩
   rotate_left
   · refine T.condF rfl (beq_eq_false_iff_ne.2 c28) ?_
     refine T.skip ?_
     obtain rfl := Option.some.inj ht26
     exact ⟨_, Gst.only [0, 2, 5, 6] rfl, y9, rfl⟩
   refine T.condT rfl (beq_iff_eq.2 c28) ?_
   refine T.region ?_
   obtain ⟨x29, hx29, ht26⟩ := bnd_some ht26
   refine TL.op (OpR.call [6, 7] fn48 (walk_stack_row_Row_forth_c hx29) rfl rfl rfl (fun _ => rfl)) rfl (fun w30 => ?_)
   refine TL.nil ?_
   obtain rfl := Option.some.inj ht26
   exact ⟨_, Gst.only [0, 2, 5, 6] rfl, (vn w30 0), rfl⟩
 rintro _ ⟨y27, rfl⟩
 show T X _ _ _
 refine aS ?_
 obtain ⟨x31, hx31, q14⟩ := bnd_some q14
 refine TL.op1 (OpR.call [6, 7] fn47 (walk_stack_row_Row_top_c hx31) rfl rfl rfl (fun _ => rfl)) rfl ?_
 refine aA rfl rfl ?_
 refine TL.nil ?_
 show T X _ _ _
 refine T.seq ?_
 refine T.seq ?_
 obtain ⟨x32, hx32, q14⟩ := bnd_some q14
 obtain ⟨q33, hq33, q14⟩ := bnd_some q14
 rcases q33 with _ | z34
 · dsimp only at q14
   exact (by cases q14)
 dsimp only at q14
 obtain ⟨x36, hx36, q14⟩ := bnd_some q14
 rw [o_tree_Node_damier_row_Row_eq hx36] at hq33
 obtain ⟨x38, hx38, q14⟩ := bnd_some q14
 obtain ⟨x39, hx39, q14⟩ := bnd_some q14
 refine T.drawS drawsX (fun env37 => [.fn (.yield b0) [] [], .val (.int .i64 s10.1), .val (.pointer (some ⟨blk y27, x31.toNat * 3, none⟩)), .val (.pointer (some ⟨blk y27, x31.toNat * 3, none⟩)), .val (.pointer (some ⟨blk y27, x31.toNat * 3, none⟩)), .nod [.sl 1 (List.map eNP x36.fKids), .sl 3 (List.map e_row_Row x36.fItems), .val (.int .i64 x36.fN)], .nod [.sl 1 (List.map eNP x36.fKids), .sl 3 (List.map e_row_Row x36.fItems), .val (.int .i64 x36.fN)], .nod [.sl 3 (List.map e_row_Row x36.fItems), .val (.int .i64 x36.fN)], .sl 3 (List.map e_row_Row x36.fItems), .val (.pointer (some ⟨blk y27, x31.toNat * 3, none⟩)), .val (.pointer (some ⟨blk y27, x31.toNat * 3, none⟩)), .val (.pointer (some ⟨blk y27, x31.toNat * 3 + 2, none⟩)), .val (.int .i64 x32.fNext), .nod [.sl 5 (List.map e_cell_Cell x38.fCells), .val (.int .i64 x38.fEnd), .val (.bool x38.fHidden)], .agg [.sl 5 (List.map e_cell_Cell x38.fCells), .val (.int .i64 x38.fEnd), .val (.bool x38.fHidden)], .val (.bool true), .val (.bool false)]) (fun D env37 => [.lp b0 .ready none [13, 14] rfA67_0 rfB67_0 [(3, .val (.pointer (some ⟨b4, 0, none⟩)))] 20, .var b1 [.val (.int .i64 a0)] 3, .var b2 [.val (.int .i64 a1)] 3, .var b3 [(eOP a2)] 24, (bif D 15 then .var b4 [.val (vn (env37 15) 0)] 81 else .var b4 [.val y8] 81), (bif D 15 then .row (vn (env37 15) 0) (List.map e_row_Row x39) 3 68 else .row y8 (List.map e_row_Row s10.2.1) 3 68), .var (blk p2) [.val y27] 111, .row y27 (List.map e_walk_frame_damier_row_Row t26) 3 117]) [0, 0, 0, 4, 12, 28, 60, 124, 252, 0, 512, 1536, 3584, 8188, 16380, 32767, 65535] [0, 2, 5, 6, 8, 54] (fun env37 => [.lp b0 .ready none [13, 14] rfA67_0 rfB67_0 [(3, .val (.pointer (some ⟨b4, 0, none⟩)))] 20, .var b1 [.val (.int .i64 a0)] 3, .var b2 [.val (.int .i64 a1)] 3, .var b3 [(eOP a2)] 24, .var b4 [.val (vn (env37 15) 0)] 81, .row (vn (env37 15) 0) (List.map e_row_Row x39) 3 68, .var (blk p2) [.val y27] 111, .row y27 (List.map e_walk_frame_damier_row_Row t26) 3 117]) (by decide +kernel) (by decide +kernel) (fun _ => rfl) (fun _ => rfl) ?_ (fun _ => rfl) (fun _ => rfl) ?_
 rotate_left
 · intro env37
   show T X _ _ _
   refine T.condF rfl rfl ?_
   refine T.skip ?_
   show T X _ _ _
   refine T.region ?_
   iterate 3 refine aA rfl rfl ?_
   refine TL.op1 (OpR.rowLoadM (j := x31) e_walk_frame_damier_row_Row 7 hx32 rfl rfl rfl rfl) rfl ?_
   iterate 3 refine aA rfl rfl ?_
   refine TL.op0 (OpR.rowStoreM (j := x31) e_walk_frame_damier_row_Row (⟨x32.fN, x32.fFirst, w64 (x32.fNext + 1)⟩ : walk_frame_damier_row_Row) 7 hx32 rfl rfl rfl rfl rfl rfl rfl rfl rfl) ?_
   refine TL.nil ?_
   show T X _ _ _
   refine T.region ?_
   iterate 3 refine aA rfl rfl ?_
   refine TL.nil ?_
   obtain rfl := Option.some.inj q14
   exact ⟨m12, Nat.lt_succ_self _, _, Gst.only [0, 2, 5, 6] rfl, (vn (env37 15) 0), y27, (w64 (s10.1 + 1), x39, (t26.set x31.toNat (⟨x32.fN, x32.fFirst, w64 (x32.fNext + 1)⟩ : walk_frame_damier_row_Row))), rfl, i15⟩
 iterate 5 refine aC ?_
 refine oS (d := .nod [.sl 1 (List.map eNP x36.fKids), .sl 3 (List.map e_row_Row x36.fItems), .val (.int .i64 x36.fN)]) (fun _ => Want.plain rfl) (fun _ => rfl) (fun _ _ _ => rfl) (fun _ _ => OpR.cast (OpR.rowLoad0M (j := x31) e_walk_frame_damier_row_Row 7 hx32 rfl rfl rfl rfl) (congrArg eOP (Option.some.inj hq33))) (fun _ _ _ _ _ _ _ => rfl) ?_
 iterate 6 refine aC ?_
 refine oS (d := .val (.int .i64 x32.fNext)) (fun _ => Want.plain rfl) (fun _ => rfl) (fun _ _ _ => rfl) (fun _ _ => OpR.rowLoadM (j := x31) e_walk_frame_damier_row_Row 7 hx32 rfl rfl rfl rfl) (fun _ _ _ _ _ _ _ => rfl) ?_
 refine oS (d := .nod [.sl 5 (List.map e_cell_Cell x38.fCells), .val (.int .i64 x38.fEnd), .val (.bool x38.fHidden)]) (fun _ => Want.plain rfl) (fun _ => rfl) (fun _ _ _ => rfl) (fun _ _ => OpR.indexM e_row_Row hx38 rfl rfl rfl rfl rfl) (fun _ _ _ _ _ _ _ => rfl) ?_
 refine aC ?_
 refine OpsS.cons' true ?_ (fun D hA env37 x j hj hD => match j, hj, hD with | 0, _, _ => rfl | 1, _, _ => rfl | 2, _, _ => rfl | 3, _, _ => rfl | 4, _, _ => rfl | 5, _, _ => rfl | 6, _, _ => rfl | 7, _, _ => rfl | 8, _, _ => rfl | 9, _, _ => rfl | 10, _, _ => rfl | 11, _, _ => rfl | 12, _, _ => rfl | 13, _, _ => rfl | 14, _, _ => rfl | 15, hj, _ => absurd rfl hj | 16, _, _ => rfl | _ + 17, _, _ => rfl) ?_
 · intro D env37 hA
   exact OpS.yes (o0 := [.lp b0 .ready none [13, 14] rfA67_0 rfB67_0 [(3, .val (.pointer (some ⟨b4, 0, none⟩)))] 20, .var b1 [.val (.int .i64 a0)] 3, .var b2 [.val (.int .i64 a1)] 3, .var b3 [(eOP a2)] 24, .var b4 [.val y8] 81, .row y8 (List.map e_row_Row s10.2.1) 3 68, .var (blk p2) [.val y27] 111, .row y27 (List.map e_walk_frame_damier_row_Row t26) 3 117]) (o1 := fun x => [.lp b0 .ready none [13, 14] rfA67_0 rfB67_0 [(3, .val (.pointer (some ⟨b4, 0, none⟩)))] 20, .var b1 [.val (.int .i64 a0)] 3, .var b2 [.val (.int .i64 a1)] 3, .var b3 [(eOP a2)] 24, .var b4 [.val (vn x 0)] 81, .row (vn x 0) (List.map e_row_Row x39) 3 68, .var (blk p2) [.val y27] 111, .row y27 (List.map e_walk_frame_damier_row_Row t26) 3 117]) (d := fun x => .val (.bool true)) (Want.plain rfl) (by first | rfl | simp only [hA.me, cond_true, cond_false, List.cons_append, List.nil_append, List.append_nil]) (fun x => by first | rfl | simp only [ins_self, upd_self, hA.me, cond_true, cond_false, List.cons_append, List.nil_append, List.append_nil]) (fun x => rfl) (OpR.callY [0, 4, 5] rfl (walk_All_row_Row_r0_c hx39) rfl rfl rfl (fun _ => rfl))
 refine aC ?_
 exact trivial
noncomputable def walk_All_row_Row (a0 : tree_Tree_damier_row_Row) : Option (List row_Row) :=
  bnd (tree_Tree_row_Row_Len a0) fun x1 =>
  bnd ((mkc 40 x1 : Option (List row_Row))) fun x2 =>
  bnd (tree_Tree_row_Row_Len a0) fun x6 =>
  bnd (walk_Range_row_Row a0 0 x6) fun x7 =>
  bnd (walk_Range_row_Row_1_2 x7.1 x7.2.1 x7.2.2 x2) fun x9 =>
  some x9
set_option maxHeartbeats 4000000 in
theorem walk_All_row_Row_c {a0 : tree_Tree_damier_row_Row} {res : (List row_Row)} (h0 : walk_All_row_Row a0 = some res) : CallF X 67 [.agg [(eOP a0.fRoot)]] [] (fun x => .sl 3 (List.map e_row_Row res)) (fun x => []) := by
 unfold walk_All_row_Row at h0
 refine CallF.mkG (X := X) rfl Try.func67 rfl rfl Try.ntmps67 rfl rfl ?_
 refine aS ?_
 refine TL.op1 (OpR.boxImm rfl rfl) rfl ?_
 refine aA rfl rfl ?_
 refine TL.nil ?_
 show T X _ _ _
 refine aS ?_
 refine aA rfl rfl ?_
 obtain ⟨x1, hx1, h0⟩ := bnd_some h0
 refine TL.op1 (OpR.call0 fn42 (tree_Tree_row_Row_Len_c hx1) rfl) rfl ?_
 obtain ⟨x2, hx2, h0⟩ := bnd_some h0
 refine TL.op (OpR.makeC e_row_Row hx2 rfl rfl rfl rfl rfl rfl rfl (fun _ => rfl)) rfl (fun v3 => ?_)
 refine TL.op (OpR.alloc rfl rfl (fun _ => rfl)) rfl (fun p4 => ?_)
 refine TL.op0 (OpR.store 1 rfl rfl rfl rfl rfl rfl rfl rfl) ?_
 refine TL.nil ?_
 show T X _ _ _
 refine T.seq ?_
 refine T.seq ?_
 obtain ⟨x6, hx6, h0⟩ := bnd_some h0
 obtain ⟨x7, hx7, h0⟩ := bnd_some h0
 refine T.drawS drawsX (fun env5 => [.agg [(eOP a0.fRoot)], .agg [(eOP a0.fRoot)], .val (.int .i64 x6), .fn (.func 44) [] [.val (.pointer (some ⟨(blk (vn (env5 3) 0)), 0, none⟩)), .val (.pointer (some ⟨(blk (vn (env5 3) 1)), 0, none⟩)), .val (.pointer (some ⟨(blk (vn (env5 3) 2)), 0, none⟩))]]) (fun D env5 => [.row v3 (List.map e_row_Row x2) 3 68, .var (blk p4) [.val v3] 81] ++ (bif D 3 then [.var (blk (vn (env5 3) 0)) [.val (.int .i64 x7.1)] 3] else []) ++ (bif D 3 then [.var (blk (vn (env5 3) 1)) [.val (.int .i64 x7.2.1)] 3] else []) ++ (bif D 3 then [.var (blk (vn (env5 3) 2)) [(eOP x7.2.2)] 24] else [])) [0, 0, 2, 7] [2, 3, 12] (fun env5 => [.row v3 (List.map e_row_Row x2) 3 68, .var (blk p4) [.val v3] 81, .var (blk (vn (env5 3) 0)) [.val (.int .i64 x7.1)] 3, .var (blk (vn (env5 3) 1)) [.val (.int .i64 x7.2.1)] 3, .var (blk (vn (env5 3) 2)) [(eOP x7.2.2)] 24]) (by decide +kernel) (by decide +kernel) (fun _ => rfl) (fun _ => rfl) ?_ (fun _ => rfl) (fun _ => rfl) ?_
 rotate_left
 · intro env5
   show T X _ _ _
   refine T.block ?_
   obtain ⟨x9, hx9, h0⟩ := bnd_some h0
   refine T.rangeN (A := rfA67_0) (B := rfB67_0) [3] [2, 3, 4, 1, 0] (.inl rfl) rfl rfl rfl rfl rfl fn44 rfl rfl (fun l8 => (walk_Range_row_Row_1_2_c hx9)) (fun _ => rfl) (fun w10 => ?_)
   show T X _ _ _
   refine aS ?_
   refine TL.op1 (OpR.loadPtr 1 rfl rfl rfl rfl) rfl ?_
   refine aA rfl rfl ?_
   refine TL.nil ?_
   show T X _ _ _
   refine T.ret ?_
   obtain rfl := Option.some.inj h0
   exact PostG.retP (ks := []) (Gst.trans (Gst.only [2] rfl) (Gst.trans (Gst.freezeRow 0 rfl rfl (ReS.cons (Re.base .all) ReS.nil) (ReO.same (ReO.var (ReL.cons (Re.base .all) ReL.nil) (ReO.same (ReO.same (ReO.same ReO.nil)))))) (Gst.pick [] rfl rfl))) undef (ResL.cons (ResV.tmp rfl) ResL.nil) rfl rfl rfl rfl
 iterate 2 refine aC ?_
 refine oS (d := .val (.int .i64 x6)) (fun _ => Want.plain rfl) (fun _ => rfl) (fun _ _ _ => rfl) (fun _ _ => OpR.call0 fn42 (tree_Tree_row_Row_Len_c hx6) rfl) (fun _ _ _ _ _ _ _ => rfl) ?_
 refine OpsS.cons' true ?_ (fun D hA env5 x j hj hD => match j, hj, hD with | 0, _, _ => rfl | 1, _, _ => rfl | 2, _, _ => rfl | 3, hj, _ => absurd rfl hj | _ + 4, _, _ => rfl) ?_
 · intro D env5 hA
   exact OpS.yes (o0 := [.row v3 (List.map e_row_Row x2) 3 68, .var (blk p4) [.val v3] 81]) (o1 := fun x => [.row v3 (List.map e_row_Row x2) 3 68, .var (blk p4) [.val v3] 81, .var (blk (vn x 0)) [.val (.int .i64 x7.1)] 3, .var (blk (vn x 1)) [.val (.int .i64 x7.2.1)] 3, .var (blk (vn x 2)) [(eOP x7.2.2)] 24]) (d := fun x => .fn (.func 44) [] [.val (.pointer (some ⟨(blk (vn x 0)), 0, none⟩)), .val (.pointer (some ⟨(blk (vn x 1)), 0, none⟩)), .val (.pointer (some ⟨(blk (vn x 2)), 0, none⟩))]) (Want.plain rfl) (by first | rfl | simp only [hA.me, cond_true, cond_false, List.cons_append, List.nil_append, List.append_nil]) (fun x => by first | rfl | simp only [ins_self, upd_self, hA.me, cond_true, cond_false, List.cons_append, List.nil_append, List.append_nil]) (fun x => rfl) (OpR.call [] fn17 (walk_Range_row_Row_c hx7) rfl rfl rfl (fun _ => rfl))
 exact trivial
noncomputable def row_Row_ahead (a0 : row_Row) (a1 : Int) : Option (List cell_Cell) :=
  bnd (cut a0.fCells 0 a1) fun x1 =>
  some x1
set_option maxHeartbeats 4000000 in
theorem row_Row_ahead_c {a0 : row_Row} {a1 : Int} {res : (List cell_Cell)} (h0 : row_Row_ahead a0 a1 = some res) : CallF X 62 [.agg [.sl 5 (List.map e_cell_Cell a0.fCells), .val (.int .i64 a0.fEnd), .val (.bool a0.fHidden)], .val (.int .i64 a1)] [] (fun x => .slx 5 (List.map e_cell_Cell res)) (fun x => []) := by
 unfold row_Row_ahead at h0
 refine CallF.mkG (X := X) rfl Try.func62 rfl rfl Try.ntmps62 rfl rfl ?_
 refine aS ?_
 refine TL.op1 (OpR.boxImm rfl rfl) rfl ?_
 refine aA rfl rfl ?_
 refine TL.nil ?_
 show T X _ _ _
 refine aS ?_
 iterate 4 refine aA rfl rfl ?_
 obtain ⟨x1, hx1, h0⟩ := bnd_some h0
 refine TL.op1 (OpR.slice3M (sz := 5) e_cell_Cell hx1 rfl rfl rfl rfl (BdM.some rfl) rfl rfl rfl) rfl ?_
 refine aA rfl rfl ?_
 refine TL.nil ?_
 show T X _ _ _
 refine T.ret ?_
 obtain rfl := Option.some.inj h0
 exact PostG.retP (ks := []) (Gst.only [4] rfl) undef (ResL.cons (ResV.tmp rfl) ResL.nil) rfl rfl rfl rfl
noncomputable def row_Row_behind (a0 : row_Row) (a1 : Int) : Option (List cell_Cell) :=
  bnd (cut a0.fCells a1 (a0.fCells.length : Int)) fun x1 =>
  some x1
set_option maxHeartbeats 4000000 in
theorem row_Row_behind_c {a0 : row_Row} {a1 : Int} {res : (List cell_Cell)} (h0 : row_Row_behind a0 a1 = some res) : CallF X 63 [.agg [.sl 5 (List.map e_cell_Cell a0.fCells), .val (.int .i64 a0.fEnd), .val (.bool a0.fHidden)], .val (.int .i64 a1)] [] (fun x => .slx 5 (List.map e_cell_Cell res)) (fun x => []) := by
 unfold row_Row_behind at h0
 refine CallF.mkG (X := X) rfl Try.func63 rfl rfl Try.ntmps63 rfl rfl ?_
 refine aS ?_
 refine TL.op1 (OpR.boxImm rfl rfl) rfl ?_
 refine aA rfl rfl ?_
 refine TL.nil ?_
 show T X _ _ _
 refine aS ?_
 iterate 5 refine aA rfl rfl ?_
 refine TL.op1 (OpR.cast (OpR.pure rfl) (intE (lenM _ _))) rfl ?_
 iterate 2 refine aA rfl rfl ?_
 refine TL.op1 (OpR.cast (OpR.pure rfl) (intE (lenM _ _))) rfl ?_
 obtain ⟨x1, hx1, h0⟩ := bnd_some h0
 refine TL.op1 (OpR.slice3M (sz := 5) e_cell_Cell hx1 rfl rfl rfl rfl (BdM.some rfl) rfl rfl rfl) rfl ?_
 refine aA rfl rfl ?_
 refine TL.nil ?_
 show T X _ _ _
 refine T.ret ?_
 obtain rfl := Option.some.inj h0
 exact PostG.retP (ks := []) (Gst.only [4] rfl) undef (ResL.cons (ResV.tmp rfl) ResL.nil) rfl rfl rfl rfl
noncomputable def row_Row_with (a0 : row_Row) (a1 : List cell_Cell) : Option (Int × Bool) :=
  some (a0.fEnd, a0.fHidden)
set_option maxHeartbeats 4000000 in
theorem row_Row_with_c {a0 : row_Row} {a1 : List cell_Cell} {v0 : Value} {res : Int × Bool} (h0 : row_Row_with a0 a1 = some res) : CallF X 61 [.agg [.sl 5 (List.map e_cell_Cell a0.fCells), .val (.int .i64 a0.fEnd), .val (.bool a0.fHidden)], .val v0] [.row v0 (List.map e_cell_Cell a1) 5 50] (fun x => .agg [.val v0, .val (.int .i64 res.1), .val (.bool res.2)]) (fun x => [.row v0 (List.map e_cell_Cell a1) 5 50]) := by
 unfold row_Row_with at h0
 refine CallF.mkG (X := X) rfl Try.func61 rfl rfl Try.ntmps61 rfl rfl ?_
 refine aS ?_
 refine TL.op (OpR.boxVar rfl rfl (fun _ => rfl)) rfl (fun p1 => ?_)
 refine TL.op (OpR.alloc rfl rfl (fun _ => rfl)) rfl (fun p2 => ?_)
 refine TL.nil ?_
 show T X _ _ _
 refine aS ?_
 iterate 2 refine aA rfl rfl ?_
 refine TL.op0 (OpR.store 1 rfl rfl rfl rfl rfl rfl rfl rfl) ?_
 refine TL.nil ?_
 show T X _ _ _
 refine aS ?_
 refine TL.op1 (OpR.loadPtr 1 rfl rfl rfl rfl) rfl ?_
 refine TL.op0 (OpR.store 2 rfl rfl rfl rfl rfl rfl rfl rfl) ?_
 refine TL.nil ?_
 show T X _ _ _
 refine T.ret ?_
 obtain rfl := Option.some.inj h0
 exact PostG.retP (ks := [0]) (Gst.trans (Gst.only [4] rfl) (Gst.pick [0, 2] rfl rfl)) undef (ResL.cons (ResV.var 1 rfl rfl rfl rfl) ResL.nil) rfl rfl rfl rfl
noncomputable def row_Row_Insert (a0 : row_Row) (a1 : Int) (a2 : cell_Cell) : Option (row_Row × Int) :=
  bnd (if a1 < 0 then
    some true
  else
    some (decide (a1 > (a0.fCells.length : Int))) : Option Bool) fun t2 =>
  if t2 = true then
    some ((⟨[], 0, false⟩ : row_Row), 5)
  else
    if (a0.fCells.length : Int) ≥ 40 then
      some ((⟨[], 0, false⟩ : row_Row), 6)
    else
      bnd (row_Row_ahead a0 a1) fun x7 =>
      bnd (app 56 x7 [a2]) fun x8 =>
      bnd (row_Row_behind a0 a1) fun x9 =>
      bnd (app 56 x8 x9) fun x10 =>
      bnd (row_Row_with a0 x10) fun x11 =>
      some ((⟨x10, x11.1, x11.2⟩ : row_Row), 0)
set_option maxHeartbeats 4000000 in
theorem row_Row_Insert_c {a0 : row_Row} {a1 : Int} {a2 : cell_Cell} {res : row_Row × Int} (h0 : row_Row_Insert a0 a1 a2 = some res) : CallF X 34 [.agg [.sl 5 (List.map e_cell_Cell a0.fCells), .val (.int .i64 a0.fEnd), .val (.bool a0.fHidden)], .val (.int .i64 a1), .agg [.sl 2 (List.map e_arena_Span a2.fText.fL), .val (.int .i64 a2.fText.fN), .val (.int .i64 a2.fRaw.fAt), .val (.int .i64 a2.fRaw.fN), .val (.bool a2.fKept)]] [] (fun x => .tup [.agg [.sl 5 (List.map e_cell_Cell res.1.fCells), .val (.int .i64 res.1.fEnd), .val (.bool res.1.fHidden)], .val (.int .i64 res.2)]) (fun x => []) := by
 unfold row_Row_Insert at h0
 refine CallF.mkG (X := X) rfl Try.func34 rfl rfl Try.ntmps34 rfl rfl ?_
 refine aS ?_
 refine TL.op1 (OpR.boxImm rfl rfl) rfl ?_
 refine TL.op1 (OpR.boxImm rfl rfl) rfl ?_
 refine TL.op (OpR.alloc rfl rfl (fun _ => rfl)) rfl (fun p1 => ?_)
 refine aA rfl rfl ?_
 refine TL.nil ?_
 show T X _ _ _
 refine T.seq ?_
 refine T.block ?_
 refine T.seq ?_
 obtain ⟨t2, ht2, h0⟩ := bnd_some h0
 refine T.cutC (fun S' => S' = ⟨[(8, .val (.bool t2)), (7, .val (.int .i64 0)), (6, .val (.pointer (some ⟨(blk p1), 0, none⟩))), (5, .nod [.sl 2 (List.map e_arena_Span a2.fText.fL), .val (.int .i64 a2.fText.fN), .val (.int .i64 a2.fRaw.fAt), .val (.int .i64 a2.fRaw.fN), .val (.bool a2.fKept)]), (3, .nod [.sl 5 (List.map e_cell_Cell a0.fCells), .val (.int .i64 a0.fEnd), .val (.bool a0.fHidden)]), (1, .val (.int .i64 a1))], [.var (blk p1) [.val (.slice none 0 0), .val (.int .i64 0), .val (.bool false)] 68], 37⟩) (fun _ h => h) ?_ ?_
 · refine T.region ?_
   iterate 3 refine aA rfl rfl ?_
   rcases ite_some ht2 with ⟨c3, ht2⟩ | ⟨c3, ht2⟩
   · refine TL.off rfl rfl rfl rfl (decide_eq_true c3) rfl rfl ?_
     refine TL.off rfl rfl rfl rfl (decide_eq_true c3) rfl rfl ?_
     refine TL.off rfl rfl rfl rfl (decide_eq_true c3) rfl rfl ?_
     refine TL.off rfl rfl rfl rfl (decide_eq_true c3) rfl rfl ?_
     refine TL.off rfl rfl rfl rfl (decide_eq_true c3) rfl rfl ?_
     refine TL.op1 (OpR.pickT rfl (decide_eq_true c3) rfl) rfl ?_
     refine aA rfl rfl ?_
     refine TL.nil ?_
     obtain rfl := Option.some.inj ht2
     exact ⟨_, Gst.only [1, 3, 5, 6, 7, 8] rfl, rfl⟩
   refine TL.on rfl rfl rfl rfl (decide_eq_false c3) ?_
   refine aA rfl rfl ?_
   refine TL.on rfl rfl rfl rfl (decide_eq_false c3) ?_
   refine aA rfl rfl ?_
   refine TL.on rfl rfl rfl rfl (decide_eq_false c3) ?_
   refine aA rfl rfl ?_
   refine TL.on rfl rfl rfl rfl (decide_eq_false c3) ?_
   refine TL.op1 (OpR.cast (OpR.pure rfl) (intE (lenM _ _))) rfl ?_
   refine TL.on rfl rfl rfl rfl (decide_eq_false c3) ?_
   refine aA rfl rfl ?_
   refine TL.op1 (OpR.pickF rfl (decide_eq_false c3) rfl) rfl ?_
   refine aA rfl rfl ?_
   refine TL.nil ?_
   obtain rfl := Option.some.inj ht2
   exact ⟨_, Gst.only [1, 3, 5, 6, 7, 8] rfl, rfl⟩
 rintro _ rfl
 show T X _ _ _
 rcases ite_some h0 with ⟨c4, h0⟩ | ⟨c4, h0⟩
 · refine T.condT rfl (c4) ?_
   refine aS ?_
   refine TL.op1 (OpR.build rfl rfl rfl rfl rfl) rfl ?_
   refine TL.op0 (OpR.store 0 rfl rfl rfl rfl rfl rfl rfl rfl) ?_
   refine aA rfl rfl ?_
   refine TL.nil ?_
   show T X _ _ _
   refine T.ret ?_
   obtain rfl := Option.some.inj h0
   exact PostG.retP (ks := []) (Gst.trans (Gst.only [6, 7] rfl) (Gst.denil (ReS.cons Re.refl (ReS.cons Re.refl ReS.nil)) (ReO.var (ReL.cons (Re.base .nil) (ReL.cons Re.refl (ReL.cons Re.refl ReL.nil))) ReO.nil))) undef (ResL.cons (ResV.var 0 rfl rfl rfl rfl) (ResL.cons (ResV.tmp rfl) ResL.nil)) rfl rfl rfl rfl
 refine T.condF rfl (eq_false_of_ne_true c4) ?_
 refine aS ?_
 iterate 2 refine aA rfl rfl ?_
 refine TL.op1 (OpR.cast (OpR.pure rfl) (intE (lenM _ _))) rfl ?_
 iterate 2 refine aA rfl rfl ?_
 refine TL.nil ?_
 show T X _ _ _
 rcases ite_some h0 with ⟨c5, h0⟩ | ⟨c5, h0⟩
 · refine T.condT rfl (decide_eq_true c5) ?_
   refine aS ?_
   refine TL.op1 (OpR.build rfl rfl rfl rfl rfl) rfl ?_
   refine TL.op0 (OpR.store 0 rfl rfl rfl rfl rfl rfl rfl rfl) ?_
   refine aA rfl rfl ?_
   refine TL.nil ?_
   show T X _ _ _
   refine T.ret ?_
   obtain rfl := Option.some.inj h0
   exact PostG.retP (ks := []) (Gst.trans (Gst.only [6, 7] rfl) (Gst.denil (ReS.cons Re.refl (ReS.cons Re.refl ReS.nil)) (ReO.var (ReL.cons (Re.base .nil) (ReL.cons Re.refl (ReL.cons Re.refl ReL.nil))) ReO.nil))) undef (ResL.cons (ResV.var 0 rfl rfl rfl rfl) (ResL.cons (ResV.tmp rfl) ResL.nil)) rfl rfl rfl rfl
 refine T.condF rfl (decide_eq_false c5) ?_
 refine T.skip ?_
 show T X _ _ _
 refine T.seq ?_
 obtain ⟨x7, hx7, h0⟩ := bnd_some h0
 obtain ⟨x8, hx8, h0⟩ := bnd_some h0
 obtain ⟨x9, hx9, h0⟩ := bnd_some h0
 obtain ⟨x10, hx10, h0⟩ := bnd_some h0
 obtain ⟨x11, hx11, h0⟩ := bnd_some h0
 refine T.drawS drawsX (fun env6 => [.agg [.sl 5 (List.map e_cell_Cell a0.fCells), .val (.int .i64 a0.fEnd), .val (.bool a0.fHidden)], .agg [.sl 5 (List.map e_cell_Cell a0.fCells), .val (.int .i64 a0.fEnd), .val (.bool a0.fHidden)], .val (.int .i64 a1), .slx 5 (List.map e_cell_Cell x7), .agg [.sl 2 (List.map e_arena_Span a2.fText.fL), .val (.int .i64 a2.fText.fN), .val (.int .i64 a2.fRaw.fAt), .val (.int .i64 a2.fRaw.fN), .val (.bool a2.fKept)], .sl 5 (List.map e_cell_Cell [a2]), .val (env6 6), .agg [.sl 5 (List.map e_cell_Cell a0.fCells), .val (.int .i64 a0.fEnd), .val (.bool a0.fHidden)], .val (.int .i64 a1), .sl 5 (List.map e_cell_Cell x9), .val (env6 10), .agg [.val (env6 10), .val (.int .i64 x11.1), .val (.bool x11.2)], .dead, .val (.int .i64 0)]) (fun D env6 => [(bif D 12 then .var (blk p1) [.val (env6 10), .val (.int .i64 x11.1), .val (.bool x11.2)] 68 else .var (blk p1) [.val (.slice none 0 0), .val (.int .i64 0), .val (.bool false)] 68)] ++ (bif D 6 then [(bif D 10 then .row (env6 10) (List.map e_cell_Cell x10) 5 50 else .row (env6 6) (List.map e_cell_Cell x8) 5 50)] else [])) [0, 0, 0, 6, 0, 16, 62, 0, 0, 510, 1022, 2047, 4095, 8191] [6, 7] (fun env6 => [.var (blk p1) [.val (env6 10), .val (.int .i64 x11.1), .val (.bool x11.2)] 68, .row (env6 10) (List.map e_cell_Cell x10) 5 50]) (by decide +kernel) (by decide +kernel) (fun _ => rfl) (fun _ => rfl) ?_ (fun _ => rfl) (fun _ => rfl) ?_
 rotate_left
 · intro env6
   show T X _ _ _
   refine T.ret ?_
   obtain rfl := Option.some.inj h0
   exact PostG.retP (ks := []) (Gst.trans (Gst.only [6, 7] rfl) (Gst.trans (Gst.freezeRow 1 rfl rfl (ReS.cons Re.refl (ReS.cons Re.refl ReS.nil)) (ReO.var (ReL.cons (Re.base .all) (ReL.cons Re.refl (ReL.cons Re.refl ReL.nil))) (ReO.same ReO.nil))) (Gst.pick [0] rfl rfl))) undef (ResL.cons (ResV.var 0 rfl rfl rfl rfl) (ResL.cons (ResV.tmp rfl) ResL.nil)) rfl rfl rfl rfl
 iterate 3 refine aC ?_
 refine oS (d := .slx 5 (List.map e_cell_Cell x7)) (fun _ => Want.plain rfl) (fun _ => rfl) (fun _ _ _ => rfl) (fun _ _ => OpR.call0 fn62 (row_Row_ahead_c hx7) rfl) (fun _ _ _ _ _ _ _ => rfl) ?_
 refine aC ?_
 refine oS (d := .sl 5 (List.map e_cell_Cell [a2])) (fun _ => Want.plain rfl) (fun _ => rfl) (fun _ _ _ => rfl) (fun _ _ => OpR.lit rfl rfl rfl rfl rfl rfl rfl) (fun _ _ _ _ _ _ _ => rfl) ?_
 refine OpsS.cons' true ?_ (fun D hA env6 x j hj hD => match j, hj, hD with | 0, _, _ => rfl | 1, _, _ => rfl | 2, _, _ => rfl | 3, _, _ => rfl | 4, _, _ => rfl | 5, _, _ => rfl | 6, hj, _ => absurd rfl hj | 7, _, _ => rfl | 8, _, _ => rfl | 9, _, _ => rfl | 10, _, _ => rfl | 11, _, _ => rfl | 12, _, _ => rfl | 13, _, _ => rfl | _ + 14, _, _ => rfl) ?_
 · intro D env6 hA
   have e10 : D 10 = false := hA.no 10 _ rfl rfl
   have e12 : D 12 = false := hA.no 12 _ rfl rfl
   exact OpS.yes (o0 := [.var (blk p1) [.val (.slice none 0 0), .val (.int .i64 0), .val (.bool false)] 68]) (o1 := fun x => [.var (blk p1) [.val (.slice none 0 0), .val (.int .i64 0), .val (.bool false)] 68, .row x (List.map e_cell_Cell x8) 5 50]) (d := fun x => .val x) (Want.plain rfl) (by first | rfl | simp only [e10, e12, hA.me, cond_true, cond_false, List.cons_append, List.nil_append, List.append_nil]) (fun x => by first | rfl | simp only [ins_self, ins_ne D (show 6 ≠ 10 by decide), ins_ne D (show 6 ≠ 12 by decide), upd_self, upd_ne env6 x (show 6 ≠ 10 by decide), e10, e12, hA.me, cond_true, cond_false, List.cons_append, List.nil_append, List.append_nil]) (fun x => rfl) (OpR.appendXM (m := [a2]) e_cell_Cell hx8 (Src.sl rfl) rfl rfl rfl rfl rfl rfl rfl rfl (fun _ => rfl))
 iterate 2 refine aC ?_
 refine oS (d := .sl 5 (List.map e_cell_Cell x9)) (fun _ => Want.plain rfl) (fun _ => rfl) (fun _ _ _ => rfl) (fun _ _ => OpR.unx (OpR.call0 fn63 (row_Row_behind_c hx9) rfl)) (fun _ _ _ _ _ _ _ => rfl) ?_
 refine OpsS.cons' true ?_ (fun D hA env6 x j hj hD => match j, hj, hD with | 0, _, _ => rfl | 1, _, _ => rfl | 2, _, _ => rfl | 3, _, _ => rfl | 4, _, _ => rfl | 5, _, _ => rfl | 6, _, _ => rfl | 7, _, _ => rfl | 8, _, _ => rfl | 9, _, _ => rfl | 10, hj, _ => absurd rfl hj | 11, _, hD => absurd hD (by rw [hA.no 11 _ rfl rfl]; decide) | 12, _, _ => rfl | 13, _, _ => rfl | _ + 14, _, _ => rfl) ?_
 · intro D env6 hA
   have e6 : D 6 = true := hA.yes 6 _ rfl rfl
   have e12 : D 12 = false := hA.no 12 _ rfl rfl
   exact OpS.yes (o0 := [.var (blk p1) [.val (.slice none 0 0), .val (.int .i64 0), .val (.bool false)] 68, .row (env6 6) (List.map e_cell_Cell x8) 5 50]) (o1 := fun x => [.var (blk p1) [.val (.slice none 0 0), .val (.int .i64 0), .val (.bool false)] 68, .row x (List.map e_cell_Cell x10) 5 50]) (d := fun x => .val x) (Want.plain rfl) (by first | rfl | simp only [e6, e12, hA.me, cond_true, cond_false, List.cons_append, List.nil_append, List.append_nil]) (fun x => by first | rfl | simp only [ins_self, ins_ne D (show 10 ≠ 6 by decide), ins_ne D (show 10 ≠ 12 by decide), upd_self, upd_ne env6 x (show 10 ≠ 6 by decide), e6, e12, hA.me, cond_true, cond_false, List.cons_append, List.nil_append, List.append_nil]) (fun x => rfl) (OpR.appendM (m := x9) e_cell_Cell 1 hx10 rfl rfl rfl rfl rfl rfl rfl rfl rfl (fun _ => rfl))
 refine OpsS.cons' true ?_ (fun _ _ _ _ _ _ _ => rfl) ?_
 · intro D env6 hA
   have e6 : D 6 = true := hA.yes 6 _ rfl rfl
   have e10 : D 10 = true := hA.yes 10 _ rfl rfl
   have e12 : D 12 = false := hA.no 12 _ rfl rfl
   exact OpS.yes (o0 := [.var (blk p1) [.val (.slice none 0 0), .val (.int .i64 0), .val (.bool false)] 68, .row (env6 10) (List.map e_cell_Cell x10) 5 50]) (o1 := fun x => [.var (blk p1) [.val (.slice none 0 0), .val (.int .i64 0), .val (.bool false)] 68, .row (env6 10) (List.map e_cell_Cell x10) 5 50]) (d := fun x => .agg [.val (env6 10), .val (.int .i64 x11.1), .val (.bool x11.2)]) (Want.plain rfl) (by first | rfl | simp only [e6, e10, e12, cond_true, cond_false, List.cons_append, List.nil_append, List.append_nil]) (fun x => by first | rfl | simp only [ins_self, ins_ne D (show 11 ≠ 6 by decide), ins_ne D (show 11 ≠ 10 by decide), ins_ne D (show 11 ≠ 12 by decide), upd_self, upd_ne env6 x (show 11 ≠ 6 by decide), upd_ne env6 x (show 11 ≠ 10 by decide), e6, e10, e12, cond_true, cond_false, List.cons_append, List.nil_append, List.append_nil]) (fun x => rfl) (OpR.call [1] fn61 (row_Row_with_c hx11) rfl rfl rfl (fun _ => rfl))
 refine OpsS.cons' true ?_ (fun _ _ _ _ _ _ _ => rfl) ?_
 · intro D env6 hA
   have e6 : D 6 = true := hA.yes 6 _ rfl rfl
   have e10 : D 10 = true := hA.yes 10 _ rfl rfl
   exact OpS.yes (o0 := [.var (blk p1) [.val (.slice none 0 0), .val (.int .i64 0), .val (.bool false)] 68, .row (env6 10) (List.map e_cell_Cell x10) 5 50]) (o1 := fun x => [.var (blk p1) [.val (env6 10), .val (.int .i64 x11.1), .val (.bool x11.2)] 68, .row (env6 10) (List.map e_cell_Cell x10) 5 50]) (d := fun x => .dead) (Want.plain rfl) (by first | rfl | simp only [e6, e10, hA.me, cond_true, cond_false, List.cons_append, List.nil_append, List.append_nil]) (fun x => by first | rfl | simp only [ins_self, ins_ne D (show 12 ≠ 6 by decide), ins_ne D (show 12 ≠ 10 by decide), upd_self, upd_ne env6 x (show 12 ≠ 6 by decide), upd_ne env6 x (show 12 ≠ 10 by decide), e6, e10, hA.me, cond_true, cond_false, List.cons_append, List.nil_append, List.append_nil]) (fun x => rfl) (OpR.store 0 rfl rfl rfl rfl rfl rfl rfl rfl)
 refine aC ?_
 exact trivial
noncomputable def cols_Insert_1 (a0 : row_Row) (a1 : Int) : Option (row_Row × Int) :=
  bnd (row_Row_Len a0) fun x3 =>
  if x3 < a1 then
    some (a0, 0)
  else
    bnd (row_Row_Insert a0 a1 (⟨(⟨[], 0⟩ : piece_Text), (⟨0, 0⟩ : arena_Span), false⟩ : cell_Cell)) fun x5 =>
    some (x5.1, x5.2)
set_option maxHeartbeats 4000000 in
theorem cols_Insert_1_c {a0 : row_Row} {a1 : Int} {b0 : Nat} {res : row_Row × Int} (h0 : cols_Insert_1 a0 a1 = some res) : CallF X 32 [.agg [.sl 5 (List.map e_cell_Cell a0.fCells), .val (.int .i64 a0.fEnd), .val (.bool a0.fHidden)], .val (.pointer (some ⟨b0, 0, none⟩))] [.var b0 [.val (.int .i64 a1)] 3] (fun x => .tup [.agg [.sl 5 (List.map e_cell_Cell res.1.fCells), .val (.int .i64 res.1.fEnd), .val (.bool res.1.fHidden)], .val (.int .i64 res.2)]) (fun x => [.var b0 [.val (.int .i64 a1)] 3]) := by
 unfold cols_Insert_1 at h0
 refine CallF.mkG (X := X) rfl Try.func32 rfl rfl Try.ntmps32 rfl rfl ?_
 refine aS ?_
 refine TL.op1 (OpR.boxImm rfl rfl) rfl ?_
 refine TL.op (OpR.alloc rfl rfl (fun _ => rfl)) rfl (fun p1 => ?_)
 refine aA rfl rfl ?_
 refine TL.nil ?_
 show T X _ _ _
 refine T.seq ?_
 refine T.seq ?_
 obtain ⟨x3, hx3, h0⟩ := bnd_some h0
 refine T.drawQ drawsX [.agg [.sl 5 (List.map e_cell_Cell a0.fCells), .val (.int .i64 a0.fEnd), .val (.bool a0.fHidden)], .val (.int .i64 x3), .val (.int .i64 a1), .val (.bool (decide (x3 < a1)))] [1, 2, 3, 4, 8] (by decide +kernel) rfl ?_ rfl ?_
 · refine aB rfl rfl rfl ?_
   refine OpsQ.yes (Want.plain rfl) rfl (OpR.call0 fn33 (row_Row_Len_c hx3) rfl) ?_
   refine OpsQ.yes (Want.plain rfl) rfl (OpR.loadPtr 0 rfl rfl rfl rfl) ?_
   refine aB rfl rfl rfl ?_
   exact OpsQ.nil
 show T X _ _ _
 rcases ite_some h0 with ⟨c4, h0⟩ | ⟨c4, h0⟩
 · refine T.condT rfl (decide_eq_true c4) ?_
   refine aS ?_
   refine aA rfl rfl ?_
   refine TL.op0 (OpR.store 1 rfl rfl rfl rfl rfl rfl rfl rfl) ?_
   refine aA rfl rfl ?_
   refine TL.nil ?_
   show T X _ _ _
   refine T.ret ?_
   obtain rfl := Option.some.inj h0
   exact PostG.retP (ks := [0]) (Gst.only [3, 4] rfl) undef (ResL.cons (ResV.var 1 rfl rfl rfl rfl) (ResL.cons (ResV.tmp rfl) ResL.nil)) rfl rfl rfl rfl
 refine T.condF rfl (decide_eq_false c4) ?_
 refine T.skip ?_
 show T X _ _ _
 refine aS ?_
 refine aA rfl rfl ?_
 refine TL.op1 (OpR.loadPtr 0 rfl rfl rfl rfl) rfl ?_
 refine TL.op1 (OpR.wk (d' := fun _ => .agg [.sl 2 (List.map e_arena_Span []), .val (.int .i64 0), .val (.int .i64 0), .val (.int .i64 0), .val (.bool false)]) (OpR.build rfl rfl rfl rfl rfl) (fun _ => Re.agg (ReL.cons (Re.base .nil) (ReL.cons Re.refl (ReL.cons Re.refl (ReL.cons Re.refl (ReL.cons Re.refl ReL.nil))))) (fun _ _ h => by cases h; exact ⟨_, rfl⟩))) rfl ?_
 obtain ⟨x5, hx5, h0⟩ := bnd_some h0
 refine TL.op1 (OpR.call0 fn34 (row_Row_Insert_c hx5) rfl) rfl ?_
 iterate 2 refine aA rfl rfl ?_
 refine TL.op0 (OpR.store 1 rfl rfl rfl rfl rfl rfl rfl rfl) ?_
 refine aA rfl rfl ?_
 refine TL.nil ?_
 show T X _ _ _
 refine T.ret ?_
 obtain rfl := Option.some.inj h0
 exact PostG.retP (ks := [0]) (Gst.only [3, 4] rfl) undef (ResL.cons (ResV.var 1 rfl rfl rfl rfl) (ResL.cons (ResV.tmp rfl) ResL.nil)) rfl rfl rfl rfl
noncomputable def cols_each_1 (a0 : Int) (a1 : row_Row) (a2 : Int) (a3 : Int) : Option (row_Row × Int) :=
  bnd (cols_Insert_1 a1 a3) fun x2 =>
  bnd (if x2.2 = 0 then
    some false
  else
    some (a2 == 0) : Option Bool) fun t4 =>
  bnd (if t4 = true then
    some x2.2
  else
    some a2 : Option Int) fun t6 =>
  some (x2.1, t6)
set_option maxHeartbeats 4000000 in
theorem cols_each_1_c {a0 : Int} {a1 : row_Row} {a2 : Int} {a3 : Int} {b0 : Nat} {b1 : Nat} {b2 : Nat} {res : row_Row × Int} (h0 : cols_each_1 a0 a1 a2 a3 = some res) : CallF X 60 [.val (.int .i64 a0), .agg [.sl 5 (List.map e_cell_Cell a1.fCells), .val (.int .i64 a1.fEnd), .val (.bool a1.fHidden)], .val (.pointer (some ⟨b0, 0, none⟩)), .val (.pointer (some ⟨b1, 0, none⟩))] [.var b0 [.fn (.func 32) [] [.val (.pointer (some ⟨b2, 0, none⟩))]] 99, .var b1 [.val (.int .i64 a2)] 52, .var b2 [.val (.int .i64 a3)] 3] (fun x => .agg [.sl 5 (List.map e_cell_Cell res.1.fCells), .val (.int .i64 res.1.fEnd), .val (.bool res.1.fHidden)]) (fun x => [.var b0 [.fn (.func 32) [] [.val (.pointer (some ⟨b2, 0, none⟩))]] 99, .var b1 [.val (.int .i64 res.2)] 52, .var b2 [.val (.int .i64 a3)] 3]) := by
 unfold cols_each_1 at h0
 refine CallF.mkG (X := X) rfl Try.func60 rfl rfl Try.ntmps60 rfl rfl ?_
 refine aS ?_
 refine TL.op1 (OpR.boxImm rfl rfl) rfl ?_
 refine TL.op (OpR.alloc rfl rfl (fun _ => rfl)) rfl (fun p1 => ?_)
 refine TL.nil ?_
 show T X _ _ _
 refine aS ?_
 refine TL.op1 (OpR.loadPtr 0 rfl rfl rfl rfl) rfl ?_
 refine aA rfl rfl ?_
 obtain ⟨x2, hx2, h0⟩ := bnd_some h0
 refine TL.op1 (OpR.callV [2] rfl fn32 (cols_Insert_1_c hx2) rfl rfl rfl (fun _ => rfl)) rfl ?_
 iterate 3 refine aA rfl rfl ?_
 refine TL.op (OpR.alloc rfl rfl (fun _ => rfl)) rfl (fun p3 => ?_)
 refine TL.op0 (OpR.store 4 rfl rfl rfl rfl rfl rfl rfl rfl) ?_
 refine aA rfl rfl ?_
 refine TL.nil ?_
 show T X _ _ _
 refine T.seq ?_
 refine T.seq ?_
 obtain ⟨t4, ht4, h0⟩ := bnd_some h0
 refine T.cutC (fun S' => S' = ⟨[(20, .val (.bool t4)), (8, .val (.int .i64 x2.2)), (7, .val (.pointer (some ⟨(blk p3), 0, none⟩))), (6, .val (.pointer (some ⟨(blk p1), 0, none⟩))), (3, .val (.pointer (some ⟨b1, 0, none⟩)))], [.var b0 [.fn (.func 32) [] [.val (.pointer (some ⟨b2, 0, none⟩))]] 99, .var b1 [.val (.int .i64 a2)] 52, .var b2 [.val (.int .i64 a3)] 3, .var (blk p1) [.val (.slice none 0 0), .val (.int .i64 0), .val (.bool false)] 68, .var (blk p3) [.sl 5 (List.map e_cell_Cell x2.1.fCells), .val (.int .i64 x2.1.fEnd), .val (.bool x2.1.fHidden)] 68], 23⟩) (fun _ h => h) ?_ ?_
 · refine T.region ?_
   iterate 3 refine aA rfl rfl ?_
   rcases ite_some ht4 with ⟨c5, ht4⟩ | ⟨c5, ht4⟩
   · refine TL.off rfl rfl rfl rfl (not_t (beq_iff_eq.2 c5)) rfl rfl ?_
     refine TL.off rfl rfl rfl rfl (not_t (beq_iff_eq.2 c5)) rfl rfl ?_
     refine TL.op1 (OpR.pickF rfl (not_t (beq_iff_eq.2 c5)) rfl) rfl ?_
     refine TL.nil ?_
     obtain rfl := Option.some.inj ht4
     exact ⟨_, Gst.only [3, 6, 7, 8, 20] rfl, rfl⟩
   refine TL.on rfl rfl rfl rfl (not_f (beq_eq_false_iff_ne.2 c5)) ?_
   refine TL.op1 (OpR.loadPtr 1 rfl rfl rfl rfl) rfl ?_
   refine TL.on rfl rfl rfl rfl (not_f (beq_eq_false_iff_ne.2 c5)) ?_
   refine aA rfl rfl ?_
   refine TL.op1 (OpR.pickT rfl (not_f (beq_eq_false_iff_ne.2 c5)) rfl) rfl ?_
   refine TL.nil ?_
   obtain rfl := Option.some.inj ht4
   exact ⟨_, Gst.only [3, 6, 7, 8, 20] rfl, rfl⟩
 rintro _ rfl
 show T X _ _ _
 obtain ⟨t6, ht6, h0⟩ := bnd_some h0
 refine T.cutC (fun S' => S' = ⟨[(7, .val (.pointer (some ⟨(blk p3), 0, none⟩))), (6, .val (.pointer (some ⟨(blk p1), 0, none⟩)))], [.var b0 [.fn (.func 32) [] [.val (.pointer (some ⟨b2, 0, none⟩))]] 99, .var b1 [.val (.int .i64 t6)] 52, .var b2 [.val (.int .i64 a3)] 3, .var (blk p1) [.val (.slice none 0 0), .val (.int .i64 0), .val (.bool false)] 68, .var (blk p3) [.sl 5 (List.map e_cell_Cell x2.1.fCells), .val (.int .i64 x2.1.fEnd), .val (.bool x2.1.fHidden)] 68], 23⟩) (fun _ h => h) ?_ ?_
 rotate_left
 · rintro _ rfl
   show T X _ _ _
   refine aS ?_
   refine TL.op1 (OpR.loadPtr 4 rfl rfl rfl rfl) rfl ?_
   refine TL.op0 (OpR.store 3 rfl rfl rfl rfl rfl rfl rfl rfl) ?_
   refine TL.nil ?_
   show T X _ _ _
   refine T.ret ?_
   obtain rfl := Option.some.inj h0
   exact PostG.retP (ks := [0, 1, 2]) (Gst.trans (Gst.only [6] rfl) (Gst.pick [0, 1, 2, 3] rfl rfl)) undef (ResL.cons (ResV.var 3 rfl rfl rfl rfl) ResL.nil) rfl rfl rfl rfl
 rcases ite_some ht6 with ⟨c7, ht6⟩ | ⟨c7, ht6⟩
 rotate_left
 · refine T.condF rfl (eq_false_of_ne_true c7) ?_
   refine T.skip ?_
   obtain rfl := Option.some.inj ht6
   exact ⟨_, Gst.only [6, 7] rfl, rfl⟩
 refine T.condT rfl (c7) ?_
 refine T.region ?_
 refine aA rfl rfl ?_
 refine TL.op0 (OpR.store 1 rfl rfl rfl rfl rfl rfl rfl rfl) ?_
 refine TL.nil ?_
 obtain rfl := Option.some.inj ht6
 exact ⟨_, Gst.only [6, 7] rfl, rfl⟩
noncomputable def walk_Map_row_Row.l1 (a2 : Int) (x3 : (List row_Row)) (s6 : Int × Int × (List row_Row)) : Option (Lp (Int × Int × (List row_Row)) (Int × (List row_Row))) :=
  if s6.1 < (x3.length : Int) then
    bnd (idx s6.2.2 s6.1) fun x15 =>
    bnd (cols_each_1 s6.1 x15 s6.2.1 a2) fun x17 =>
    some (Lp.next (w64 (s6.1 + 1), x17.2, (s6.2.2.set s6.1.toNat x17.1)))
  else
    some (Lp.done (s6.2.1, s6.2.2))
noncomputable def walk_Map_row_Row (a0 : tree_Tree_damier_row_Row) (a1 : Int) (a2 : Int) : Option (tree_Tree_damier_row_Row × Int) :=
  bnd (walk_All_row_Row a0) fun x2 =>
  bnd (slices_Clone_row_Row_row_Row x2) fun x3 =>
  bnd (loop (walk_Map_row_Row.l1 a2 x3) (0, a1, x3) : Option (Int × (List row_Row))) fun t5 =>
  bnd (tree_Of_row_Row t5.2) fun x18 =>
  some (x18, t5.1)
set_option maxHeartbeats 4000000 in
theorem walk_Map_row_Row_c {a0 : tree_Tree_damier_row_Row} {a1 : Int} {a2 : Int} {b0 : Nat} {b1 : Nat} {b2 : Nat} {res : tree_Tree_damier_row_Row × Int} (h0 : walk_Map_row_Row a0 a1 a2 = some res) : CallF X 39 [.agg [(eOP a0.fRoot)], .fn (.func 60) [] [.val (.pointer (some ⟨b0, 0, none⟩)), .val (.pointer (some ⟨b1, 0, none⟩))]] [.var b0 [.fn (.func 32) [] [.val (.pointer (some ⟨b2, 0, none⟩))]] 99, .var b1 [.val (.int .i64 a1)] 52, .var b2 [.val (.int .i64 a2)] 3] (fun x => .agg [(eOP res.1.fRoot)]) (fun x => [.var b0 [.fn (.func 32) [] [.val (.pointer (some ⟨b2, 0, none⟩))]] 99, .var b1 [.val (.int .i64 res.2)] 52, .var b2 [.val (.int .i64 a2)] 3]) := by
 unfold walk_Map_row_Row at h0
 refine CallF.mkG (X := X) rfl Try.func39 rfl rfl Try.ntmps39 rfl rfl ?_
 refine aS ?_
 refine TL.op1 (OpR.boxImm rfl rfl) rfl ?_
 refine TL.op (OpR.alloc rfl rfl (fun _ => rfl)) rfl (fun p1 => ?_)
 refine TL.nil ?_
 show T X _ _ _
 refine aS ?_
 refine aA rfl rfl ?_
 obtain ⟨x2, hx2, h0⟩ := bnd_some h0
 refine TL.op1 (OpR.call0 fn67 (walk_All_row_Row_c hx2) rfl) rfl ?_
 obtain ⟨x3, hx3, h0⟩ := bnd_some h0
 refine TL.op (OpR.call [] fn66 (slices_Clone_row_Row_row_Row_c hx3) rfl rfl rfl (fun _ => rfl)) rfl (fun w4 => ?_)
 refine aA rfl rfl ?_
 refine TL.nil ?_
 show T X _ _ _
 refine T.seq ?_
 refine aS ?_
 refine aA rfl rfl ?_
 refine TL.op1 (OpR.rowLenM e_row_Row 4 rfl rfl rfl rfl) rfl ?_
 refine aA rfl rfl ?_
 refine TL.nil ?_
 show T X _ _ _
 obtain ⟨t5, ht5, h0⟩ := bnd_some h0
 refine T.cutC (fun S' => S' = ⟨[(5, .val (vn w4 0)), (4, .val (.pointer (some ⟨(blk p1), 0, none⟩)))], [.var b0 [.fn (.func 32) [] [.val (.pointer (some ⟨b2, 0, none⟩))]] 99, .var b1 [.val (.int .i64 t5.1)] 52, .var b2 [.val (.int .i64 a2)] 3, .var (blk p1) [(eOP none)] 24, .row (vn w4 0) (List.map e_row_Row t5.2) 3 68], 28⟩) (fun _ h => h) ?_ ?_
 rotate_left
 · rintro _ rfl
   show T X _ _ _
   refine aS ?_
   refine aA rfl rfl ?_
   refine TL.ghost (Gst.freezeRow 4 rfl rfl (ReS.cons (Re.base .all) (ReS.refl _)) (ReO.same (ReO.same (ReO.same (ReO.same (ReO.same ReO.nil)))))) ?_
   obtain ⟨x18, hx18, h0⟩ := bnd_some h0
   refine TL.op1 (OpR.call0 fn26 (tree_Of_row_Row_c hx18) rfl) rfl ?_
   refine TL.op0 (OpR.store 3 rfl rfl rfl rfl rfl rfl rfl rfl) ?_
   refine TL.nil ?_
   show T X _ _ _
   refine T.ret ?_
   obtain rfl := Option.some.inj h0
   exact PostG.retP (ks := [0, 1, 2]) (Gst.trans (Gst.only [4] rfl) (Gst.pick [0, 1, 2, 3] rfl rfl)) undef (ResL.cons (ResV.var 3 rfl rfl rfl rfl) ResL.nil) rfl rfl rfl rfl
 refine T.block ?_
 obtain ⟨n7, n12⟩ := loop_some ht5
 refine T.loop (fun n S' => ∃ S'', Gst S' S'' ∧ ∃ s6 : Int × Int × (List row_Row), S'' = ⟨[(13, .val (.int .i64 s6.1)), (12, .val (.int .i64 (x3.length : Int))), (11, .val (vn w4 0)), (5, .val (vn w4 0)), (4, .val (.pointer (some ⟨(blk p1), 0, none⟩))), (1, .fn (.func 60) [] [.val (.pointer (some ⟨b0, 0, none⟩)), .val (.pointer (some ⟨b1, 0, none⟩))])], [.var b0 [.fn (.func 32) [] [.val (.pointer (some ⟨b2, 0, none⟩))]] 99, .var b1 [.val (.int .i64 s6.2.1)] 52, .var b2 [.val (.int .i64 a2)] 3, .var (blk p1) [(eOP none)] 24, .row (vn w4 0) (List.map e_row_Row s6.2.2) 3 68], 28⟩ ∧ iter (walk_Map_row_Row.l1 a2 x3) n s6 = some t5) n7 ?_ ?_
 · exact ⟨_, Gst.only [1, 4, 5, 11, 12, 13] rfl, (0, a1, x3), rfl, n12⟩
 rintro n7 _ ⟨_, g, s6, rfl, i11⟩
 refine T.ghost g ?_
 obtain ⟨m8, q9, rfl, q10, i11⟩ := iter_succ i11
 unfold walk_Map_row_Row.l1 at q10
 refine aS ?_
 refine aA rfl rfl ?_
 refine TL.nil ?_
 show T X _ _ _
 refine T.seq ?_
 rcases ite_some q10 with ⟨c14, q10⟩ | ⟨c14, q10⟩
 rotate_left
 · refine T.condF rfl (decide_eq_false c14) ?_
   refine T.exit ?_
   obtain rfl := Option.some.inj q10
   obtain rfl : _ = _ := i11
   exact ⟨_, Gst.only [4, 5] rfl, rfl⟩
 refine T.condT rfl (decide_eq_true c14) ?_
 refine T.skip ?_
 show T X _ _ _
 refine T.seq ?_
 refine T.block ?_
 refine aS ?_
 refine aA rfl rfl ?_
 obtain ⟨x15, hx15, q10⟩ := bnd_some q10
 refine TL.op1 (OpR.rowIndexM e_row_Row 4 hx15 rfl rfl rfl rfl rfl rfl rfl) rfl ?_
 refine TL.op1 (OpR.rowLoad0M (j := s6.1) e_row_Row 4 hx15 rfl rfl rfl rfl) rfl ?_
 refine TL.op (OpR.alloc rfl rfl (fun _ => rfl)) rfl (fun p16 => ?_)
 refine aA rfl rfl ?_
 refine TL.op0 (OpR.store 5 rfl rfl rfl rfl rfl rfl rfl rfl) ?_
 refine TL.nil ?_
 show T X _ _ _
 refine T.region ?_
 iterate 4 refine aA rfl rfl ?_
 refine TL.op1 (OpR.loadPtr 5 rfl rfl rfl rfl) rfl ?_
 obtain ⟨x17, hx17, q10⟩ := bnd_some q10
 refine TL.op1 (OpR.callV [0, 1, 2] rfl fn60 (cols_each_1_c hx17) rfl rfl rfl (fun _ => rfl)) rfl ?_
 refine TL.op1 (OpR.rowIndexM e_row_Row 4 hx15 rfl rfl rfl rfl rfl rfl rfl) rfl ?_
 refine TL.op0 (OpR.rowStore0M (j := s6.1) e_row_Row x17.1 4 hx15 rfl rfl rfl rfl rfl rfl rfl rfl rfl) ?_
 refine TL.nil ?_
 show T X _ _ _
 refine T.region ?_
 iterate 2 refine aA rfl rfl ?_
 refine TL.nil ?_
 obtain rfl := Option.some.inj q10
 exact ⟨m8, Nat.lt_succ_self _, _, Gst.trans (Gst.only [1, 4, 5, 11, 12, 13] rfl) (Gst.pick [0, 1, 2, 3, 4] rfl rfl), (w64 (s6.1 + 1), x17.2, (s6.2.2.set s6.1.toNat x17.1)), rfl, i11⟩
noncomputable def cols_each (a0 : grid_Grid) (a1 : Int) : Option (grid_Grid × Int) :=
  bnd (walk_Map_row_Row a0.fRows 0 a1) fun x5 =>
  if x5.2 = 0 then
    some ((⟨x5.1, a0.fTail, a0.fEnd⟩ : grid_Grid), 0)
  else
    some ((⟨(⟨none⟩ : tree_Tree_damier_row_Row), false, 0⟩ : grid_Grid), x5.2)
set_option maxHeartbeats 4000000 in
theorem cols_each_c {a0 : grid_Grid} {a1 : Int} {b0 : Nat} {res : grid_Grid × Int} (h0 : cols_each a0 a1 = some res) : CallF X 31 [.agg [(eOP a0.fRows.fRoot), .val (.bool a0.fTail), .val (.int .i64 a0.fEnd)], .fn (.func 32) [] [.val (.pointer (some ⟨b0, 0, none⟩))]] [.var b0 [.val (.int .i64 a1)] 3] (fun x => .tup [.agg [(eOP res.1.fRows.fRoot), .val (.bool res.1.fTail), .val (.int .i64 res.1.fEnd)], .val (.int .i64 res.2)]) (fun x => [.var b0 [.val (.int .i64 a1)] 3]) := by
 unfold cols_each at h0
 refine CallF.mkG (X := X) rfl Try.func31 rfl rfl Try.ntmps31 rfl rfl ?_
 refine aS ?_
 refine TL.op (OpR.boxVar rfl rfl (fun _ => rfl)) rfl (fun p1 => ?_)
 refine TL.op (OpR.boxVar rfl rfl (fun _ => rfl)) rfl (fun p2 => ?_)
 refine TL.op (OpR.alloc rfl rfl (fun _ => rfl)) rfl (fun p3 => ?_)
 refine aA rfl rfl ?_
 refine TL.nil ?_
 show T X _ _ _
 refine aS ?_
 refine TL.op (OpR.alloc rfl rfl (fun _ => rfl)) rfl (fun p4 => ?_)
 refine TL.op0 (OpR.store 4 rfl rfl rfl rfl rfl rfl rfl rfl) ?_
 refine TL.nil ?_
 show T X _ _ _
 refine aS ?_
 refine aA rfl rfl ?_
 refine TL.op1 (OpR.loadPtr 1 rfl rfl rfl rfl) rfl ?_
 refine aA rfl rfl ?_
 obtain ⟨x5, hx5, h0⟩ := bnd_some h0
 refine TL.op1 (OpR.call [2, 4, 0] fn39 (walk_Map_row_Row_c hx5) rfl rfl rfl (fun _ => rfl)) rfl ?_
 refine aA rfl rfl ?_
 refine TL.op0 (OpR.store 1 rfl rfl rfl rfl rfl rfl rfl rfl) ?_
 refine TL.nil ?_
 show T X _ _ _
 refine T.seq ?_
 refine aS ?_
 refine TL.op1 (OpR.loadPtr 4 rfl rfl rfl rfl) rfl ?_
 refine aA rfl rfl ?_
 refine TL.nil ?_
 show T X _ _ _
 rcases ite_some h0 with ⟨c6, h0⟩ | ⟨c6, h0⟩
 · refine T.condF rfl (not_t (beq_iff_eq.2 c6)) ?_
   refine T.skip ?_
   show T X _ _ _
   refine aS ?_
   refine TL.op1 (OpR.loadPtr 1 rfl rfl rfl rfl) rfl ?_
   refine TL.op0 (OpR.store 3 rfl rfl rfl rfl rfl rfl rfl rfl) ?_
   refine aA rfl rfl ?_
   refine TL.nil ?_
   show T X _ _ _
   refine T.ret ?_
   obtain rfl := Option.some.inj h0
   exact PostG.retP (ks := [0]) (Gst.trans (Gst.only [4, 5] rfl) (Gst.pick [0, 3] rfl rfl)) undef (ResL.cons (ResV.var 1 rfl rfl rfl rfl) (ResL.cons (ResV.tmp rfl) ResL.nil)) rfl rfl rfl rfl
 refine T.condT rfl (not_f (beq_eq_false_iff_ne.2 c6)) ?_
 refine T.seq ?_
 refine T.drawQ drawsX [.agg [(eOP none), .val (.bool false), .val (.int .i64 0)], .val (.int .i64 x5.2), .dead, .val (.int .i64 x5.2)] [2, 4, 5] (by decide +kernel) rfl ?_ rfl ?_
 rotate_left
 · show T X _ _ _
   refine T.ret ?_
   obtain rfl := Option.some.inj h0
   exact PostG.retP (ks := [0]) (Gst.trans (Gst.only [4, 5] rfl) (Gst.pick [0, 3] rfl rfl)) undef (ResL.cons (ResV.var 1 rfl rfl rfl rfl) (ResL.cons (ResV.tmp rfl) ResL.nil)) rfl rfl rfl rfl
 refine OpsQ.yes (Want.plain rfl) rfl (OpR.build rfl rfl rfl rfl rfl) ?_
 refine OpsQ.yes (Want.plain rfl) rfl (OpR.loadPtr 4 rfl rfl rfl rfl) ?_
 refine OpsQ.yes (Want.plain rfl) rfl (OpR.store 3 rfl rfl rfl rfl rfl rfl rfl rfl) ?_
 refine aB rfl rfl rfl ?_
 exact OpsQ.nil
noncomputable def cols_Insert (a0 : grid_Grid) (a1 : Int) : Option (grid_Grid × Int) :=
  bnd (grid_Grid_Width a0) fun x3 =>
  bnd (grid_Grid_Len a0) fun x4 =>
  if x4 = 0 then
    some ((⟨(⟨none⟩ : tree_Tree_damier_row_Row), false, 0⟩ : grid_Grid), 9)
  else
    bnd (if a1 < 0 then
      some true
    else
      some (decide (a1 > x3)) : Option Bool) fun t6 =>
    if t6 = true then
      some ((⟨(⟨none⟩ : tree_Tree_damier_row_Row), false, 0⟩ : grid_Grid), 5)
    else
      if x3 ≥ 40 then
        some ((⟨(⟨none⟩ : tree_Tree_damier_row_Row), false, 0⟩ : grid_Grid), 6)
      else
        bnd (cols_each a0 a1) fun x10 =>
        some (x10.1, x10.2)
set_option maxHeartbeats 4000000 in
theorem cols_Insert_c {a0 : grid_Grid} {a1 : Int} {res : grid_Grid × Int} (h0 : cols_Insert a0 a1 = some res) : CallF X 12 [.agg [(eOP a0.fRows.fRoot), .val (.bool a0.fTail), .val (.int .i64 a0.fEnd)], .val (.int .i64 a1)] [] (fun x => .tup [.agg [(eOP res.1.fRows.fRoot), .val (.bool res.1.fTail), .val (.int .i64 res.1.fEnd)], .val (.int .i64 res.2)]) (fun x => []) := by
 unfold cols_Insert at h0
 refine CallF.mkG (X := X) rfl Try.func12 rfl rfl Try.ntmps12 rfl rfl ?_
 refine aS ?_
 refine TL.op1 (OpR.boxImm rfl rfl) rfl ?_
 refine TL.op (OpR.boxVar rfl rfl (fun _ => rfl)) rfl (fun p1 => ?_)
 refine TL.op (OpR.alloc rfl rfl (fun _ => rfl)) rfl (fun p2 => ?_)
 refine aA rfl rfl ?_
 refine TL.nil ?_
 show T X _ _ _
 refine aS ?_
 refine aA rfl rfl ?_
 obtain ⟨x3, hx3, h0⟩ := bnd_some h0
 refine TL.op1 (OpR.call0 fn30 (grid_Grid_Width_c hx3) rfl) rfl ?_
 refine aA rfl rfl ?_
 refine TL.nil ?_
 show T X _ _ _
 refine T.seq ?_
 refine T.block ?_
 refine aS ?_
 refine aA rfl rfl ?_
 obtain ⟨x4, hx4, h0⟩ := bnd_some h0
 refine TL.op1 (OpR.call0 fn16 (grid_Grid_Len_c hx4) rfl) rfl ?_
 iterate 2 refine aA rfl rfl ?_
 refine TL.nil ?_
 show T X _ _ _
 rcases ite_some h0 with ⟨c5, h0⟩ | ⟨c5, h0⟩
 · refine T.condT rfl (beq_iff_eq.2 c5) ?_
   refine aS ?_
   refine TL.op1 (OpR.build rfl rfl rfl rfl rfl) rfl ?_
   refine TL.op0 (OpR.store 1 rfl rfl rfl rfl rfl rfl rfl rfl) ?_
   refine aA rfl rfl ?_
   refine TL.nil ?_
   show T X _ _ _
   refine T.ret ?_
   obtain rfl := Option.some.inj h0
   exact PostG.retP (ks := []) (Gst.trans (Gst.only [4, 5] rfl) (Gst.pick [1] rfl rfl)) undef (ResL.cons (ResV.var 0 rfl rfl rfl rfl) (ResL.cons (ResV.tmp rfl) ResL.nil)) rfl rfl rfl rfl
 refine T.condF rfl (beq_eq_false_iff_ne.2 c5) ?_
 refine T.seq ?_
 obtain ⟨t6, ht6, h0⟩ := bnd_some h0
 refine T.cutC (fun S' => S' = ⟨[(14, .val (.bool t6)), (6, .val (.int .i64 x3)), (5, .val (.int .i64 0)), (4, .val (.pointer (some ⟨(blk p2), 0, none⟩))), (3, .val (.pointer (some ⟨(blk p1), 0, none⟩))), (2, .nod [(eOP a0.fRows.fRoot), .val (.bool a0.fTail), .val (.int .i64 a0.fEnd)])], [.var (blk p1) [.val (.int .i64 a1)] 3, .var (blk p2) [(eOP none), .val (.bool false), .val (.int .i64 0)] 26], 32⟩) (fun _ h => h) ?_ ?_
 · refine T.region ?_
   refine TL.op1 (OpR.loadPtr 0 rfl rfl rfl rfl) rfl ?_
   iterate 2 refine aA rfl rfl ?_
   rcases ite_some ht6 with ⟨c7, ht6⟩ | ⟨c7, ht6⟩
   · refine TL.off rfl rfl rfl rfl (decide_eq_true c7) rfl rfl ?_
     refine TL.off rfl rfl rfl rfl (decide_eq_true c7) rfl rfl ?_
     refine TL.off rfl rfl rfl rfl (decide_eq_true c7) rfl rfl ?_
     refine TL.op1 (OpR.pickT rfl (decide_eq_true c7) rfl) rfl ?_
     refine aA rfl rfl ?_
     refine TL.nil ?_
     obtain rfl := Option.some.inj ht6
     exact ⟨_, Gst.only [2, 3, 4, 5, 6, 14] rfl, rfl⟩
   refine TL.on rfl rfl rfl rfl (decide_eq_false c7) ?_
   refine TL.op1 (OpR.loadPtr 0 rfl rfl rfl rfl) rfl ?_
   refine TL.on rfl rfl rfl rfl (decide_eq_false c7) ?_
   refine aA rfl rfl ?_
   refine TL.on rfl rfl rfl rfl (decide_eq_false c7) ?_
   refine aA rfl rfl ?_
   refine TL.op1 (OpR.pickF rfl (decide_eq_false c7) rfl) rfl ?_
   refine aA rfl rfl ?_
   refine TL.nil ?_
   obtain rfl := Option.some.inj ht6
   exact ⟨_, Gst.only [2, 3, 4, 5, 6, 14] rfl, rfl⟩
 rintro _ rfl
 show T X _ _ _
 rcases ite_some h0 with ⟨c8, h0⟩ | ⟨c8, h0⟩
 · refine T.condT rfl (c8) ?_
   refine aS ?_
   refine TL.op1 (OpR.build rfl rfl rfl rfl rfl) rfl ?_
   refine TL.op0 (OpR.store 1 rfl rfl rfl rfl rfl rfl rfl rfl) ?_
   refine aA rfl rfl ?_
   refine TL.nil ?_
   show T X _ _ _
   refine T.ret ?_
   obtain rfl := Option.some.inj h0
   exact PostG.retP (ks := []) (Gst.trans (Gst.only [4, 5] rfl) (Gst.pick [1] rfl rfl)) undef (ResL.cons (ResV.var 0 rfl rfl rfl rfl) (ResL.cons (ResV.tmp rfl) ResL.nil)) rfl rfl rfl rfl
 refine T.condF rfl (eq_false_of_ne_true c8) ?_
 refine aS ?_
 iterate 3 refine aA rfl rfl ?_
 refine TL.nil ?_
 show T X _ _ _
 rcases ite_some h0 with ⟨c9, h0⟩ | ⟨c9, h0⟩
 · refine T.condT rfl (decide_eq_true c9) ?_
   refine aS ?_
   refine TL.op1 (OpR.build rfl rfl rfl rfl rfl) rfl ?_
   refine TL.op0 (OpR.store 1 rfl rfl rfl rfl rfl rfl rfl rfl) ?_
   refine aA rfl rfl ?_
   refine TL.nil ?_
   show T X _ _ _
   refine T.ret ?_
   obtain rfl := Option.some.inj h0
   exact PostG.retP (ks := []) (Gst.trans (Gst.only [4, 5] rfl) (Gst.pick [1] rfl rfl)) undef (ResL.cons (ResV.var 0 rfl rfl rfl rfl) (ResL.cons (ResV.tmp rfl) ResL.nil)) rfl rfl rfl rfl
 refine T.condF rfl (decide_eq_false c9) ?_
 refine T.skip ?_
 show T X _ _ _
 refine aS ?_
 iterate 2 refine aA rfl rfl ?_
 obtain ⟨x10, hx10, h0⟩ := bnd_some h0
 refine TL.op1 (OpR.call [0] fn31 (cols_each_c hx10) rfl rfl rfl (fun _ => rfl)) rfl ?_
 iterate 2 refine aA rfl rfl ?_
 refine TL.op0 (OpR.store 1 rfl rfl rfl rfl rfl rfl rfl rfl) ?_
 refine aA rfl rfl ?_
 refine TL.nil ?_
 show T X _ _ _
 refine T.ret ?_
 obtain rfl := Option.some.inj h0
 exact PostG.retP (ks := []) (Gst.trans (Gst.only [4, 5] rfl) (Gst.pick [1] rfl rfl)) undef (ResL.cons (ResV.var 0 rfl rfl rfl rfl) (ResL.cons (ResV.tmp rfl) ResL.nil)) rfl rfl rfl rfl
noncomputable def quote_class (a0 : UInt8) : Option Int :=
  if (a0.toNat : Int) = 44 then
    some 1
  else
    if (a0.toNat : Int) = 34 then
      some 2
    else
      if (a0.toNat : Int) = 13 then
        some 3
      else
        if (a0.toNat : Int) = 10 then
          some 4
        else
          some 0
set_option maxHeartbeats 4000000 in
theorem quote_class_c {a0 : UInt8} {res : Int} (h0 : quote_class a0 = some res) : CallF X 89 [.val (.int .u8 (a0.toNat : Int))] [] (fun x => .val (.int .i64 res)) (fun x => []) := by
 unfold quote_class at h0
 refine CallF.mkG (X := X) rfl Try.func89 rfl rfl Try.ntmps89 rfl rfl ?_
 refine aS ?_
 refine aA rfl rfl ?_
 refine TL.nil ?_
 show T X _ _ _
 refine T.seq ?_
 refine aS ?_
 refine aA rfl rfl ?_
 refine TL.nil ?_
 show T X _ _ _
 refine T.block ?_
 refine aS ?_
 iterate 2 refine aA rfl rfl ?_
 refine TL.nil ?_
 show T X _ _ _
 rcases ite_some h0 with ⟨c1, h0⟩ | ⟨c1, h0⟩
 · refine T.condT rfl (beq_iff_eq.2 c1) ?_
   refine aS ?_
   refine aA rfl rfl ?_
   refine TL.nil ?_
   show T X _ _ _
   refine T.ret ?_
   obtain rfl := Option.some.inj h0
   exact PostG.retP (ks := []) (Gst.only [2] rfl) undef (ResL.cons (ResV.tmp rfl) ResL.nil) rfl rfl rfl rfl
 refine T.condF rfl (beq_eq_false_iff_ne.2 c1) ?_
 refine aS ?_
 iterate 2 refine aA rfl rfl ?_
 refine TL.nil ?_
 show T X _ _ _
 rcases ite_some h0 with ⟨c2, h0⟩ | ⟨c2, h0⟩
 · refine T.condT rfl (beq_iff_eq.2 c2) ?_
   refine aS ?_
   refine aA rfl rfl ?_
   refine TL.nil ?_
   show T X _ _ _
   refine T.ret ?_
   obtain rfl := Option.some.inj h0
   exact PostG.retP (ks := []) (Gst.only [2] rfl) undef (ResL.cons (ResV.tmp rfl) ResL.nil) rfl rfl rfl rfl
 refine T.condF rfl (beq_eq_false_iff_ne.2 c2) ?_
 refine aS ?_
 iterate 2 refine aA rfl rfl ?_
 refine TL.nil ?_
 show T X _ _ _
 rcases ite_some h0 with ⟨c3, h0⟩ | ⟨c3, h0⟩
 · refine T.condT rfl (beq_iff_eq.2 c3) ?_
   refine aS ?_
   refine aA rfl rfl ?_
   refine TL.nil ?_
   show T X _ _ _
   refine T.ret ?_
   obtain rfl := Option.some.inj h0
   exact PostG.retP (ks := []) (Gst.only [2] rfl) undef (ResL.cons (ResV.tmp rfl) ResL.nil) rfl rfl rfl rfl
 refine T.condF rfl (beq_eq_false_iff_ne.2 c3) ?_
 refine aS ?_
 iterate 2 refine aA rfl rfl ?_
 refine TL.nil ?_
 show T X _ _ _
 rcases ite_some h0 with ⟨c4, h0⟩ | ⟨c4, h0⟩
 · refine T.condT rfl (beq_iff_eq.2 c4) ?_
   refine aS ?_
   refine aA rfl rfl ?_
   refine TL.nil ?_
   show T X _ _ _
   refine T.ret ?_
   obtain rfl := Option.some.inj h0
   exact PostG.retP (ks := []) (Gst.only [2] rfl) undef (ResL.cons (ResV.tmp rfl) ResL.nil) rfl rfl rfl rfl
 refine T.condF rfl (beq_eq_false_iff_ne.2 c4) ?_
 refine T.skip ?_
 show T X _ _ _
 refine aS ?_
 refine aA rfl rfl ?_
 refine TL.nil ?_
 show T X _ _ _
 refine T.ret ?_
 obtain rfl := Option.some.inj h0
 exact PostG.retP (ks := []) (Gst.only [2] rfl) undef (ResL.cons (ResV.tmp rfl) ResL.nil) rfl rfl rfl rfl
noncomputable def quote_Needs.l1 (a0 : List UInt8) (s3 : Int) : Option (Lp Int (Ex Unit Bool)) :=
  if s3 < (a0.length : Int) then
    bnd (idx a0 s3) fun x12 =>
    bnd (quote_class x12) fun x13 =>
    if x13 = 0 then
      some (Lp.next (w64 (s3 + 1)))
    else
      some (Lp.done (Ex.ret true))
  else
    some (Lp.done (Ex.brk ()))
noncomputable def quote_Needs (a0 : List UInt8) : Option Bool :=
  bnd (loop (quote_Needs.l1 a0) 0 : Option (Ex Unit Bool)) fun t1 => match t1 with
    | .brk u2 =>
      some false
    | .ret u2 => some u2
set_option maxHeartbeats 4000000 in
theorem quote_Needs_c {a0 : List UInt8} {res : Bool} (h0 : quote_Needs a0 = some res) : CallF X 88 [.sl 1 (List.map byteD a0)] [] (fun x => .val (.bool res)) (fun x => []) := by
 unfold quote_Needs at h0
 refine CallF.mkG (X := X) rfl Try.func88 rfl rfl Try.ntmps88 rfl rfl ?_
 refine aS ?_
 refine aA rfl rfl ?_
 refine TL.nil ?_
 show T X _ _ _
 refine T.seq ?_
 refine aS ?_
 refine aA rfl rfl ?_
 refine TL.op1 (OpR.cast (OpR.pure rfl) (intE (lenM _ _))) rfl ?_
 refine aA rfl rfl ?_
 refine TL.nil ?_
 show T X _ _ _
 obtain ⟨t1, ht1, h0⟩ := bnd_some h0
 refine T.cutC (fun S' => ∃ u2, t1 = Ex.brk u2 ∧ S' = ⟨[(2, .val (.bool false))], [], 15⟩) (fun _ h => h) ?_ ?_
 rotate_left
 · rintro _ ⟨u2, rfl, rfl⟩
   show T X _ _ _
   refine aS ?_
   refine aA rfl rfl ?_
   refine TL.nil ?_
   show T X _ _ _
   refine T.ret ?_
   obtain rfl := Option.some.inj h0
   exact PostG.retP (ks := []) (Gst.only [2] rfl) undef (ResL.cons (ResV.tmp rfl) ResL.nil) rfl rfl rfl rfl
 refine T.block ?_
 obtain ⟨n4, n9⟩ := loop_some ht1
 refine T.loop (fun n S' => ∃ S'', Gst S' S'' ∧ ∃ s3 : Int, S'' = ⟨[(7, .val (.int .i64 s3)), (6, .val (.int .i64 (a0.length : Int))), (5, .sl 1 (List.map byteD a0)), (2, .val (.bool false))], [], 15⟩ ∧ iter (quote_Needs.l1 a0) n s3 = some t1) n4 ?_ ?_
 · exact ⟨_, Gst.only [2, 5, 6, 7] rfl, 0, rfl, n9⟩
 rintro n4 _ ⟨_, g, s3, rfl, i8⟩
 refine T.ghost g ?_
 obtain ⟨m5, q6, rfl, q7, i8⟩ := iter_succ i8
 unfold quote_Needs.l1 at q7
 refine aS ?_
 refine aA rfl rfl ?_
 refine TL.nil ?_
 show T X _ _ _
 refine T.seq ?_
 rcases ite_some q7 with ⟨c11, q7⟩ | ⟨c11, q7⟩
 rotate_left
 · refine T.condF rfl (decide_eq_false c11) ?_
   refine T.exit ?_
   obtain rfl := Option.some.inj q7
   obtain rfl : _ = _ := i8
   exact ⟨_, Gst.only [2] rfl, _, rfl, rfl⟩
 refine T.condT rfl (decide_eq_true c11) ?_
 refine T.skip ?_
 show T X _ _ _
 refine T.seq ?_
 refine T.block ?_
 refine aS ?_
 obtain ⟨x12, hx12, q7⟩ := bnd_some q7
 refine TL.op1 (OpR.indexM byteD hx12 rfl rfl rfl rfl rfl) rfl ?_
 iterate 2 refine aA rfl rfl ?_
 refine TL.nil ?_
 show T X _ _ _
 refine aS ?_
 refine aA rfl rfl ?_
 obtain ⟨x13, hx13, q7⟩ := bnd_some q7
 refine TL.op1 (OpR.call0 fn89 (quote_class_c hx13) rfl) rfl ?_
 refine aA rfl rfl ?_
 refine TL.nil ?_
 show T X _ _ _
 rcases ite_some q7 with ⟨c14, q7⟩ | ⟨c14, q7⟩
 · refine T.condF rfl (not_t (beq_iff_eq.2 c14)) ?_
   refine T.skip ?_
   show T X _ _ _
   refine T.region ?_
   iterate 2 refine aA rfl rfl ?_
   refine TL.nil ?_
   obtain rfl := Option.some.inj q7
   exact ⟨m5, Nat.lt_succ_self _, _, Gst.only [2, 5, 6, 7] rfl, w64 (s3 + 1), rfl, i8⟩
 refine T.condT rfl (not_f (beq_eq_false_iff_ne.2 c14)) ?_
 refine aS ?_
 refine aA rfl rfl ?_
 refine TL.nil ?_
 show T X _ _ _
 refine T.ret ?_
 obtain rfl := Option.some.inj q7
 obtain rfl : _ = _ := i8
 obtain rfl := Option.some.inj h0
 exact PostG.retP (ks := []) (Gst.only [2] rfl) undef (ResL.cons (ResV.tmp rfl) ResL.nil) rfl rfl rfl rfl
noncomputable def quote_quotes.l1 (a0 : List UInt8) (s2 : Int × Int) : Option (Lp (Int × Int) Int) :=
  if s2.2 < (a0.length : Int) then
    bnd (idx a0 s2.2) fun x11 =>
    bnd (quote_class x11) fun x12 =>
    bnd (if x12 = 2 then
      some (w64 (s2.1 + 1))
    else
      some s2.1 : Option Int) fun t13 =>
    some (Lp.next (t13, w64 (s2.2 + 1)))
  else
    some (Lp.done s2.1)
noncomputable def quote_quotes (a0 : List UInt8) : Option Int :=
  bnd (loop (quote_quotes.l1 a0) (0, 0) : Option Int) fun t1 =>
  some t1
set_option maxHeartbeats 4000000 in
theorem quote_quotes_c {a0 : List UInt8} {res : Int} (h0 : quote_quotes a0 = some res) : CallF X 95 [.sl 1 (List.map byteD a0)] [] (fun x => .val (.int .i64 res)) (fun x => []) := by
 unfold quote_quotes at h0
 refine CallF.mkG (X := X) rfl Try.func95 rfl rfl Try.ntmps95 rfl rfl ?_
 refine aS ?_
 refine aA rfl rfl ?_
 refine TL.nil ?_
 show T X _ _ _
 refine aS ?_
 refine aA rfl rfl ?_
 refine TL.nil ?_
 show T X _ _ _
 refine T.seq ?_
 refine aS ?_
 refine aA rfl rfl ?_
 refine TL.op1 (OpR.cast (OpR.pure rfl) (intE (lenM _ _))) rfl ?_
 refine aA rfl rfl ?_
 refine TL.nil ?_
 show T X _ _ _
 obtain ⟨t1, ht1, h0⟩ := bnd_some h0
 refine T.cutC (fun S' => S' = ⟨[(3, .val (.int .i64 t1)), (2, .val (.int .i64 0))], [], 19⟩) (fun _ h => h) ?_ ?_
 rotate_left
 · rintro _ rfl
   show T X _ _ _
   refine aS ?_
   iterate 2 refine aA rfl rfl ?_
   refine TL.nil ?_
   show T X _ _ _
   refine T.ret ?_
   obtain rfl := Option.some.inj h0
   exact PostG.retP (ks := []) (Gst.only [2] rfl) undef (ResL.cons (ResV.tmp rfl) ResL.nil) rfl rfl rfl rfl
 refine T.block ?_
 obtain ⟨n3, n8⟩ := loop_some ht1
 refine T.loop (fun n S' => ∃ S'', Gst S' S'' ∧ ∃ s2 : Int × Int, S'' = ⟨[(8, .val (.int .i64 s2.2)), (7, .val (.int .i64 (a0.length : Int))), (6, .sl 1 (List.map byteD a0)), (3, .val (.int .i64 s2.1)), (2, .val (.int .i64 0))], [], 19⟩ ∧ iter (quote_quotes.l1 a0) n s2 = some t1) n3 ?_ ?_
 · exact ⟨_, Gst.only [2, 3, 6, 7, 8] rfl, (0, 0), rfl, n8⟩
 rintro n3 _ ⟨_, g, s2, rfl, i7⟩
 refine T.ghost g ?_
 obtain ⟨m4, q5, rfl, q6, i7⟩ := iter_succ i7
 unfold quote_quotes.l1 at q6
 refine aS ?_
 refine aA rfl rfl ?_
 refine TL.nil ?_
 show T X _ _ _
 refine T.seq ?_
 rcases ite_some q6 with ⟨c10, q6⟩ | ⟨c10, q6⟩
 rotate_left
 · refine T.condF rfl (decide_eq_false c10) ?_
   refine T.exit ?_
   obtain rfl := Option.some.inj q6
   obtain rfl : _ = _ := i7
   exact ⟨_, Gst.only [2, 3] rfl, rfl⟩
 refine T.condT rfl (decide_eq_true c10) ?_
 refine T.skip ?_
 show T X _ _ _
 refine T.seq ?_
 refine T.block ?_
 refine aS ?_
 obtain ⟨x11, hx11, q6⟩ := bnd_some q6
 refine TL.op1 (OpR.indexM byteD hx11 rfl rfl rfl rfl rfl) rfl ?_
 iterate 2 refine aA rfl rfl ?_
 refine TL.nil ?_
 show T X _ _ _
 refine aS ?_
 refine aA rfl rfl ?_
 obtain ⟨x12, hx12, q6⟩ := bnd_some q6
 refine TL.op1 (OpR.call0 fn89 (quote_class_c hx12) rfl) rfl ?_
 refine aA rfl rfl ?_
 refine TL.nil ?_
 show T X _ _ _
 obtain ⟨t13, ht13, q6⟩ := bnd_some q6
 refine T.cutC (fun S' => S' = ⟨[(8, .val (.int .i64 s2.2)), (7, .val (.int .i64 (a0.length : Int))), (6, .sl 1 (List.map byteD a0)), (3, .val (.int .i64 t13)), (2, .val (.int .i64 0))], [], 19⟩) (fun _ h => h) ?_ ?_
 rotate_left
 · rintro _ rfl
   show T X _ _ _
   refine T.region ?_
   iterate 2 refine aA rfl rfl ?_
   refine TL.nil ?_
   obtain rfl := Option.some.inj q6
   exact ⟨m4, Nat.lt_succ_self _, _, Gst.only [2, 3, 6, 7, 8] rfl, (t13, w64 (s2.2 + 1)), rfl, i7⟩
 rcases ite_some ht13 with ⟨c14, ht13⟩ | ⟨c14, ht13⟩
 rotate_left
 · refine T.condF rfl (beq_eq_false_iff_ne.2 c14) ?_
   refine T.skip ?_
   obtain rfl := Option.some.inj ht13
   exact ⟨_, Gst.only [2, 3, 6, 7, 8] rfl, rfl⟩
 refine T.condT rfl (beq_iff_eq.2 c14) ?_
 refine T.region ?_
 iterate 3 refine aA rfl rfl ?_
 refine TL.nil ?_
 obtain rfl := Option.some.inj ht13
 exact ⟨_, Gst.only [2, 3, 6, 7, 8] rfl, rfl⟩
noncomputable def quote_Width (a0 : List UInt8) : Option Int :=
  bnd (quote_Needs a0) fun x1 =>
  if x1 = true then
    bnd (quote_quotes a0) fun x3 =>
    some (w64 ((w64 ((a0.length : Int) + x3)) + 2))
  else
    some (a0.length : Int)
set_option maxHeartbeats 4000000 in
theorem quote_Width_c {a0 : List UInt8} {res : Int} (h0 : quote_Width a0 = some res) : CallF X 87 [.sl 1 (List.map byteD a0)] [] (fun x => .val (.int .i64 res)) (fun x => []) := by
 unfold quote_Width at h0
 refine CallF.mkG (X := X) rfl Try.func87 rfl rfl Try.ntmps87 rfl rfl ?_
 refine aS ?_
 refine aA rfl rfl ?_
 refine TL.nil ?_
 show T X _ _ _
 refine T.seq ?_
 refine aS ?_
 refine aA rfl rfl ?_
 obtain ⟨x1, hx1, h0⟩ := bnd_some h0
 refine TL.op1 (OpR.call0 fn88 (quote_Needs_c hx1) rfl) rfl ?_
 refine aA rfl rfl ?_
 refine TL.nil ?_
 show T X _ _ _
 rcases ite_some h0 with ⟨c2, h0⟩ | ⟨c2, h0⟩
 rotate_left
 · refine T.condT rfl (not_f (eq_false_of_ne_true c2)) ?_
   refine aS ?_
   refine aA rfl rfl ?_
   refine TL.op1 (OpR.cast (OpR.pure rfl) (intE (lenM _ _))) rfl ?_
   refine aA rfl rfl ?_
   refine TL.nil ?_
   show T X _ _ _
   refine T.ret ?_
   obtain rfl := Option.some.inj h0
   exact PostG.retP (ks := []) (Gst.only [2] rfl) undef (ResL.cons (ResV.tmp rfl) ResL.nil) rfl rfl rfl rfl
 refine T.condF rfl (not_t (c2)) ?_
 refine T.skip ?_
 show T X _ _ _
 refine aS ?_
 refine aA rfl rfl ?_
 refine TL.op1 (OpR.cast (OpR.pure rfl) (intE (lenM _ _))) rfl ?_
 refine aA rfl rfl ?_
 obtain ⟨x3, hx3, h0⟩ := bnd_some h0
 refine TL.op1 (OpR.call0 fn95 (quote_quotes_c hx3) rfl) rfl ?_
 iterate 3 refine aA rfl rfl ?_
 refine TL.nil ?_
 show T X _ _ _
 refine T.ret ?_
 obtain rfl := Option.some.inj h0
 exact PostG.retP (ks := []) (Gst.only [2] rfl) undef (ResL.cons (ResV.tmp rfl) ResL.nil) rfl rfl rfl rfl
noncomputable def quote_Put.l1 (a0 : List UInt8) (s11 : Int × (List UInt8)) : Option (Lp (Int × (List UInt8)) (List UInt8)) :=
  if s11.1 < (a0.length : Int) then
    bnd (idx a0 s11.1) fun x20 =>
    bnd (quote_class x20) fun x21 =>
    bnd (if x21 = 2 then
      bnd (app 1 s11.2 [x20]) fun x25 =>
      some x25
    else
      some s11.2 : Option (List UInt8)) fun t22 =>
    bnd (app 1 t22 [x20]) fun x27 =>
    some (Lp.next (w64 (s11.1 + 1), x27))
  else
    some (Lp.done s11.2)
noncomputable def quote_Put (a0 : List UInt8) : Option (List UInt8) :=
  bnd (quote_Width a0) fun x1 =>
  bnd ((mkc 1 x1 : Option (List UInt8))) fun x2 =>
  bnd (quote_Needs a0) fun x4 =>
  if x4 = true then
    bnd (app 1 x2 [34]) fun x6 =>
    bnd (loop (quote_Put.l1 a0) (0, x6) : Option (List UInt8)) fun t8 =>
    bnd (app 1 t8 [34]) fun x29 =>
    some x29
  else
    bnd (app 1 x2 a0) fun x31 =>
    some x31
set_option maxHeartbeats 4000000 in
theorem quote_Put_c {a0 : List UInt8} {res : (List UInt8)} (h0 : quote_Put a0 = some res) : CallF X 78 [.sl 1 (List.map byteD a0)] [] (fun x => .sl 1 (List.map byteD res)) (fun x => []) := by
 unfold quote_Put at h0
 refine CallF.mkG (X := X) rfl Try.func78 rfl rfl Try.ntmps78 rfl rfl ?_
 refine aS ?_
 refine aA rfl rfl ?_
 refine TL.nil ?_
 show T X _ _ _
 refine aS ?_
 refine aA rfl rfl ?_
 obtain ⟨x1, hx1, h0⟩ := bnd_some h0
 refine TL.op1 (OpR.call0 fn87 (quote_Width_c hx1) rfl) rfl ?_
 obtain ⟨x2, hx2, h0⟩ := bnd_some h0
 refine TL.op (OpR.makeC byteD hx2 rfl rfl rfl rfl rfl rfl rfl (fun _ => rfl)) rfl (fun v3 => ?_)
 refine aA rfl rfl ?_
 refine TL.nil ?_
 show T X _ _ _
 refine T.seq ?_
 refine aS ?_
 refine aA rfl rfl ?_
 obtain ⟨x4, hx4, h0⟩ := bnd_some h0
 refine TL.op1 (OpR.call0 fn88 (quote_Needs_c hx4) rfl) rfl ?_
 refine aA rfl rfl ?_
 refine TL.nil ?_
 show T X _ _ _
 rcases ite_some h0 with ⟨c5, h0⟩ | ⟨c5, h0⟩
 rotate_left
 · refine T.condT rfl (not_f (eq_false_of_ne_true c5)) ?_
   refine aS ?_
   iterate 2 refine aA rfl rfl ?_
   obtain ⟨x31, hx31, h0⟩ := bnd_some h0
   refine TL.op (OpR.appendM (m := a0) byteD 0 hx31 rfl rfl rfl rfl rfl rfl rfl rfl rfl (fun _ => rfl)) rfl (fun v32 => ?_)
   refine aA rfl rfl ?_
   refine TL.nil ?_
   show T X _ _ _
   refine T.ret ?_
   obtain rfl := Option.some.inj h0
   exact PostG.retP (ks := []) (Gst.trans (Gst.only [2] rfl) (Gst.trans (Gst.freezeRow 0 rfl rfl (ReS.cons (Re.base .all) ReS.nil) (ReO.same ReO.nil)) (Gst.pick [] rfl rfl))) undef (ResL.cons (ResV.tmp rfl) ResL.nil) rfl rfl rfl rfl
 refine T.condF rfl (not_t (c5)) ?_
 refine T.skip ?_
 show T X _ _ _
 refine aS ?_
 refine aA rfl rfl ?_
 refine TL.op1 (OpR.lit rfl rfl rfl rfl rfl rfl rfl) rfl ?_
 obtain ⟨x6, hx6, h0⟩ := bnd_some h0
 refine TL.op (OpR.appendM (m := [34]) byteD 0 hx6 rfl rfl rfl rfl rfl rfl rfl rfl rfl (fun _ => rfl)) rfl (fun v7 => ?_)
 refine aA rfl rfl ?_
 refine TL.nil ?_
 show T X _ _ _
 refine T.seq ?_
 refine aS ?_
 refine aA rfl rfl ?_
 refine TL.op1 (OpR.cast (OpR.pure rfl) (intE (lenM _ _))) rfl ?_
 refine aA rfl rfl ?_
 refine TL.nil ?_
 show T X _ _ _
 obtain ⟨t8, ht8, h0⟩ := bnd_some h0
 refine T.cutC (fun S' => ∃ y9 : Value, S' = ⟨[(3, .val y9), (2, .val (.slice none 0 0))], [.row y9 (List.map byteD t8) 1 5], 39⟩) (fun _ h => h) ?_ ?_
 rotate_left
 · rintro _ ⟨y9, rfl⟩
   show T X _ _ _
   refine aS ?_
   refine aA rfl rfl ?_
   refine TL.op1 (OpR.lit rfl rfl rfl rfl rfl rfl rfl) rfl ?_
   obtain ⟨x29, hx29, h0⟩ := bnd_some h0
   refine TL.op (OpR.appendM (m := [34]) byteD 0 hx29 rfl rfl rfl rfl rfl rfl rfl rfl rfl (fun _ => rfl)) rfl (fun v30 => ?_)
   refine aA rfl rfl ?_
   refine TL.nil ?_
   show T X _ _ _
   refine T.ret ?_
   obtain rfl := Option.some.inj h0
   exact PostG.retP (ks := []) (Gst.trans (Gst.only [2] rfl) (Gst.trans (Gst.freezeRow 0 rfl rfl (ReS.cons (Re.base .all) ReS.nil) (ReO.same ReO.nil)) (Gst.pick [] rfl rfl))) undef (ResL.cons (ResV.tmp rfl) ResL.nil) rfl rfl rfl rfl
 refine T.block ?_
 obtain ⟨n12, n17⟩ := loop_some ht8
 refine T.loop (fun n S' => ∃ S'', Gst S' S'' ∧ ∃ y10 : Value, ∃ s11 : Int × (List UInt8), S'' = ⟨[(20, .val (.int .i64 s11.1)), (19, .val (.int .i64 (a0.length : Int))), (18, .sl 1 (List.map byteD a0)), (3, .val y10), (2, .val (.slice none 0 0))], [.row y10 (List.map byteD s11.2) 1 5], 39⟩ ∧ iter (quote_Put.l1 a0) n s11 = some t8) n12 ?_ ?_
 · exact ⟨_, Gst.only [2, 3, 18, 19, 20] rfl, v7, (0, x6), rfl, n17⟩
 rintro n12 _ ⟨_, g, y10, s11, rfl, i16⟩
 refine T.ghost g ?_
 obtain ⟨m13, q14, rfl, q15, i16⟩ := iter_succ i16
 unfold quote_Put.l1 at q15
 refine aS ?_
 refine aA rfl rfl ?_
 refine TL.nil ?_
 show T X _ _ _
 refine T.seq ?_
 rcases ite_some q15 with ⟨c19, q15⟩ | ⟨c19, q15⟩
 rotate_left
 · refine T.condF rfl (decide_eq_false c19) ?_
   refine T.exit ?_
   obtain rfl := Option.some.inj q15
   obtain rfl : _ = _ := i16
   exact ⟨_, Gst.only [2, 3] rfl, y10, rfl⟩
 refine T.condT rfl (decide_eq_true c19) ?_
 refine T.skip ?_
 show T X _ _ _
 refine T.seq ?_
 refine T.block ?_
 refine aS ?_
 obtain ⟨x20, hx20, q15⟩ := bnd_some q15
 refine TL.op1 (OpR.indexM byteD hx20 rfl rfl rfl rfl rfl) rfl ?_
 iterate 2 refine aA rfl rfl ?_
 refine TL.nil ?_
 show T X _ _ _
 refine T.seq ?_
 refine aS ?_
 refine aA rfl rfl ?_
 obtain ⟨x21, hx21, q15⟩ := bnd_some q15
 refine TL.op1 (OpR.call0 fn89 (quote_class_c hx21) rfl) rfl ?_
 refine aA rfl rfl ?_
 refine TL.nil ?_
 show T X _ _ _
 obtain ⟨t22, ht22, q15⟩ := bnd_some q15
 refine T.cutC (fun S' => ∃ y23 : Value, S' = ⟨[(20, .val (.int .i64 s11.1)), (19, .val (.int .i64 (a0.length : Int))), (18, .sl 1 (List.map byteD a0)), (5, .val (.int .u8 (x20.toNat : Int))), (3, .val y23), (2, .val (.slice none 0 0))], [.row y23 (List.map byteD t22) 1 5], 39⟩) (fun _ h => h) ?_ ?_
 rotate_left
 · rintro _ ⟨y23, rfl⟩
   show T X _ _ _
   refine T.region ?_
   iterate 2 refine aA rfl rfl ?_
   refine TL.op1 (OpR.lit rfl rfl rfl rfl rfl rfl rfl) rfl ?_
   obtain ⟨x27, hx27, q15⟩ := bnd_some q15
   refine TL.op (OpR.appendM (m := [x20]) byteD 0 hx27 rfl rfl rfl rfl rfl rfl rfl rfl rfl (fun _ => rfl)) rfl (fun v28 => ?_)
   refine aA rfl rfl ?_
   refine TL.nil ?_
   show T X _ _ _
   refine T.region ?_
   iterate 2 refine aA rfl rfl ?_
   refine TL.nil ?_
   obtain rfl := Option.some.inj q15
   exact ⟨m13, Nat.lt_succ_self _, _, Gst.only [2, 3, 18, 19, 20] rfl, v28, (w64 (s11.1 + 1), x27), rfl, i16⟩
 rcases ite_some ht22 with ⟨c24, ht22⟩ | ⟨c24, ht22⟩
 rotate_left
 · refine T.condF rfl (beq_eq_false_iff_ne.2 c24) ?_
   refine T.skip ?_
   obtain rfl := Option.some.inj ht22
   exact ⟨_, Gst.only [2, 3, 5, 18, 19, 20] rfl, y10, rfl⟩
 refine T.condT rfl (beq_iff_eq.2 c24) ?_
 refine T.region ?_
 iterate 2 refine aA rfl rfl ?_
 refine TL.op1 (OpR.lit rfl rfl rfl rfl rfl rfl rfl) rfl ?_
 obtain ⟨x25, hx25, ht22⟩ := bnd_some ht22
 refine TL.op (OpR.appendM (m := [x20]) byteD 0 hx25 rfl rfl rfl rfl rfl rfl rfl rfl rfl (fun _ => rfl)) rfl (fun v26 => ?_)
 refine aA rfl rfl ?_
 refine TL.nil ?_
 obtain rfl := Option.some.inj ht22
 exact ⟨_, Gst.only [2, 3, 5, 18, 19, 20] rfl, v26, rfl⟩
noncomputable def cell_Cell_Print (a0 : cell_Cell) (a1 : List UInt8) : Option (List UInt8) :=
  if a0.fKept = true then
    bnd (arena_Arena_Bytes a0.fRaw a1) fun x2 =>
    some x2
  else
    bnd (cell_Cell_Bytes a0 a1) fun x3 =>
    bnd (quote_Put x3) fun x4 =>
    some x4
set_option maxHeartbeats 4000000 in
theorem cell_Cell_Print_c {a0 : cell_Cell} {a1 : List UInt8} {b0 : Nat} {v1 : Value} {res : (List UInt8)} (h0 : cell_Cell_Print a0 a1 = some res) : CallF X 64 [.agg [.sl 2 (List.map e_arena_Span a0.fText.fL), .val (.int .i64 a0.fText.fN), .val (.int .i64 a0.fRaw.fAt), .val (.int .i64 a0.fRaw.fN), .val (.bool a0.fKept)], .val (.pointer (some ⟨b0, 0, none⟩))] [.var b0 [.val v1] 123, .row v1 (List.map byteD a1) 1 5] (fun x => .sl 1 (List.map byteD res)) (fun x => [.var b0 [.val v1] 123, .row v1 (List.map byteD a1) 1 5]) := by
 unfold cell_Cell_Print at h0
 refine CallF.mkG (X := X) rfl Try.func64 rfl rfl Try.ntmps64 rfl rfl ?_
 refine aS ?_
 refine TL.op1 (OpR.boxImm rfl rfl) rfl ?_
 refine aA rfl rfl ?_
 refine TL.nil ?_
 show T X _ _ _
 refine T.seq ?_
 refine aS ?_
 iterate 2 refine aA rfl rfl ?_
 refine TL.nil ?_
 show T X _ _ _
 rcases ite_some h0 with ⟨c1, h0⟩ | ⟨c1, h0⟩
 · refine T.condT rfl (c1) ?_
   refine aS ?_
   iterate 3 refine aA rfl rfl ?_
   obtain ⟨x2, hx2, h0⟩ := bnd_some h0
   refine TL.op1 (OpR.call [0, 1] fn21 (arena_Arena_Bytes_c hx2) rfl rfl rfl (fun _ => rfl)) rfl ?_
   refine aA rfl rfl ?_
   refine TL.nil ?_
   show T X _ _ _
   refine T.ret ?_
   obtain rfl := Option.some.inj h0
   exact PostG.retP (ks := [0, 1]) (Gst.only [4] rfl) undef (ResL.cons (ResV.tmp rfl) ResL.nil) rfl rfl rfl rfl
 refine T.condF rfl (eq_false_of_ne_true c1) ?_
 refine T.skip ?_
 show T X _ _ _
 refine aS ?_
 iterate 2 refine aA rfl rfl ?_
 obtain ⟨x3, hx3, h0⟩ := bnd_some h0
 refine TL.op1 (OpR.call [0, 1] fn20 (cell_Cell_Bytes_c hx3) rfl rfl rfl (fun _ => rfl)) rfl ?_
 obtain ⟨x4, hx4, h0⟩ := bnd_some h0
 refine TL.op1 (OpR.call0 fn78 (quote_Put_c hx4) rfl) rfl ?_
 refine aA rfl rfl ?_
 refine TL.nil ?_
 show T X _ _ _
 refine T.ret ?_
 obtain rfl := Option.some.inj h0
 exact PostG.retP (ks := [0, 1]) (Gst.only [4] rfl) undef (ResL.cons (ResV.tmp rfl) ResL.nil) rfl rfl rfl rfl
noncomputable def row_Row_Print.l1 (a0 : row_Row) (a1 : List UInt8) (s4 : Int × (List UInt8)) : Option (Lp (Int × (List UInt8)) (List UInt8)) :=
  if s4.1 < (a0.fCells.length : Int) then
    bnd (idx a0.fCells s4.1) fun x13 =>
    bnd (if s4.1 > 0 then
      bnd (app 1 s4.2 [44]) fun x18 =>
      some x18
    else
      some s4.2 : Option (List UInt8)) fun t15 =>
    bnd (cell_Cell_Print x13 a1) fun x20 =>
    bnd (app 1 t15 x20) fun x21 =>
    some (Lp.next (w64 (s4.1 + 1), x21))
  else
    some (Lp.done s4.2)
noncomputable def row_Row_Print (a0 : row_Row) (a1 : List UInt8) : Option (List UInt8) :=
  bnd (loop (row_Row_Print.l1 a0 a1) (0, []) : Option (List UInt8)) fun t1 =>
  some t1
set_option maxHeartbeats 4000000 in
theorem row_Row_Print_c {a0 : row_Row} {a1 : List UInt8} {b0 : Nat} {v1 : Value} {res : (List UInt8)} (h0 : row_Row_Print a0 a1 = some res) : CallF X 35 [.agg [.sl 5 (List.map e_cell_Cell a0.fCells), .val (.int .i64 a0.fEnd), .val (.bool a0.fHidden)], .val (.pointer (some ⟨b0, 0, none⟩))] [.var b0 [.val v1] 123, .row v1 (List.map byteD a1) 1 5] (fun x => .sl 1 (List.map byteD res)) (fun x => [.var b0 [.val v1] 123, .row v1 (List.map byteD a1) 1 5]) := by
 unfold row_Row_Print at h0
 refine CallF.mkG (X := X) rfl Try.func35 rfl rfl Try.ntmps35 rfl rfl ?_
 refine aS ?_
 refine TL.op1 (OpR.boxImm rfl rfl) rfl ?_
 refine aA rfl rfl ?_
 refine TL.nil ?_
 show T X _ _ _
 refine aS ?_
 refine aA rfl rfl ?_
 refine TL.nil ?_
 show T X _ _ _
 refine T.seq ?_
 refine aS ?_
 iterate 2 refine aA rfl rfl ?_
 refine TL.op1 (OpR.cast (OpR.pure rfl) (intE (lenM _ _))) rfl ?_
 refine aA rfl rfl ?_
 refine TL.nil ?_
 show T X _ _ _
 obtain ⟨t1, ht1, h0⟩ := bnd_some h0
 refine T.cutC (fun S' => ∃ y2 : Value, S' = ⟨[(5, .val y2), (4, .val (.slice none 0 0))], [.var b0 [.val v1] 123, .row v1 (List.map byteD a1) 1 5, .row y2 (List.map byteD t1) 1 5], 28⟩) (fun _ h => h) ?_ ?_
 rotate_left
 · rintro _ ⟨y2, rfl⟩
   show T X _ _ _
   refine aS ?_
   iterate 2 refine aA rfl rfl ?_
   refine TL.nil ?_
   show T X _ _ _
   refine T.ret ?_
   obtain rfl := Option.some.inj h0
   exact PostG.retP (ks := [0, 1]) (Gst.trans (Gst.only [4] rfl) (Gst.trans (Gst.freezeRow 2 rfl rfl (ReS.cons (Re.base .all) ReS.nil) (ReO.same (ReO.same (ReO.same ReO.nil)))) (Gst.pick [0, 1] rfl rfl))) undef (ResL.cons (ResV.tmp rfl) ResL.nil) rfl rfl rfl rfl
 refine T.block ?_
 obtain ⟨n5, n10⟩ := loop_some ht1
 refine T.loop (fun n S' => ∃ S'', Gst S' S'' ∧ ∃ y3 : Value, ∃ s4 : Int × (List UInt8), S'' = ⟨[(11, .val (.int .i64 s4.1)), (10, .val (.int .i64 (a0.fCells.length : Int))), (9, .sl 5 (List.map e_cell_Cell a0.fCells)), (5, .val y3), (4, .val (.slice none 0 0)), (1, .val (.pointer (some ⟨b0, 0, none⟩)))], [.var b0 [.val v1] 123, .row v1 (List.map byteD a1) 1 5, .row y3 (List.map byteD s4.2) 1 5], 28⟩ ∧ iter (row_Row_Print.l1 a0 a1) n s4 = some t1) n5 ?_ ?_
 · exact ⟨_, Gst.trans (Gst.only [1, 4, 5, 9, 10, 11] rfl) (Gst.nilRow (ow := [.var b0 [.val v1] 123, .row v1 (List.map byteD a1) 1 5]) 1 5 rfl), (.slice none 0 0), (0, []), rfl, n10⟩
 rintro n5 _ ⟨_, g, y3, s4, rfl, i9⟩
 refine T.ghost g ?_
 obtain ⟨m6, q7, rfl, q8, i9⟩ := iter_succ i9
 unfold row_Row_Print.l1 at q8
 refine aS ?_
 refine aA rfl rfl ?_
 refine TL.nil ?_
 show T X _ _ _
 refine T.seq ?_
 rcases ite_some q8 with ⟨c12, q8⟩ | ⟨c12, q8⟩
 rotate_left
 · refine T.condF rfl (decide_eq_false c12) ?_
   refine T.exit ?_
   obtain rfl := Option.some.inj q8
   obtain rfl : _ = _ := i9
   exact ⟨_, Gst.only [4, 5] rfl, y3, rfl⟩
 refine T.condT rfl (decide_eq_true c12) ?_
 refine T.skip ?_
 show T X _ _ _
 refine T.seq ?_
 refine T.block ?_
 refine aS ?_
 refine aA rfl rfl ?_
 obtain ⟨x13, hx13, q8⟩ := bnd_some q8
 refine TL.op1 (OpR.indexM e_cell_Cell hx13 rfl rfl rfl rfl rfl) rfl ?_
 refine aA rfl rfl ?_
 refine TL.op (OpR.alloc rfl rfl (fun _ => rfl)) rfl (fun p14 => ?_)
 refine aA rfl rfl ?_
 refine TL.op0 (OpR.store 3 rfl rfl rfl rfl rfl rfl rfl rfl) ?_
 refine TL.nil ?_
 show T X _ _ _
 refine T.seq ?_
 refine aS ?_
 iterate 2 refine aA rfl rfl ?_
 refine TL.nil ?_
 show T X _ _ _
 obtain ⟨t15, ht15, q8⟩ := bnd_some q8
 refine T.cutC (fun S' => ∃ y16 : Value, S' = ⟨[(11, .val (.int .i64 s4.1)), (10, .val (.int .i64 (a0.fCells.length : Int))), (9, .sl 5 (List.map e_cell_Cell a0.fCells)), (7, .val (.pointer (some ⟨(blk p14), 0, none⟩))), (5, .val y16), (4, .val (.slice none 0 0)), (1, .val (.pointer (some ⟨b0, 0, none⟩)))], [.var b0 [.val v1] 123, .row v1 (List.map byteD a1) 1 5, .row y16 (List.map byteD t15) 1 5, .var (blk p14) [.sl 2 (List.map e_arena_Span x13.fText.fL), .val (.int .i64 x13.fText.fN), .val (.int .i64 x13.fRaw.fAt), .val (.int .i64 x13.fRaw.fN), .val (.bool x13.fKept)] 50], 28⟩) (fun _ h => h) ?_ ?_
 · rcases ite_some ht15 with ⟨c17, ht15⟩ | ⟨c17, ht15⟩
   rotate_left
   · refine T.condF rfl (decide_eq_false c17) ?_
     refine T.skip ?_
     obtain rfl := Option.some.inj ht15
     exact ⟨_, Gst.only [1, 4, 5, 7, 9, 10, 11] rfl, y3, rfl⟩
   refine T.condT rfl (decide_eq_true c17) ?_
   refine T.region ?_
   refine aA rfl rfl ?_
   refine TL.op1 (OpR.lit rfl rfl rfl rfl rfl rfl rfl) rfl ?_
   obtain ⟨x18, hx18, ht15⟩ := bnd_some ht15
   refine TL.op (OpR.appendM (m := [44]) byteD 2 hx18 rfl rfl rfl rfl rfl rfl rfl rfl rfl (fun _ => rfl)) rfl (fun v19 => ?_)
   refine aA rfl rfl ?_
   refine TL.nil ?_
   obtain rfl := Option.some.inj ht15
   exact ⟨_, Gst.only [1, 4, 5, 7, 9, 10, 11] rfl, v19, rfl⟩
 rintro _ ⟨y16, rfl⟩
 show T X _ _ _
 refine T.region ?_
 refine aA rfl rfl ?_
 refine TL.op1 (OpR.loadPtr 3 rfl rfl rfl rfl) rfl ?_
 refine aA rfl rfl ?_
 obtain ⟨x20, hx20, q8⟩ := bnd_some q8
 refine TL.op1 (OpR.call [0, 1] fn64 (cell_Cell_Print_c hx20) rfl rfl rfl (fun _ => rfl)) rfl ?_
 obtain ⟨x21, hx21, q8⟩ := bnd_some q8
 refine TL.op (OpR.appendM (m := x20) byteD 2 hx21 rfl rfl rfl rfl rfl rfl rfl rfl rfl (fun _ => rfl)) rfl (fun v22 => ?_)
 refine aA rfl rfl ?_
 refine TL.nil ?_
 show T X _ _ _
 refine T.region ?_
 iterate 2 refine aA rfl rfl ?_
 refine TL.nil ?_
 obtain rfl := Option.some.inj q8
 exact ⟨m6, Nat.lt_succ_self _, _, Gst.trans (Gst.only [1, 4, 5, 9, 10, 11] rfl) (Gst.pick [0, 1, 2] rfl rfl), v22, (w64 (s4.1 + 1), x21), rfl, i9⟩
noncomputable def scan_Mark (a0 : Int) : Option (List UInt8) :=
  if a0 = 1 then
    some [10]
  else
    if a0 = 2 then
      some [13, 10]
    else
      if a0 = 3 then
        some [13]
      else
        some []
set_option maxHeartbeats 4000000 in
theorem scan_Mark_c {a0 : Int} {res : (List UInt8)} (h0 : scan_Mark a0 = some res) : CallF X 65 [.val (.int .i64 a0)] [] (fun x => .val (.string (bs res))) (fun x => []) := by
 unfold scan_Mark at h0
 refine CallF.mkG (X := X) rfl Try.func65 rfl rfl Try.ntmps65 rfl rfl ?_
 refine aS ?_
 refine aA rfl rfl ?_
 refine TL.nil ?_
 show T X _ _ _
 refine T.seq ?_
 refine aS ?_
 refine aA rfl rfl ?_
 refine TL.nil ?_
 show T X _ _ _
 refine T.block ?_
 refine aS ?_
 iterate 2 refine aA rfl rfl ?_
 refine TL.nil ?_
 show T X _ _ _
 rcases ite_some h0 with ⟨c1, h0⟩ | ⟨c1, h0⟩
 · refine T.condT rfl (beq_iff_eq.2 c1) ?_
   refine aS ?_
   refine aA rfl rfl ?_
   refine TL.nil ?_
   show T X _ _ _
   refine T.ret ?_
   obtain rfl := Option.some.inj h0
   exact PostG.retP (ks := []) (Gst.only [2] rfl) undef (ResL.cons (ResV.tmp rfl) ResL.nil) rfl rfl rfl rfl
 refine T.condF rfl (beq_eq_false_iff_ne.2 c1) ?_
 refine aS ?_
 iterate 2 refine aA rfl rfl ?_
 refine TL.nil ?_
 show T X _ _ _
 rcases ite_some h0 with ⟨c2, h0⟩ | ⟨c2, h0⟩
 · refine T.condT rfl (beq_iff_eq.2 c2) ?_
   refine aS ?_
   refine aA rfl rfl ?_
   refine TL.nil ?_
   show T X _ _ _
   refine T.ret ?_
   obtain rfl := Option.some.inj h0
   exact PostG.retP (ks := []) (Gst.only [2] rfl) undef (ResL.cons (ResV.tmp rfl) ResL.nil) rfl rfl rfl rfl
 refine T.condF rfl (beq_eq_false_iff_ne.2 c2) ?_
 refine aS ?_
 iterate 2 refine aA rfl rfl ?_
 refine TL.nil ?_
 show T X _ _ _
 rcases ite_some h0 with ⟨c3, h0⟩ | ⟨c3, h0⟩
 · refine T.condT rfl (beq_iff_eq.2 c3) ?_
   refine aS ?_
   refine aA rfl rfl ?_
   refine TL.nil ?_
   show T X _ _ _
   refine T.ret ?_
   obtain rfl := Option.some.inj h0
   exact PostG.retP (ks := []) (Gst.only [2] rfl) undef (ResL.cons (ResV.tmp rfl) ResL.nil) rfl rfl rfl rfl
 refine T.condF rfl (beq_eq_false_iff_ne.2 c3) ?_
 refine T.skip ?_
 show T X _ _ _
 refine aS ?_
 refine aA rfl rfl ?_
 refine TL.nil ?_
 show T X _ _ _
 refine T.ret ?_
 obtain rfl := Option.some.inj h0
 exact PostG.retP (ks := []) (Gst.only [2] rfl) undef (ResL.cons (ResV.tmp rfl) ResL.nil) rfl rfl rfl rfl
noncomputable def grid_Grid_mark (a0 : grid_Grid) (a1 : row_Row) : Option (List UInt8) :=
  if a1.fEnd = 0 then
    bnd (scan_Mark a0.fEnd) fun x2 =>
    some x2
  else
    bnd (scan_Mark a1.fEnd) fun x3 =>
    some x3
set_option maxHeartbeats 4000000 in
theorem grid_Grid_mark_c {a0 : grid_Grid} {a1 : row_Row} {res : (List UInt8)} (h0 : grid_Grid_mark a0 a1 = some res) : CallF X 36 [.agg [(eOP a0.fRows.fRoot), .val (.bool a0.fTail), .val (.int .i64 a0.fEnd)], .agg [.sl 5 (List.map e_cell_Cell a1.fCells), .val (.int .i64 a1.fEnd), .val (.bool a1.fHidden)]] [] (fun x => .val (.string (bs res))) (fun x => []) := by
 unfold grid_Grid_mark at h0
 refine CallF.mkG (X := X) rfl Try.func36 rfl rfl Try.ntmps36 rfl rfl ?_
 refine aS ?_
 refine TL.op1 (OpR.boxImm rfl rfl) rfl ?_
 refine TL.op1 (OpR.boxImm rfl rfl) rfl ?_
 refine aA rfl rfl ?_
 refine TL.nil ?_
 show T X _ _ _
 refine T.seq ?_
 refine aS ?_
 iterate 3 refine aA rfl rfl ?_
 refine TL.nil ?_
 show T X _ _ _
 rcases ite_some h0 with ⟨c1, h0⟩ | ⟨c1, h0⟩
 · refine T.condT rfl (beq_iff_eq.2 c1) ?_
   refine aS ?_
   iterate 2 refine aA rfl rfl ?_
   obtain ⟨x2, hx2, h0⟩ := bnd_some h0
   refine TL.op1 (OpR.call0 fn65 (scan_Mark_c hx2) rfl) rfl ?_
   refine aA rfl rfl ?_
   refine TL.nil ?_
   show T X _ _ _
   refine T.ret ?_
   obtain rfl := Option.some.inj h0
   exact PostG.retP (ks := []) (Gst.only [4] rfl) undef (ResL.cons (ResV.tmp rfl) ResL.nil) rfl rfl rfl rfl
 refine T.condF rfl (beq_eq_false_iff_ne.2 c1) ?_
 refine T.skip ?_
 show T X _ _ _
 refine aS ?_
 iterate 2 refine aA rfl rfl ?_
 obtain ⟨x3, hx3, h0⟩ := bnd_some h0
 refine TL.op1 (OpR.call0 fn65 (scan_Mark_c hx3) rfl) rfl ?_
 refine aA rfl rfl ?_
 refine TL.nil ?_
 show T X _ _ _
 refine T.ret ?_
 obtain rfl := Option.some.inj h0
 exact PostG.retP (ks := []) (Gst.only [4] rfl) undef (ResL.cons (ResV.tmp rfl) ResL.nil) rfl rfl rfl rfl
noncomputable def grid_Grid_Save_r0_2 (a0 : Int) (a1 : row_Row) (a2 : Option NP) (a3 : Bool) (a4 : Int) (a5 : List UInt8) (a6 : List UInt8) : Option (List UInt8) :=
  bnd (row_Row_Print a1 a5) fun x32 =>
  bnd (app 1 a6 x32) fun x33 =>
  bnd (bnd (grid_Grid_Len (⟨(⟨a2⟩ : tree_Tree_damier_row_Row), a3, a4⟩ : grid_Grid)) fun x36 =>
  if a0 < (w64 (x36 - 1)) then
    some true
  else
    if a3 = true then
      some true
    else
      some ((x32.length : Int) == 0) : Option Bool) fun t35 =>
  if t35 = true then
    bnd (grid_Grid_mark (⟨(⟨a2⟩ : tree_Tree_damier_row_Row), a3, a4⟩ : grid_Grid) a1) fun x41 =>
    bnd (app 1 x33 x41) fun x42 =>
    some x42
  else
    some x33
set_option maxHeartbeats 4000000 in
theorem grid_Grid_Save_r0_2_c {a0 : Int} {a1 : row_Row} {a2 : Option NP} {a3 : Bool} {a4 : Int} {a5 : List UInt8} {a6 : List UInt8} {b0 : Nat} {b1 : Nat} {b2 : Nat} {v3 : Value} {v4 : Value} {res : (List UInt8)} (h0 : grid_Grid_Save_r0_2 a0 a1 a2 a3 a4 a5 a6 = some res) : RoundF X b0 [.val (.int .i64 a0), .agg [.sl 5 (List.map e_cell_Cell a1.fCells), .val (.int .i64 a1.fEnd), .val (.bool a1.fHidden)]] [.lp b0 .ready none [14, 15] rfA13_0 rfB13_0 [(5, .val (.pointer (some ⟨b2, 0, none⟩))), (3, .nod [.val (.pointer (some ⟨b1, 0, none⟩))]), (2, .nod [(eOP a2), .val (.bool a3), .val (.int .i64 a4)])] 42, .var b1 [.val v3] 123, .var b2 [.val v4] 55, .row v3 (List.map byteD a5) 1 5, .row v4 (List.map byteD a6) 1 5] (fun x => .val (.bool true)) (fun x => [.lp b0 .ready none [14, 15] rfA13_0 rfB13_0 [(5, .val (.pointer (some ⟨b2, 0, none⟩))), (3, .nod [.val (.pointer (some ⟨b1, 0, none⟩))]), (2, .nod [(eOP a2), .val (.bool a3), .val (.int .i64 a4)])] 42, .var b1 [.val v3] 123, .var b2 [.val (vn x 0)] 55, .row v3 (List.map byteD a5) 1 5, .row (vn x 0) (List.map byteD res) 1 5]) := by
 unfold grid_Grid_Save_r0_2 at h0
 refine RoundF.mk (X := X) rfl rfl rfl ?_
 refine aS ?_
 refine aA rfl rfl ?_
 refine TL.nil ?_
 show T (X.inR b0) _ _ _
 refine T.region ?_
 refine TL.op (OpR.alloc rfl rfl (fun _ => rfl)) rfl (fun p31 => ?_)
 refine TL.op0 (OpR.store 5 rfl rfl rfl rfl rfl rfl rfl rfl) ?_
 refine TL.nil ?_
 refine RoundA.mk ?_
 refine T.block ?_
 refine aS ?_
 refine TL.op1 (OpR.loadPtr 5 rfl rfl rfl rfl) rfl ?_
 refine aA rfl rfl ?_
 obtain ⟨x32, hx32, h0⟩ := bnd_some h0
 refine TL.op1 (OpR.call [1, 3] fn35 (row_Row_Print_c hx32) rfl rfl rfl (fun _ => rfl)) rfl ?_
 refine aA rfl rfl ?_
 refine TL.nil ?_
 show T (X.inR b0) _ _ _
 refine aS ?_
 refine TL.op1 (OpR.loadPtr 2 rfl rfl rfl rfl) rfl ?_
 refine aA rfl rfl ?_
 obtain ⟨x33, hx33, h0⟩ := bnd_some h0
 refine TL.op (OpR.appendM (m := x32) byteD 4 hx33 rfl rfl rfl rfl rfl rfl rfl rfl rfl (fun _ => rfl)) rfl (fun v34 => ?_)
 refine TL.op0 (OpR.store 2 rfl rfl rfl rfl rfl rfl rfl rfl) ?_
 refine TL.nil ?_
 show T (X.inR b0) _ _ _
 refine T.seq ?_
 obtain ⟨t35, ht35, h0⟩ := bnd_some h0
 refine T.cutC (fun S' => S' = ⟨[(35, .val (.bool t35)), (7, .val (.pointer (some ⟨(blk p31), 0, none⟩))), (5, .val (.pointer (some ⟨b2, 0, none⟩))), (2, .nod [(eOP a2), .val (.bool a3), .val (.int .i64 a4)])], [.lp b0 .busy none [14, 15] rfA13_0 rfB13_0 [(5, .val (.pointer (some ⟨b2, 0, none⟩))), (3, .nod [.val (.pointer (some ⟨b1, 0, none⟩))]), (2, .nod [(eOP a2), .val (.bool a3), .val (.int .i64 a4)])] 42, .var b1 [.val v3] 123, .var b2 [.val v34] 55, .row v3 (List.map byteD a5) 1 5, .row v34 (List.map byteD x33) 1 5, .var (blk p31) [.sl 5 (List.map e_cell_Cell a1.fCells), .val (.int .i64 a1.fEnd), .val (.bool a1.fHidden)] 68], 42⟩) (fun _ h => h) ?_ ?_
 · refine T.region ?_
   iterate 2 refine aA rfl rfl ?_
   obtain ⟨x36, hx36, ht35⟩ := bnd_some ht35
   refine TL.op1 (OpR.call0 fn16 (grid_Grid_Len_c hx36) rfl) rfl ?_
   iterate 3 refine aA rfl rfl ?_
   rcases ite_some ht35 with ⟨c37, ht35⟩ | ⟨c37, ht35⟩
   · refine TL.off rfl rfl rfl rfl (decide_eq_true c37) rfl rfl ?_
     refine TL.off rfl rfl rfl rfl (decide_eq_true c37) rfl rfl ?_
     refine TL.op1 (OpR.pickT rfl (decide_eq_true c37) rfl) rfl ?_
     refine aA rfl rfl ?_
     refine TL.off rfl rfl rfl rfl rfl rfl rfl ?_
     refine TL.off rfl rfl rfl rfl rfl rfl rfl ?_
     refine TL.off rfl rfl rfl rfl rfl rfl rfl ?_
     refine TL.op1 (OpR.pickT rfl rfl rfl) rfl ?_
     refine TL.nil ?_
     obtain rfl := Option.some.inj ht35
     exact ⟨_, Gst.only [2, 5, 7, 35] rfl, rfl⟩
   refine TL.on rfl rfl rfl rfl (decide_eq_false c37) ?_
   refine aA rfl rfl ?_
   refine TL.on rfl rfl rfl rfl (decide_eq_false c37) ?_
   refine aA rfl rfl ?_
   refine TL.op1 (OpR.pickF rfl (decide_eq_false c37) rfl) rfl ?_
   refine aA rfl rfl ?_
   rcases ite_some ht35 with ⟨c38, ht35⟩ | ⟨c38, ht35⟩
   · refine TL.off rfl rfl rfl rfl (c38) rfl rfl ?_
     refine TL.off rfl rfl rfl rfl (c38) rfl rfl ?_
     refine TL.off rfl rfl rfl rfl (c38) rfl rfl ?_
     refine TL.op1 (OpR.pickT rfl (c38) rfl) rfl ?_
     refine TL.nil ?_
     obtain rfl := Option.some.inj ht35
     exact ⟨_, Gst.only [2, 5, 7, 35] rfl, rfl⟩
   refine TL.on rfl rfl rfl rfl (eq_false_of_ne_true c38) ?_
   refine aA rfl rfl ?_
   refine TL.on rfl rfl rfl rfl (eq_false_of_ne_true c38) ?_
   refine TL.op1 (OpR.cast (OpR.pure rfl) (intE (lenM _ _))) rfl ?_
   refine TL.on rfl rfl rfl rfl (eq_false_of_ne_true c38) ?_
   refine aA rfl rfl ?_
   refine TL.op1 (OpR.pickF rfl (eq_false_of_ne_true c38) rfl) rfl ?_
   refine TL.nil ?_
   obtain rfl := Option.some.inj ht35
   exact ⟨_, Gst.only [2, 5, 7, 35] rfl, rfl⟩
 rintro _ rfl
 show T (X.inR b0) _ _ _
 rcases ite_some h0 with ⟨c39, h0⟩ | ⟨c39, h0⟩
 rotate_left
 · refine T.condF rfl (eq_false_of_ne_true c39) ?_
   refine T.skip ?_
   obtain rfl := Option.some.inj h0
   exact RoundG.mk (ks := [0, 1, 2, 3, 4]) (Gst.trans (Gst.only [] rfl) (Gst.pick [0, 1, 2, 3, 4] rfl rfl)) (.tuple #[v34]) rfl rfl rfl rfl rfl
 refine T.condT rfl (c39) ?_
 obtain ⟨x41, hx41, h0⟩ := bnd_some h0
 obtain ⟨x42, hx42, h0⟩ := bnd_some h0
 refine T.drawS drawsX (fun env40 => [.val v34, .agg [(eOP a2), .val (.bool a3), .val (.int .i64 a4)], .agg [.sl 5 (List.map e_cell_Cell a1.fCells), .val (.int .i64 a1.fEnd), .val (.bool a1.fHidden)], .val (.string (bs x41)), .val (env40 4), .dead]) (fun D env40 => [.lp b0 .busy none [14, 15] rfA13_0 rfB13_0 [(5, .val (.pointer (some ⟨b2, 0, none⟩))), (3, .nod [.val (.pointer (some ⟨b1, 0, none⟩))]), (2, .nod [(eOP a2), .val (.bool a3), .val (.int .i64 a4)])] 42, .var b1 [.val v3] 123, (bif D 5 then .var b2 [.val (env40 4)] 55 else .var b2 [.val v34] 55), .row v3 (List.map byteD a5) 1 5, (bif D 4 then .row (env40 4) (List.map byteD x42) 1 5 else .row v34 (List.map byteD x33) 1 5), .var (blk p31) [.sl 5 (List.map e_cell_Cell a1.fCells), .val (.int .i64 a1.fEnd), .val (.bool a1.fHidden)] 68]) [0, 0, 0, 6, 15, 31] [] (fun env40 => [.lp b0 .busy none [14, 15] rfA13_0 rfB13_0 [(5, .val (.pointer (some ⟨b2, 0, none⟩))), (3, .nod [.val (.pointer (some ⟨b1, 0, none⟩))]), (2, .nod [(eOP a2), .val (.bool a3), .val (.int .i64 a4)])] 42, .var b1 [.val v3] 123, .var b2 [.val (env40 4)] 55, .row v3 (List.map byteD a5) 1 5, .row (env40 4) (List.map byteD x42) 1 5, .var (blk p31) [.sl 5 (List.map e_cell_Cell a1.fCells), .val (.int .i64 a1.fEnd), .val (.bool a1.fHidden)] 68]) (by decide +kernel) (by decide +kernel) (fun _ => rfl) (fun _ => rfl) ?_ (fun _ => rfl) (fun _ => rfl) ?_
 rotate_left
 · intro env40
   obtain rfl := Option.some.inj h0
   exact RoundG.mk (ks := [0, 1, 2, 3, 4]) (Gst.trans (Gst.only [] rfl) (Gst.pick [0, 1, 2, 3, 4] rfl rfl)) (.tuple #[(env40 4)]) rfl rfl rfl rfl rfl
 refine OpsS.cons' true ?_ (fun _ _ _ _ _ _ _ => rfl) ?_
 · intro D env40 hA
   have e4 : D 4 = false := hA.no 4 _ rfl rfl
   have e5 : D 5 = false := hA.no 5 _ rfl rfl
   exact OpS.yes (o0 := [.lp b0 .busy none [14, 15] rfA13_0 rfB13_0 [(5, .val (.pointer (some ⟨b2, 0, none⟩))), (3, .nod [.val (.pointer (some ⟨b1, 0, none⟩))]), (2, .nod [(eOP a2), .val (.bool a3), .val (.int .i64 a4)])] 42, .var b1 [.val v3] 123, .var b2 [.val v34] 55, .row v3 (List.map byteD a5) 1 5, .row v34 (List.map byteD x33) 1 5, .var (blk p31) [.sl 5 (List.map e_cell_Cell a1.fCells), .val (.int .i64 a1.fEnd), .val (.bool a1.fHidden)] 68]) (o1 := fun x => [.lp b0 .busy none [14, 15] rfA13_0 rfB13_0 [(5, .val (.pointer (some ⟨b2, 0, none⟩))), (3, .nod [.val (.pointer (some ⟨b1, 0, none⟩))]), (2, .nod [(eOP a2), .val (.bool a3), .val (.int .i64 a4)])] 42, .var b1 [.val v3] 123, .var b2 [.val v34] 55, .row v3 (List.map byteD a5) 1 5, .row v34 (List.map byteD x33) 1 5, .var (blk p31) [.sl 5 (List.map e_cell_Cell a1.fCells), .val (.int .i64 a1.fEnd), .val (.bool a1.fHidden)] 68]) (d := fun x => .val v34) (Want.plain rfl) (by first | rfl | simp only [e4, e5, cond_true, cond_false, List.cons_append, List.nil_append, List.append_nil]) (fun x => by first | rfl | simp only [ins_self, ins_ne D (show 0 ≠ 4 by decide), ins_ne D (show 0 ≠ 5 by decide), upd_self, upd_ne env40 x (show 0 ≠ 4 by decide), e4, e5, cond_true, cond_false, List.cons_append, List.nil_append, List.append_nil]) (fun x => rfl) (OpR.loadPtr 2 rfl rfl rfl rfl)
 refine aC ?_
 refine oS (d := .agg [.sl 5 (List.map e_cell_Cell a1.fCells), .val (.int .i64 a1.fEnd), .val (.bool a1.fHidden)]) (fun _ => Want.plain rfl) (fun _ => rfl) (fun _ _ _ => rfl) (fun _ _ => OpR.loadPtr 5 rfl rfl rfl rfl) (fun _ _ _ _ _ _ _ => rfl) ?_
 refine oS (d := .val (.string (bs x41))) (fun _ => Want.plain rfl) (fun _ => rfl) (fun _ _ _ => rfl) (fun _ _ => OpR.call0 fn36 (grid_Grid_mark_c hx41) rfl) (fun _ _ _ _ _ _ _ => rfl) ?_
 refine OpsS.cons' true ?_ (fun D hA env40 x j hj hD => match j, hj, hD with | 0, _, _ => rfl | 1, _, _ => rfl | 2, _, _ => rfl | 3, _, _ => rfl | 4, hj, _ => absurd rfl hj | 5, _, _ => rfl | _ + 6, _, _ => rfl) ?_
 · intro D env40 hA
   have e5 : D 5 = false := hA.no 5 _ rfl rfl
   exact OpS.yes (o0 := [.lp b0 .busy none [14, 15] rfA13_0 rfB13_0 [(5, .val (.pointer (some ⟨b2, 0, none⟩))), (3, .nod [.val (.pointer (some ⟨b1, 0, none⟩))]), (2, .nod [(eOP a2), .val (.bool a3), .val (.int .i64 a4)])] 42, .var b1 [.val v3] 123, .var b2 [.val v34] 55, .row v3 (List.map byteD a5) 1 5, .row v34 (List.map byteD x33) 1 5, .var (blk p31) [.sl 5 (List.map e_cell_Cell a1.fCells), .val (.int .i64 a1.fEnd), .val (.bool a1.fHidden)] 68]) (o1 := fun x => [.lp b0 .busy none [14, 15] rfA13_0 rfB13_0 [(5, .val (.pointer (some ⟨b2, 0, none⟩))), (3, .nod [.val (.pointer (some ⟨b1, 0, none⟩))]), (2, .nod [(eOP a2), .val (.bool a3), .val (.int .i64 a4)])] 42, .var b1 [.val v3] 123, .var b2 [.val v34] 55, .row v3 (List.map byteD a5) 1 5, .row x (List.map byteD x42) 1 5, .var (blk p31) [.sl 5 (List.map e_cell_Cell a1.fCells), .val (.int .i64 a1.fEnd), .val (.bool a1.fHidden)] 68]) (d := fun x => .val x) (Want.plain rfl) (by first | rfl | simp only [e5, hA.me, cond_true, cond_false, List.cons_append, List.nil_append, List.append_nil]) (fun x => by first | rfl | simp only [ins_self, ins_ne D (show 4 ≠ 5 by decide), upd_self, e5, hA.me, cond_true, cond_false, List.cons_append, List.nil_append, List.append_nil]) (fun x => rfl) (OpR.appendStr (m := x41) 4 hx42 rfl rfl rfl rfl rfl rfl rfl rfl rfl rfl rfl (fun _ => rfl))
 refine OpsS.cons' true ?_ (fun _ _ _ _ _ _ _ => rfl) ?_
 · intro D env40 hA
   have e4 : D 4 = true := hA.yes 4 _ rfl rfl
   exact OpS.yes (o0 := [.lp b0 .busy none [14, 15] rfA13_0 rfB13_0 [(5, .val (.pointer (some ⟨b2, 0, none⟩))), (3, .nod [.val (.pointer (some ⟨b1, 0, none⟩))]), (2, .nod [(eOP a2), .val (.bool a3), .val (.int .i64 a4)])] 42, .var b1 [.val v3] 123, .var b2 [.val v34] 55, .row v3 (List.map byteD a5) 1 5, .row (env40 4) (List.map byteD x42) 1 5, .var (blk p31) [.sl 5 (List.map e_cell_Cell a1.fCells), .val (.int .i64 a1.fEnd), .val (.bool a1.fHidden)] 68]) (o1 := fun x => [.lp b0 .busy none [14, 15] rfA13_0 rfB13_0 [(5, .val (.pointer (some ⟨b2, 0, none⟩))), (3, .nod [.val (.pointer (some ⟨b1, 0, none⟩))]), (2, .nod [(eOP a2), .val (.bool a3), .val (.int .i64 a4)])] 42, .var b1 [.val v3] 123, .var b2 [.val (env40 4)] 55, .row v3 (List.map byteD a5) 1 5, .row (env40 4) (List.map byteD x42) 1 5, .var (blk p31) [.sl 5 (List.map e_cell_Cell a1.fCells), .val (.int .i64 a1.fEnd), .val (.bool a1.fHidden)] 68]) (d := fun x => .dead) (Want.plain rfl) (by first | rfl | simp only [e4, hA.me, cond_true, cond_false, List.cons_append, List.nil_append, List.append_nil]) (fun x => by first | rfl | simp only [ins_self, ins_ne D (show 5 ≠ 4 by decide), upd_self, upd_ne env40 x (show 5 ≠ 4 by decide), e4, hA.me, cond_true, cond_false, List.cons_append, List.nil_append, List.append_nil]) (fun x => rfl) (OpR.store 2 rfl rfl rfl rfl rfl rfl rfl rfl)
 exact trivial
noncomputable def walk_Range_row_Row_1_3.l1 (a0 : Option NP) (a1 : Bool) (a2 : Int) (a4 : Int) (a6 : List UInt8) (s10 : Int × (List UInt8) × (List walk_frame_damier_row_Row)) : Option (Lp (Int × (List UInt8) × (List walk_frame_damier_row_Row)) (List UInt8)) :=
  if s10.1 < a4 then
    bnd (walk_stack_row_Row_top s10.2.2) fun x19 =>
    bnd (idx s10.2.2 x19) fun x20 =>
    bnd (some x20.fN) fun q21 => match q21 with
      | none =>
        none
      | some z22 =>
        bnd (o_tree_Node_damier_row_Row z22) fun x24 =>
        bnd (if x20.fNext = (x24.fItems.length : Int) then
          bnd (walk_stack_row_Row_forth s10.2.2) fun x29 =>
          some x29.2
        else
          some s10.2.2 : Option (List walk_frame_damier_row_Row)) fun t26 =>
        bnd (walk_stack_row_Row_top t26) fun x31 =>
        bnd (idx t26 x31) fun x32 =>
        bnd (some x32.fN) fun q33 => match q33 with
          | none =>
            none
          | some z34 =>
            bnd (o_tree_Node_damier_row_Row z34) fun x36 =>
            bnd (idx x36.fItems x32.fNext) fun x38 =>
            bnd (grid_Grid_Save_r0_2 s10.1 x38 a0 a1 a2 a6 s10.2.1) fun x39 =>
            some (Lp.next (w64 (s10.1 + 1), x39, (t26.set x31.toNat (⟨x32.fN, x32.fFirst, w64 (x32.fNext + 1)⟩ : walk_frame_damier_row_Row))))
  else
    some (Lp.done s10.2.1)
noncomputable def walk_Range_row_Row_1_3 (a0 : Option NP) (a1 : Bool) (a2 : Int) (a3 : Int) (a4 : Int) (a5 : Option NP) (a6 : List UInt8) : Option (List UInt8) :=
  if a3 = a4 then
    some []
  else
    bnd (tree_Tree_row_Row_Root (⟨a5⟩ : tree_Tree_damier_row_Row)) fun x4 =>
    match x4 with
    | .inl x4 =>
        none
    | .inr x4 =>
        bnd (walk_stack_row_Row_down x4.1 x4.2.1 x4.2.2 0 a3) fun x5 =>
        bnd (loop (walk_Range_row_Row_1_3.l1 a0 a1 a2 a4 a6) (a3, [], x5) : Option (List UInt8)) fun t6 =>
        some t6
set_option maxHeartbeats 4000000 in
theorem walk_Range_row_Row_1_3_c {a0 : Option NP} {a1 : Bool} {a2 : Int} {a3 : Int} {a4 : Int} {a5 : Option NP} {a6 : List UInt8} {b0 : Nat} {b1 : Nat} {b2 : Nat} {b3 : Nat} {b4 : Nat} {b5 : Nat} {v6 : Value} {res : (List UInt8)} (h0 : walk_Range_row_Row_1_3 a0 a1 a2 a3 a4 a5 a6 = some res) : CallF X 44 [.fn (.yield b0) [] [], .val (.pointer (some ⟨b1, 0, none⟩)), .val (.pointer (some ⟨b2, 0, none⟩)), .val (.pointer (some ⟨b3, 0, none⟩))] [.lp b0 .ready none [14, 15] rfA13_0 rfB13_0 [(5, .val (.pointer (some ⟨b5, 0, none⟩))), (3, .nod [.val (.pointer (some ⟨b4, 0, none⟩))]), (2, .nod [(eOP a0), .val (.bool a1), .val (.int .i64 a2)])] 42, .var b1 [.val (.int .i64 a3)] 3, .var b2 [.val (.int .i64 a4)] 3, .var b3 [(eOP a5)] 24, .var b4 [.val v6] 123, .var b5 [.val (.slice none 0 0)] 55, .row v6 (List.map byteD a6) 1 5] (fun x => .tup []) (fun x => [.lp b0 .ready none [14, 15] rfA13_0 rfB13_0 [(5, .val (.pointer (some ⟨b5, 0, none⟩))), (3, .nod [.val (.pointer (some ⟨b4, 0, none⟩))]), (2, .nod [(eOP a0), .val (.bool a1), .val (.int .i64 a2)])] 42, .var b1 [.val (.int .i64 a3)] 3, .var b2 [.val (.int .i64 a4)] 3, .var b3 [(eOP a5)] 24, .var b4 [.val v6] 123, .var b5 [.val (vn x 0)] 55, .row v6 (List.map byteD a6) 1 5, .row (vn x 0) (List.map byteD res) 1 5]) := by
 unfold walk_Range_row_Row_1_3 at h0
 refine CallF.mkG (X := X) rfl Try.func44 rfl rfl Try.ntmps44 rfl rfl ?_
 refine T.seq ?_
 refine aS ?_
 refine TL.op1 (OpR.loadPtr 1 rfl rfl rfl rfl) rfl ?_
 refine TL.op1 (OpR.loadPtr 2 rfl rfl rfl rfl) rfl ?_
 refine aA rfl rfl ?_
 refine TL.nil ?_
 show T X _ _ _
 rcases ite_some h0 with ⟨c1, h0⟩ | ⟨c1, h0⟩
 · refine T.condT rfl (beq_iff_eq.2 c1) ?_
   refine T.ret ?_
   obtain rfl := Option.some.inj h0
   exact PostG.retP (ks := [0, 1, 2, 3, 4, 5, 6, 7]) (Gst.trans (Gst.only [] rfl) (Gst.nilRow (ow := [.lp b0 .ready none [14, 15] rfA13_0 rfB13_0 [(5, .val (.pointer (some ⟨b5, 0, none⟩))), (3, .nod [.val (.pointer (some ⟨b4, 0, none⟩))]), (2, .nod [(eOP a0), .val (.bool a1), .val (.int .i64 a2)])] 42, .var b1 [.val (.int .i64 a3)] 3, .var b2 [.val (.int .i64 a4)] 3, .var b3 [(eOP a5)] 24, .var b4 [.val v6] 123, .var b5 [.val (.slice none 0 0)] 55, .row v6 (List.map byteD a6) 1 5]) 1 5 rfl)) (.tuple #[(.slice none 0 0)]) ResL.nil rfl rfl rfl rfl
 refine T.condF rfl (beq_eq_false_iff_ne.2 c1) ?_
 refine T.skip ?_
 show T X _ _ _
 refine aS ?_
 refine TL.op (OpR.alloc rfl rfl (fun _ => rfl)) rfl (fun p2 => ?_)
 refine TL.nil ?_
 show T X _ _ _
 refine T.seq ?_
 obtain ⟨x4, hx4, h0⟩ := bnd_some h0
 rcases x4 with x4 | x4
 · dsimp only at h0
   exact (by cases h0)
 dsimp only at h0
 obtain ⟨x5, hx5, h0⟩ := bnd_some h0
 refine T.drawS drawsX (fun env3 => [.agg [(eOP a5)], .nod [.sl 1 (List.map eNP x4.1), .sl 3 (List.map e_row_Row x4.2.1), .val (.int .i64 x4.2.2)], .val (.int .i64 a3), .tup []]) (fun D env3 => [.lp b0 .ready none [14, 15] rfA13_0 rfB13_0 [(5, .val (.pointer (some ⟨b5, 0, none⟩))), (3, .nod [.val (.pointer (some ⟨b4, 0, none⟩))]), (2, .nod [(eOP a0), .val (.bool a1), .val (.int .i64 a2)])] 42, .var b1 [.val (.int .i64 a3)] 3, .var b2 [.val (.int .i64 a4)] 3, .var b3 [(eOP a5)] 24, .var b4 [.val v6] 123, .var b5 [.val (.slice none 0 0)] 55, .row v6 (List.map byteD a6) 1 5, (bif D 3 then .var (blk p2) [.val (vn (env3 3) 0)] 111 else .var (blk p2) [.val (.slice none 0 0)] 111)] ++ (bif D 3 then [.row (vn (env3 3) 0) (List.map e_walk_frame_damier_row_Row x5) 3 117] else [])) [0, 1, 0, 7] [0, 1, 2, 5] (fun env3 => [.lp b0 .ready none [14, 15] rfA13_0 rfB13_0 [(5, .val (.pointer (some ⟨b5, 0, none⟩))), (3, .nod [.val (.pointer (some ⟨b4, 0, none⟩))]), (2, .nod [(eOP a0), .val (.bool a1), .val (.int .i64 a2)])] 42, .var b1 [.val (.int .i64 a3)] 3, .var b2 [.val (.int .i64 a4)] 3, .var b3 [(eOP a5)] 24, .var b4 [.val v6] 123, .var b5 [.val (.slice none 0 0)] 55, .row v6 (List.map byteD a6) 1 5, .var (blk p2) [.val (vn (env3 3) 0)] 111, .row (vn (env3 3) 0) (List.map e_walk_frame_damier_row_Row x5) 3 117]) (by decide +kernel) (by decide +kernel) (fun _ => rfl) (fun _ => rfl) ?_ (fun _ => rfl) (fun _ => rfl) ?_
 · refine oS (d := .agg [(eOP a5)]) (fun _ => Want.plain rfl) (fun _ => rfl) (fun _ _ _ => rfl) (fun _ _ => OpR.loadPtr 3 rfl rfl rfl rfl) (fun _ _ _ _ _ _ _ => rfl) ?_
   refine oS (d := .nod [.sl 1 (List.map eNP x4.1), .sl 3 (List.map e_row_Row x4.2.1), .val (.int .i64 x4.2.2)]) (fun _ => Want.plain rfl) (fun _ => rfl) (fun _ _ _ => rfl) (fun _ _ => OpR.call0 fn46 (tree_Tree_row_Row_Root_cx2 hx4) rfl) (fun _ _ _ _ _ _ _ => rfl) ?_
   refine oS (d := .val (.int .i64 a3)) (fun _ => Want.plain rfl) (fun _ => rfl) (fun _ _ _ => rfl) (fun _ _ => OpR.loadPtr 1 rfl rfl rfl rfl) (fun _ _ _ _ _ _ _ => rfl) ?_
   refine OpsS.cons' true ?_ (fun D hA env3 x j hj hD => match j, hj, hD with | 0, _, _ => rfl | 1, _, _ => rfl | 2, _, _ => rfl | 3, hj, _ => absurd rfl hj | _ + 4, _, _ => rfl) ?_
   · intro D env3 hA
     exact OpS.yes (o0 := [.lp b0 .ready none [14, 15] rfA13_0 rfB13_0 [(5, .val (.pointer (some ⟨b5, 0, none⟩))), (3, .nod [.val (.pointer (some ⟨b4, 0, none⟩))]), (2, .nod [(eOP a0), .val (.bool a1), .val (.int .i64 a2)])] 42, .var b1 [.val (.int .i64 a3)] 3, .var b2 [.val (.int .i64 a4)] 3, .var b3 [(eOP a5)] 24, .var b4 [.val v6] 123, .var b5 [.val (.slice none 0 0)] 55, .row v6 (List.map byteD a6) 1 5, .var (blk p2) [.val (.slice none 0 0)] 111]) (o1 := fun x => [.lp b0 .ready none [14, 15] rfA13_0 rfB13_0 [(5, .val (.pointer (some ⟨b5, 0, none⟩))), (3, .nod [.val (.pointer (some ⟨b4, 0, none⟩))]), (2, .nod [(eOP a0), .val (.bool a1), .val (.int .i64 a2)])] 42, .var b1 [.val (.int .i64 a3)] 3, .var b2 [.val (.int .i64 a4)] 3, .var b3 [(eOP a5)] 24, .var b4 [.val v6] 123, .var b5 [.val (.slice none 0 0)] 55, .row v6 (List.map byteD a6) 1 5, .var (blk p2) [.val (vn x 0)] 111, .row (vn x 0) (List.map e_walk_frame_damier_row_Row x5) 3 117]) (d := fun x => .tup []) (Want.plain rfl) (by first | rfl | simp only [hA.me, cond_true, cond_false, List.cons_append, List.nil_append, List.append_nil]) (fun x => by first | rfl | simp only [ins_self, upd_self, hA.me, cond_true, cond_false, List.cons_append, List.nil_append, List.append_nil]) (fun x => rfl) (OpR.call [7] fn45 (walk_stack_row_Row_down_c hx5) rfl rfl rfl (fun _ => rfl))
   exact trivial
 intro env3
 show T X _ _ _
 refine aS ?_
 refine TL.op1 (OpR.loadPtr 1 rfl rfl rfl rfl) rfl ?_
 refine aA rfl rfl ?_
 refine TL.nil ?_
 show T X _ _ _
 obtain ⟨t6, ht6, h0⟩ := bnd_some h0
 refine T.cutN (fun S' => ∃ y7 : Value, S' = ⟨[], [.lp b0 .ready none [14, 15] rfA13_0 rfB13_0 [(5, .val (.pointer (some ⟨b5, 0, none⟩))), (3, .nod [.val (.pointer (some ⟨b4, 0, none⟩))]), (2, .nod [(eOP a0), .val (.bool a1), .val (.int .i64 a2)])] 42, .var b1 [.val (.int .i64 a3)] 3, .var b2 [.val (.int .i64 a4)] 3, .var b3 [(eOP a5)] 24, .var b4 [.val v6] 123, .var b5 [.val y7] 55, .row v6 (List.map byteD a6) 1 5, .row y7 (List.map byteD t6) 1 5], 62⟩) (fun _ _ g ⟨h, S', ds, g', r⟩ => ⟨h, S', ds, Gst.trans g g', r⟩) ?_ ?_
 rotate_left
 · rintro _ ⟨y7, rfl⟩
   obtain rfl := Option.some.inj h0
   exact PostG.finP (ks := [0, 1, 2, 3, 4, 5, 6, 7]) (Gst.only [] rfl) (.tuple #[y7]) ResL.nil rfl rfl rfl rfl
 refine T.block ?_
 obtain ⟨n11, n16⟩ := loop_some ht6
 refine T.loop (fun n S' => ∃ S'', Gst S' S'' ∧ ∃ y8 : Value, ∃ y9 : Value, ∃ s10 : Int × (List UInt8) × (List walk_frame_damier_row_Row), S'' = ⟨[(6, .val (.int .i64 s10.1)), (5, .val (.pointer (some ⟨(blk p2), 0, none⟩))), (2, .val (.pointer (some ⟨b2, 0, none⟩))), (0, .fn (.yield b0) [] [])], [.lp b0 .ready none [14, 15] rfA13_0 rfB13_0 [(5, .val (.pointer (some ⟨b5, 0, none⟩))), (3, .nod [.val (.pointer (some ⟨b4, 0, none⟩))]), (2, .nod [(eOP a0), .val (.bool a1), .val (.int .i64 a2)])] 42, .var b1 [.val (.int .i64 a3)] 3, .var b2 [.val (.int .i64 a4)] 3, .var b3 [(eOP a5)] 24, .var b4 [.val v6] 123, .var b5 [.val y8] 55, .row v6 (List.map byteD a6) 1 5, .var (blk p2) [.val y9] 111, .row y8 (List.map byteD s10.2.1) 1 5, .row y9 (List.map e_walk_frame_damier_row_Row s10.2.2) 3 117], 62⟩ ∧ iter (walk_Range_row_Row_1_3.l1 a0 a1 a2 a4 a6) n s10 = some t6) n11 ?_ ?_
 · exact ⟨_, Gst.trans (Gst.only [0, 2, 5, 6] rfl) (Gst.trans (Gst.nilRow (ow := [.lp b0 .ready none [14, 15] rfA13_0 rfB13_0 [(5, .val (.pointer (some ⟨b5, 0, none⟩))), (3, .nod [.val (.pointer (some ⟨b4, 0, none⟩))]), (2, .nod [(eOP a0), .val (.bool a1), .val (.int .i64 a2)])] 42, .var b1 [.val (.int .i64 a3)] 3, .var b2 [.val (.int .i64 a4)] 3, .var b3 [(eOP a5)] 24, .var b4 [.val v6] 123, .var b5 [.val (.slice none 0 0)] 55, .row v6 (List.map byteD a6) 1 5, .var (blk p2) [.val (vn (env3 3) 0)] 111, .row (vn (env3 3) 0) (List.map e_walk_frame_damier_row_Row x5) 3 117]) 1 5 rfl) (Gst.pick [0, 1, 2, 3, 4, 5, 6, 7, 9, 8] rfl rfl)), (.slice none 0 0), (vn (env3 3) 0), (a3, [], x5), rfl, n16⟩
 rintro n11 _ ⟨_, g, y8, y9, s10, rfl, i15⟩
 refine T.ghost g ?_
 obtain ⟨m12, q13, rfl, q14, i15⟩ := iter_succ i15
 unfold walk_Range_row_Row_1_3.l1 at q14
 refine T.seq ?_
 refine aS ?_
 refine aA rfl rfl ?_
 refine TL.op1 (OpR.loadPtr 2 rfl rfl rfl rfl) rfl ?_
 refine aA rfl rfl ?_
 refine TL.nil ?_
 show T X _ _ _
 rcases ite_some q14 with ⟨c18, q14⟩ | ⟨c18, q14⟩
 rotate_left
 · refine T.condF rfl (decide_eq_false c18) ?_
   refine T.exit ?_
   obtain rfl := Option.some.inj q14
   obtain rfl : _ = _ := i15
   exact ⟨_, Gst.trans (Gst.only [] rfl) (Gst.pick [0, 1, 2, 3, 4, 5, 6, 8] rfl rfl), y8, rfl⟩
 refine T.condT rfl (decide_eq_true c18) ?_
 refine T.skip ?_
 show T X _ _ _
 refine T.seq ?_
 refine T.block ?_
 refine T.seq ?_
 refine aS ?_
 obtain ⟨x19, hx19, q14⟩ := bnd_some q14
 refine TL.op1 (OpR.call [7, 9] fn47 (walk_stack_row_Row_top_c hx19) rfl rfl rfl (fun _ => rfl)) rfl ?_
 refine aA rfl rfl ?_
 refine TL.nil ?_
 show T X _ _ _
 refine T.seq ?_
 obtain ⟨x20, hx20, q14⟩ := bnd_some q14
 obtain ⟨q21, hq21, q14⟩ := bnd_some q14
 rcases q21 with _ | z22
 · dsimp only at q14
   exact (by cases q14)
 dsimp only at q14
 obtain ⟨x24, hx24, q14⟩ := bnd_some q14
 rw [o_tree_Node_damier_row_Row_eq hx24] at hq21
 refine T.drawQ drawsX [.val (.pointer (some ⟨blk y9, x19.toNat * 3, none⟩)), .val (.pointer (some ⟨blk y9, x19.toNat * 3, none⟩)), .val (.pointer (some ⟨blk y9, x19.toNat * 3 + 2, none⟩)), .val (.int .i64 x20.fNext), .val (.pointer (some ⟨blk y9, x19.toNat * 3, none⟩)), .val (.pointer (some ⟨blk y9, x19.toNat * 3, none⟩)), .val (.pointer (some ⟨blk y9, x19.toNat * 3, none⟩)), .nod [.sl 1 (List.map eNP x24.fKids), .sl 3 (List.map e_row_Row x24.fItems), .val (.int .i64 x24.fN)], .nod [.sl 1 (List.map eNP x24.fKids), .sl 3 (List.map e_row_Row x24.fItems), .val (.int .i64 x24.fN)], .nod [.sl 3 (List.map e_row_Row x24.fItems), .val (.int .i64 x24.fN)], .sl 3 (List.map e_row_Row x24.fItems), .val (.int .i64 (x24.fItems.length : Int)), .val (.bool (x20.fNext == (x24.fItems.length : Int)))] [0, 2, 5, 6, 35] (by decide +kernel) rfl ?_ rfl ?_
 · iterate 3 refine aB rfl rfl rfl ?_
   refine OpsQ.yes (Want.plain rfl) rfl (OpR.rowLoadM (j := x19) e_walk_frame_damier_row_Row 9 hx20 rfl rfl rfl rfl) ?_
   iterate 3 refine aB rfl rfl rfl ?_
   refine OpsQ.yes (Want.plain rfl) rfl (OpR.cast (OpR.rowLoad0M (j := x19) e_walk_frame_damier_row_Row 9 hx20 rfl rfl rfl rfl) (congrArg eOP (Option.some.inj hq21))) ?_
   iterate 3 refine aB rfl rfl rfl ?_
   refine OpsQ.yes (Want.plain rfl) rfl (OpR.cast (OpR.pure rfl) (intE (lenM _ _))) ?_
   refine aB rfl rfl rfl ?_
   exact OpsQ.nil
 show T X _ _ _
 obtain ⟨t26, ht26, q14⟩ := bnd_some q14
 refine T.cutC (fun S' => ∃ y27 : Value, S' = ⟨[(6, .val (.int .i64 s10.1)), (5, .val (.pointer (some ⟨(blk p2), 0, none⟩))), (2, .val (.pointer (some ⟨b2, 0, none⟩))), (0, .fn (.yield b0) [] [])], [.lp b0 .ready none [14, 15] rfA13_0 rfB13_0 [(5, .val (.pointer (some ⟨b5, 0, none⟩))), (3, .nod [.val (.pointer (some ⟨b4, 0, none⟩))]), (2, .nod [(eOP a0), .val (.bool a1), .val (.int .i64 a2)])] 42, .var b1 [.val (.int .i64 a3)] 3, .var b2 [.val (.int .i64 a4)] 3, .var b3 [(eOP a5)] 24, .var b4 [.val v6] 123, .var b5 [.val y8] 55, .row v6 (List.map byteD a6) 1 5, .var (blk p2) [.val y27] 111, .row y8 (List.map byteD s10.2.1) 1 5, .row y27 (List.map e_walk_frame_damier_row_Row t26) 3 117], 62⟩) (fun _ h => h) ?_ ?_
 · rcases ite_some ht26 with ⟨c28, ht26⟩ | ⟨c28, ht26⟩
   rotate_left
   · refine T.condF rfl (beq_eq_false_iff_ne.2 c28) ?_
     refine T.skip ?_
     obtain rfl := Option.some.inj ht26
     exact ⟨_, Gst.only [0, 2, 5, 6] rfl, y9, rfl⟩
   refine T.condT rfl (beq_iff_eq.2 c28) ?_
   refine T.region ?_
   obtain ⟨x29, hx29, ht26⟩ := bnd_some ht26
   refine TL.op (OpR.call [7, 9] fn48 (walk_stack_row_Row_forth_c hx29) rfl rfl rfl (fun _ => rfl)) rfl (fun w30 => ?_)
   refine TL.nil ?_
   obtain rfl := Option.some.inj ht26
   exact ⟨_, Gst.only [0, 2, 5, 6] rfl, (vn w30 0), rfl⟩
 rintro _ ⟨y27, rfl⟩
 show T X _ _ _
 refine aS ?_
 obtain ⟨x31, hx31, q14⟩ := bnd_some q14
 refine TL.op1 (OpR.call [7, 9] fn47 (walk_stack_row_Row_top_c hx31) rfl rfl rfl (fun _ => rfl)) rfl ?_
 refine aA rfl rfl ?_
 refine TL.nil ?_
 show T X _ _ _
 refine T.seq ?_
 refine T.seq ?_
 obtain ⟨x32, hx32, q14⟩ := bnd_some q14
 obtain ⟨q33, hq33, q14⟩ := bnd_some q14
 rcases q33 with _ | z34
 · dsimp only at q14
   exact (by cases q14)
 dsimp only at q14
 obtain ⟨x36, hx36, q14⟩ := bnd_some q14
 rw [o_tree_Node_damier_row_Row_eq hx36] at hq33
 obtain ⟨x38, hx38, q14⟩ := bnd_some q14
 obtain ⟨x39, hx39, q14⟩ := bnd_some q14
 refine T.drawS drawsX (fun env37 => [.fn (.yield b0) [] [], .val (.int .i64 s10.1), .val (.pointer (some ⟨blk y27, x31.toNat * 3, none⟩)), .val (.pointer (some ⟨blk y27, x31.toNat * 3, none⟩)), .val (.pointer (some ⟨blk y27, x31.toNat * 3, none⟩)), .nod [.sl 1 (List.map eNP x36.fKids), .sl 3 (List.map e_row_Row x36.fItems), .val (.int .i64 x36.fN)], .nod [.sl 1 (List.map eNP x36.fKids), .sl 3 (List.map e_row_Row x36.fItems), .val (.int .i64 x36.fN)], .nod [.sl 3 (List.map e_row_Row x36.fItems), .val (.int .i64 x36.fN)], .sl 3 (List.map e_row_Row x36.fItems), .val (.pointer (some ⟨blk y27, x31.toNat * 3, none⟩)), .val (.pointer (some ⟨blk y27, x31.toNat * 3, none⟩)), .val (.pointer (some ⟨blk y27, x31.toNat * 3 + 2, none⟩)), .val (.int .i64 x32.fNext), .nod [.sl 5 (List.map e_cell_Cell x38.fCells), .val (.int .i64 x38.fEnd), .val (.bool x38.fHidden)], .agg [.sl 5 (List.map e_cell_Cell x38.fCells), .val (.int .i64 x38.fEnd), .val (.bool x38.fHidden)], .val (.bool true), .val (.bool false)]) (fun D env37 => [.lp b0 .ready none [14, 15] rfA13_0 rfB13_0 [(5, .val (.pointer (some ⟨b5, 0, none⟩))), (3, .nod [.val (.pointer (some ⟨b4, 0, none⟩))]), (2, .nod [(eOP a0), .val (.bool a1), .val (.int .i64 a2)])] 42, .var b1 [.val (.int .i64 a3)] 3, .var b2 [.val (.int .i64 a4)] 3, .var b3 [(eOP a5)] 24, .var b4 [.val v6] 123, (bif D 15 then .var b5 [.val (vn (env37 15) 0)] 55 else .var b5 [.val y8] 55), .row v6 (List.map byteD a6) 1 5, .var (blk p2) [.val y27] 111, (bif D 15 then .row (vn (env37 15) 0) (List.map byteD x39) 1 5 else .row y8 (List.map byteD s10.2.1) 1 5), .row y27 (List.map e_walk_frame_damier_row_Row t26) 3 117]) [0, 0, 0, 4, 12, 28, 60, 124, 252, 0, 512, 1536, 3584, 8188, 16380, 32767, 65535] [0, 2, 5, 6, 8, 54] (fun env37 => [.lp b0 .ready none [14, 15] rfA13_0 rfB13_0 [(5, .val (.pointer (some ⟨b5, 0, none⟩))), (3, .nod [.val (.pointer (some ⟨b4, 0, none⟩))]), (2, .nod [(eOP a0), .val (.bool a1), .val (.int .i64 a2)])] 42, .var b1 [.val (.int .i64 a3)] 3, .var b2 [.val (.int .i64 a4)] 3, .var b3 [(eOP a5)] 24, .var b4 [.val v6] 123, .var b5 [.val (vn (env37 15) 0)] 55, .row v6 (List.map byteD a6) 1 5, .var (blk p2) [.val y27] 111, .row (vn (env37 15) 0) (List.map byteD x39) 1 5, .row y27 (List.map e_walk_frame_damier_row_Row t26) 3 117]) (by decide +kernel) (by decide +kernel) (fun _ => rfl) (fun _ => rfl) ?_ (fun _ => rfl) (fun _ => rfl) ?_
 rotate_left
 · intro env37
   show T X _ _ _
   refine T.condF rfl rfl ?_
   refine T.skip ?_
   show T X _ _ _
   refine T.region ?_
   iterate 3 refine aA rfl rfl ?_
   refine TL.op1 (OpR.rowLoadM (j := x31) e_walk_frame_damier_row_Row 9 hx32 rfl rfl rfl rfl) rfl ?_
   iterate 3 refine aA rfl rfl ?_
   refine TL.op0 (OpR.rowStoreM (j := x31) e_walk_frame_damier_row_Row (⟨x32.fN, x32.fFirst, w64 (x32.fNext + 1)⟩ : walk_frame_damier_row_Row) 9 hx32 rfl rfl rfl rfl rfl rfl rfl rfl rfl) ?_
   refine TL.nil ?_
   show T X _ _ _
   refine T.region ?_
   iterate 3 refine aA rfl rfl ?_
   refine TL.nil ?_
   obtain rfl := Option.some.inj q14
   exact ⟨m12, Nat.lt_succ_self _, _, Gst.only [0, 2, 5, 6] rfl, (vn (env37 15) 0), y27, (w64 (s10.1 + 1), x39, (t26.set x31.toNat (⟨x32.fN, x32.fFirst, w64 (x32.fNext + 1)⟩ : walk_frame_damier_row_Row))), rfl, i15⟩
 iterate 5 refine aC ?_
 refine oS (d := .nod [.sl 1 (List.map eNP x36.fKids), .sl 3 (List.map e_row_Row x36.fItems), .val (.int .i64 x36.fN)]) (fun _ => Want.plain rfl) (fun _ => rfl) (fun _ _ _ => rfl) (fun _ _ => OpR.cast (OpR.rowLoad0M (j := x31) e_walk_frame_damier_row_Row 9 hx32 rfl rfl rfl rfl) (congrArg eOP (Option.some.inj hq33))) (fun _ _ _ _ _ _ _ => rfl) ?_
 iterate 6 refine aC ?_
 refine oS (d := .val (.int .i64 x32.fNext)) (fun _ => Want.plain rfl) (fun _ => rfl) (fun _ _ _ => rfl) (fun _ _ => OpR.rowLoadM (j := x31) e_walk_frame_damier_row_Row 9 hx32 rfl rfl rfl rfl) (fun _ _ _ _ _ _ _ => rfl) ?_
 refine oS (d := .nod [.sl 5 (List.map e_cell_Cell x38.fCells), .val (.int .i64 x38.fEnd), .val (.bool x38.fHidden)]) (fun _ => Want.plain rfl) (fun _ => rfl) (fun _ _ _ => rfl) (fun _ _ => OpR.indexM e_row_Row hx38 rfl rfl rfl rfl rfl) (fun _ _ _ _ _ _ _ => rfl) ?_
 refine aC ?_
 refine OpsS.cons' true ?_ (fun D hA env37 x j hj hD => match j, hj, hD with | 0, _, _ => rfl | 1, _, _ => rfl | 2, _, _ => rfl | 3, _, _ => rfl | 4, _, _ => rfl | 5, _, _ => rfl | 6, _, _ => rfl | 7, _, _ => rfl | 8, _, _ => rfl | 9, _, _ => rfl | 10, _, _ => rfl | 11, _, _ => rfl | 12, _, _ => rfl | 13, _, _ => rfl | 14, _, _ => rfl | 15, hj, _ => absurd rfl hj | 16, _, _ => rfl | _ + 17, _, _ => rfl) ?_
 · intro D env37 hA
   exact OpS.yes (o0 := [.lp b0 .ready none [14, 15] rfA13_0 rfB13_0 [(5, .val (.pointer (some ⟨b5, 0, none⟩))), (3, .nod [.val (.pointer (some ⟨b4, 0, none⟩))]), (2, .nod [(eOP a0), .val (.bool a1), .val (.int .i64 a2)])] 42, .var b1 [.val (.int .i64 a3)] 3, .var b2 [.val (.int .i64 a4)] 3, .var b3 [(eOP a5)] 24, .var b4 [.val v6] 123, .var b5 [.val y8] 55, .row v6 (List.map byteD a6) 1 5, .var (blk p2) [.val y27] 111, .row y8 (List.map byteD s10.2.1) 1 5, .row y27 (List.map e_walk_frame_damier_row_Row t26) 3 117]) (o1 := fun x => [.lp b0 .ready none [14, 15] rfA13_0 rfB13_0 [(5, .val (.pointer (some ⟨b5, 0, none⟩))), (3, .nod [.val (.pointer (some ⟨b4, 0, none⟩))]), (2, .nod [(eOP a0), .val (.bool a1), .val (.int .i64 a2)])] 42, .var b1 [.val (.int .i64 a3)] 3, .var b2 [.val (.int .i64 a4)] 3, .var b3 [(eOP a5)] 24, .var b4 [.val v6] 123, .var b5 [.val (vn x 0)] 55, .row v6 (List.map byteD a6) 1 5, .var (blk p2) [.val y27] 111, .row (vn x 0) (List.map byteD x39) 1 5, .row y27 (List.map e_walk_frame_damier_row_Row t26) 3 117]) (d := fun x => .val (.bool true)) (Want.plain rfl) (by first | rfl | simp only [hA.me, cond_true, cond_false, List.cons_append, List.nil_append, List.append_nil]) (fun x => by first | rfl | simp only [ins_self, upd_self, hA.me, cond_true, cond_false, List.cons_append, List.nil_append, List.append_nil]) (fun x => rfl) (OpR.callY [0, 4, 5, 6, 8] rfl (grid_Grid_Save_r0_2_c hx39) rfl rfl rfl (fun _ => rfl))
 refine aC ?_
 exact trivial
noncomputable def grid_Grid_Save (a0 : grid_Grid) (a1 : List UInt8) : Option (List UInt8) :=
  bnd (grid_Grid_Len a0) fun x3 =>
  bnd (walk_Range_row_Row a0.fRows 0 x3) fun x4 =>
  bnd (walk_Range_row_Row_1_3 a0.fRows.fRoot a0.fTail a0.fEnd x4.1 x4.2.1 x4.2.2 a1) fun x6 =>
  some x6
set_option maxHeartbeats 4000000 in
theorem grid_Grid_Save_c {a0 : grid_Grid} {a1 : List UInt8} {b0 : Nat} {v1 : Value} {res : (List UInt8)} (h0 : grid_Grid_Save a0 a1 = some res) : CallF X 13 [.agg [(eOP a0.fRows.fRoot), .val (.bool a0.fTail), .val (.int .i64 a0.fEnd)], .val (.pointer (some ⟨b0, 0, none⟩))] [.var b0 [.val v1] 123, .row v1 (List.map byteD a1) 1 5] (fun x => .sl 1 (List.map byteD res)) (fun x => [.var b0 [.val v1] 123, .row v1 (List.map byteD a1) 1 5]) := by
 unfold grid_Grid_Save at h0
 refine CallF.mkG (X := X) rfl Try.func13 rfl rfl Try.ntmps13 rfl rfl ?_
 refine aS ?_
 refine TL.op1 (OpR.boxImm rfl rfl) rfl ?_
 refine TL.op1 (OpR.boxImm rfl rfl) rfl ?_
 refine aA rfl rfl ?_
 refine TL.nil ?_
 show T X _ _ _
 refine aS ?_
 refine TL.op (OpR.alloc rfl rfl (fun _ => rfl)) rfl (fun p1 => ?_)
 refine TL.nil ?_
 show T X _ _ _
 refine T.seq ?_
 refine T.seq ?_
 obtain ⟨x3, hx3, h0⟩ := bnd_some h0
 obtain ⟨x4, hx4, h0⟩ := bnd_some h0
 refine T.drawS drawsX (fun env2 => [.nod [(eOP a0.fRows.fRoot), .val (.bool a0.fTail), .val (.int .i64 a0.fEnd)], .agg [(eOP a0.fRows.fRoot)], .agg [(eOP a0.fRows.fRoot), .val (.bool a0.fTail), .val (.int .i64 a0.fEnd)], .val (.int .i64 x3), .fn (.func 44) [] [.val (.pointer (some ⟨(blk (vn (env2 4) 0)), 0, none⟩)), .val (.pointer (some ⟨(blk (vn (env2 4) 1)), 0, none⟩)), .val (.pointer (some ⟨(blk (vn (env2 4) 2)), 0, none⟩))]]) (fun D env2 => [.var b0 [.val v1] 123, .row v1 (List.map byteD a1) 1 5, .var (blk p1) [.val (.slice none 0 0)] 55] ++ (bif D 4 then [.var (blk (vn (env2 4) 0)) [.val (.int .i64 x4.1)] 3] else []) ++ (bif D 4 then [.var (blk (vn (env2 4) 1)) [.val (.int .i64 x4.2.1)] 3] else []) ++ (bif D 4 then [.var (blk (vn (env2 4) 2)) [(eOP x4.2.2)] 24] else [])) [0, 1, 0, 4, 15] [2, 3, 4, 5, 13] (fun env2 => [.var b0 [.val v1] 123, .row v1 (List.map byteD a1) 1 5, .var (blk p1) [.val (.slice none 0 0)] 55, .var (blk (vn (env2 4) 0)) [.val (.int .i64 x4.1)] 3, .var (blk (vn (env2 4) 1)) [.val (.int .i64 x4.2.1)] 3, .var (blk (vn (env2 4) 2)) [(eOP x4.2.2)] 24]) (by decide +kernel) (by decide +kernel) (fun _ => rfl) (fun _ => rfl) ?_ (fun _ => rfl) (fun _ => rfl) ?_
 rotate_left
 · intro env2
   show T X _ _ _
   refine T.block ?_
   obtain ⟨x6, hx6, h0⟩ := bnd_some h0
   refine T.rangeN (A := rfA13_0) (B := rfB13_0) [2, 3, 5] [3, 4, 5, 0, 2, 1] (.inl rfl) rfl rfl rfl rfl rfl fn44 rfl rfl (fun l5 => (walk_Range_row_Row_1_3_c hx6)) (fun _ => rfl) (fun w7 => ?_)
   show T X _ _ _
   refine aS ?_
   refine TL.op1 (OpR.loadPtr 2 rfl rfl rfl rfl) rfl ?_
   refine aA rfl rfl ?_
   refine TL.nil ?_
   show T X _ _ _
   refine T.ret ?_
   obtain rfl := Option.some.inj h0
   exact PostG.retP (ks := [0, 1]) (Gst.trans (Gst.only [4] rfl) (Gst.trans (Gst.freezeRow 6 rfl rfl (ReS.cons (Re.base .all) ReS.nil) (ReO.same (ReO.same (ReO.var (ReL.cons (Re.base .all) ReL.nil) (ReO.same (ReO.same (ReO.same (ReO.same ReO.nil)))))))) (Gst.pick [0, 1] rfl rfl))) undef (ResL.cons (ResV.tmp rfl) ResL.nil) rfl rfl rfl rfl
 iterate 3 refine aC ?_
 refine oS (d := .val (.int .i64 x3)) (fun _ => Want.plain rfl) (fun _ => rfl) (fun _ _ _ => rfl) (fun _ _ => OpR.call0 fn16 (grid_Grid_Len_c hx3) rfl) (fun _ _ _ _ _ _ _ => rfl) ?_
 refine OpsS.cons' true ?_ (fun D hA env2 x j hj hD => match j, hj, hD with | 0, _, _ => rfl | 1, _, _ => rfl | 2, _, _ => rfl | 3, _, _ => rfl | 4, hj, _ => absurd rfl hj | _ + 5, _, _ => rfl) ?_
 · intro D env2 hA
   exact OpS.yes (o0 := [.var b0 [.val v1] 123, .row v1 (List.map byteD a1) 1 5, .var (blk p1) [.val (.slice none 0 0)] 55]) (o1 := fun x => [.var b0 [.val v1] 123, .row v1 (List.map byteD a1) 1 5, .var (blk p1) [.val (.slice none 0 0)] 55, .var (blk (vn x 0)) [.val (.int .i64 x4.1)] 3, .var (blk (vn x 1)) [.val (.int .i64 x4.2.1)] 3, .var (blk (vn x 2)) [(eOP x4.2.2)] 24]) (d := fun x => .fn (.func 44) [] [.val (.pointer (some ⟨(blk (vn x 0)), 0, none⟩)), .val (.pointer (some ⟨(blk (vn x 1)), 0, none⟩)), .val (.pointer (some ⟨(blk (vn x 2)), 0, none⟩))]) (Want.plain rfl) (by first | rfl | simp only [hA.me, cond_true, cond_false, List.cons_append, List.nil_append, List.append_nil]) (fun x => by first | rfl | simp only [ins_self, upd_self, hA.me, cond_true, cond_false, List.cons_append, List.nil_append, List.append_nil]) (fun x => rfl) (OpR.call [] fn17 (walk_Range_row_Row_c hx4) rfl rfl rfl (fun _ => rfl))
 exact trivial
noncomputable def cols_Even_1 (a0 : row_Row) (a1 : Int) : Option Bool :=
  bnd (row_Row_Len a0) fun x2 =>
  some (!(x2 == a1))
set_option maxHeartbeats 4000000 in
theorem cols_Even_1_c {a0 : row_Row} {a1 : Int} {b0 : Nat} {res : Bool} (h0 : cols_Even_1 a0 a1 = some res) : CallF X 38 [.agg [.sl 5 (List.map e_cell_Cell a0.fCells), .val (.int .i64 a0.fEnd), .val (.bool a0.fHidden)], .val (.pointer (some ⟨b0, 0, none⟩))] [.var b0 [.val (.int .i64 a1)] 3] (fun x => .val (.bool res)) (fun x => [.var b0 [.val (.int .i64 a1)] 3]) := by
 unfold cols_Even_1 at h0
 refine CallF.mkG (X := X) rfl Try.func38 rfl rfl Try.ntmps38 rfl rfl ?_
 refine aS ?_
 refine TL.op1 (OpR.boxImm rfl rfl) rfl ?_
 refine aA rfl rfl ?_
 refine TL.nil ?_
 show T X _ _ _
 refine T.seq ?_
 obtain ⟨x2, hx2, h0⟩ := bnd_some h0
 refine T.drawQ drawsX [.agg [.sl 5 (List.map e_cell_Cell a0.fCells), .val (.int .i64 a0.fEnd), .val (.bool a0.fHidden)], .val (.int .i64 x2), .val (.int .i64 a1), .val (.bool (!(x2 == a1))), .val (.bool (!(x2 == a1)))] [3] (by decide +kernel) rfl ?_ rfl ?_
 rotate_left
 · show T X _ _ _
   refine T.ret ?_
   obtain rfl := Option.some.inj h0
   exact PostG.retP (ks := [0]) (Gst.only [3] rfl) undef (ResL.cons (ResV.tmp rfl) ResL.nil) rfl rfl rfl rfl
 refine aB rfl rfl rfl ?_
 refine OpsQ.yes (Want.plain rfl) rfl (OpR.call0 fn33 (row_Row_Len_c hx2) rfl) ?_
 refine OpsQ.yes (Want.plain rfl) rfl (OpR.loadPtr 0 rfl rfl rfl rfl) ?_
 iterate 2 refine aB rfl rfl rfl ?_
 exact OpsQ.nil
noncomputable def walk_Index_row_Row_r0 (a0 : Int) (a1 : row_Row) (a2 : Int) (a3 : Int) : Option (Int ⊕ Unit) :=
  bnd (cols_Even_1 a1 a2) fun x32 =>
  if x32 = true then
    some (Sum.inl a0)
  else
    some (Sum.inr ())
set_option maxHeartbeats 4000000 in
theorem walk_Index_row_Row_r0_c {a0 : Int} {a1 : row_Row} {a2 : Int} {a3 : Int} {b0 : Nat} {b1 : Nat} {b2 : Nat} {res : Int ⊕ Unit} (h0 : walk_Index_row_Row_r0 a0 a1 a2 a3 = some res) : RoundF X b0 [.val (.int .i64 a0), .agg [.sl 5 (List.map e_cell_Cell a1.fCells), .val (.int .i64 a1.fEnd), .val (.bool a1.fHidden)]] [.lp b0 .ready none [14, 15] rfA37_0 rfB37_0 [(6, .val (.pointer (some ⟨b2, 0, none⟩))), (5, .nod [.fn (.func 38) [] [.val (.pointer (some ⟨b1, 0, none⟩))]])] 20, .var b1 [.val (.int .i64 a2)] 3, .var b2 [.val (.int .i64 a3)] 3] (fun x => (match res with | .inl res => .val (.bool false) | .inr res => .val (.bool true))) (fun x => (match res with | .inl res => [.lp b0 .done (some (.ret)) [14, 15] rfA37_0 rfB37_0 [(6, .val (.pointer (some ⟨b2, 0, none⟩))), (5, .nod [.fn (.func 38) [] [.val (.pointer (some ⟨b1, 0, none⟩))]])] 20, .var b1 [.val (.int .i64 a2)] 3, .var b2 [.val (.int .i64 res)] 3] | .inr res => [.lp b0 .ready none [14, 15] rfA37_0 rfB37_0 [(6, .val (.pointer (some ⟨b2, 0, none⟩))), (5, .nod [.fn (.func 38) [] [.val (.pointer (some ⟨b1, 0, none⟩))]])] 20, .var b1 [.val (.int .i64 a2)] 3, .var b2 [.val (.int .i64 a3)] 3])) := by
 unfold walk_Index_row_Row_r0 at h0
 refine RoundF.mk (X := X) rfl rfl rfl ?_
 refine aS ?_
 refine aA rfl rfl ?_
 refine TL.nil ?_
 show T (X.inR b0) _ _ _
 refine T.region ?_
 refine TL.op (OpR.alloc rfl rfl (fun _ => rfl)) rfl (fun p31 => ?_)
 refine TL.op0 (OpR.store 3 rfl rfl rfl rfl rfl rfl rfl rfl) ?_
 refine TL.nil ?_
 refine RoundA.mk ?_
 refine T.block ?_
 refine aS ?_
 refine aA rfl rfl ?_
 refine TL.op1 (OpR.loadPtr 3 rfl rfl rfl rfl) rfl ?_
 obtain ⟨x32, hx32, h0⟩ := bnd_some h0
 refine TL.op1 (OpR.callV [1] rfl fn38 (cols_Even_1_c hx32) rfl rfl rfl (fun _ => rfl)) rfl ?_
 refine TL.nil ?_
 show T (X.inR b0) _ _ _
 rcases ite_some h0 with ⟨c33, h0⟩ | ⟨c33, h0⟩
 rotate_left
 · refine T.condF rfl (eq_false_of_ne_true c33) ?_
   refine T.skip ?_
   obtain rfl := Option.some.inj h0
   exact RoundG.mk (ks := [0, 1, 2]) (Gst.trans (Gst.only [] rfl) (Gst.pick [0, 1, 2] rfl rfl)) undef rfl rfl rfl rfl rfl
 refine T.condT rfl (c33) ?_
 refine aS ?_
 refine aA rfl rfl ?_
 refine TL.op0 (OpR.store 2 rfl rfl rfl rfl rfl rfl rfl rfl) ?_
 refine TL.nil ?_
 show T (X.inR b0) _ _ _
 refine T.ret ?_
 obtain rfl := Option.some.inj h0
 exact RoundG.mk (ks := [0, 1, 2]) (Gst.trans (Gst.only [] rfl) (Gst.pick [0, 1, 2] rfl rfl)) undef rfl rfl rfl rfl rfl
theorem walk_Index_row_Row_r0_cx1 {a0 : Int} {a1 : row_Row} {a2 : Int} {a3 : Int} {b0 : Nat} {b1 : Nat} {b2 : Nat} {res : Int} (h0 : walk_Index_row_Row_r0 a0 a1 a2 a3 = some (Sum.inl res)) : RoundF X b0 [.val (.int .i64 a0), .agg [.sl 5 (List.map e_cell_Cell a1.fCells), .val (.int .i64 a1.fEnd), .val (.bool a1.fHidden)]] [.lp b0 .ready none [14, 15] rfA37_0 rfB37_0 [(6, .val (.pointer (some ⟨b2, 0, none⟩))), (5, .nod [.fn (.func 38) [] [.val (.pointer (some ⟨b1, 0, none⟩))]])] 20, .var b1 [.val (.int .i64 a2)] 3, .var b2 [.val (.int .i64 a3)] 3] (fun x => .val (.bool false)) (fun x => [.lp b0 .done (some (.ret)) [14, 15] rfA37_0 rfB37_0 [(6, .val (.pointer (some ⟨b2, 0, none⟩))), (5, .nod [.fn (.func 38) [] [.val (.pointer (some ⟨b1, 0, none⟩))]])] 20, .var b1 [.val (.int .i64 a2)] 3, .var b2 [.val (.int .i64 res)] 3]) := walk_Index_row_Row_r0_c h0
theorem walk_Index_row_Row_r0_cx2 {a0 : Int} {a1 : row_Row} {a2 : Int} {a3 : Int} {b0 : Nat} {b1 : Nat} {b2 : Nat} {res : Unit} (h0 : walk_Index_row_Row_r0 a0 a1 a2 a3 = some (Sum.inr res)) : RoundF X b0 [.val (.int .i64 a0), .agg [.sl 5 (List.map e_cell_Cell a1.fCells), .val (.int .i64 a1.fEnd), .val (.bool a1.fHidden)]] [.lp b0 .ready none [14, 15] rfA37_0 rfB37_0 [(6, .val (.pointer (some ⟨b2, 0, none⟩))), (5, .nod [.fn (.func 38) [] [.val (.pointer (some ⟨b1, 0, none⟩))]])] 20, .var b1 [.val (.int .i64 a2)] 3, .var b2 [.val (.int .i64 a3)] 3] (fun x => .val (.bool true)) (fun x => [.lp b0 .ready none [14, 15] rfA37_0 rfB37_0 [(6, .val (.pointer (some ⟨b2, 0, none⟩))), (5, .nod [.fn (.func 38) [] [.val (.pointer (some ⟨b1, 0, none⟩))]])] 20, .var b1 [.val (.int .i64 a2)] 3, .var b2 [.val (.int .i64 a3)] 3]) := walk_Index_row_Row_r0_c h0
noncomputable def walk_Range_row_Row_1_4.l1 (a1 : Int) (a3 : Int) (a4 : Int) (s9 : Int × (List walk_frame_damier_row_Row)) : Option (Lp (Int × (List walk_frame_damier_row_Row)) (Ex Unit (Unit ⊕ Int))) :=
  if s9.1 < a1 then
    bnd (walk_stack_row_Row_top s9.2) fun x18 =>
    bnd (idx s9.2 x18) fun x19 =>
    bnd (some x19.fN) fun q20 => match q20 with
      | none =>
        none
      | some z21 =>
        bnd (o_tree_Node_damier_row_Row z21) fun x23 =>
        bnd (if x19.fNext = (x23.fItems.length : Int) then
          bnd (walk_stack_row_Row_forth s9.2) fun x28 =>
          some x28.2
        else
          some s9.2 : Option (List walk_frame_damier_row_Row)) fun t25 =>
        bnd (walk_stack_row_Row_top t25) fun x30 =>
        bnd (idx t25 x30) fun x31 =>
        bnd (some x31.fN) fun q32 => match q32 with
          | none =>
            none
          | some z33 =>
            bnd (o_tree_Node_damier_row_Row z33) fun x35 =>
            bnd (idx x35.fItems x31.fNext) fun x37 =>
            bnd (walk_Index_row_Row_r0 s9.1 x37 a3 a4) fun x38 =>
            match x38 with
            | .inl x38 =>
                some (Lp.done (Ex.ret (Sum.inr x38)))
            | .inr x38 =>
                some (Lp.next (w64 (s9.1 + 1), (t25.set x30.toNat (⟨x31.fN, x31.fFirst, w64 (x31.fNext + 1)⟩ : walk_frame_damier_row_Row))))
  else
    some (Lp.done (Ex.brk ()))
noncomputable def walk_Range_row_Row_1_4 (a0 : Int) (a1 : Int) (a2 : Option NP) (a3 : Int) (a4 : Int) : Option (Unit ⊕ Int) :=
  if a0 = a1 then
    some (Sum.inl ())
  else
    bnd (tree_Tree_row_Row_Root (⟨a2⟩ : tree_Tree_damier_row_Row)) fun x4 =>
    match x4 with
    | .inl x4 =>
        none
    | .inr x4 =>
        bnd (walk_stack_row_Row_down x4.1 x4.2.1 x4.2.2 0 a0) fun x5 =>
        bnd (loop (walk_Range_row_Row_1_4.l1 a1 a3 a4) (a0, x5) : Option (Ex Unit (Unit ⊕ Int))) fun t6 => match t6 with
          | .brk u7 =>
            some (Sum.inl ())
          | .ret u7 => some u7
set_option maxHeartbeats 4000000 in
theorem walk_Range_row_Row_1_4_c {a0 : Int} {a1 : Int} {a2 : Option NP} {a3 : Int} {a4 : Int} {b0 : Nat} {b1 : Nat} {b2 : Nat} {b3 : Nat} {b4 : Nat} {b5 : Nat} {res : Unit ⊕ Int} (h0 : walk_Range_row_Row_1_4 a0 a1 a2 a3 a4 = some res) : CallF X 44 [.fn (.yield b0) [] [], .val (.pointer (some ⟨b1, 0, none⟩)), .val (.pointer (some ⟨b2, 0, none⟩)), .val (.pointer (some ⟨b3, 0, none⟩))] [.lp b0 .ready none [14, 15] rfA37_0 rfB37_0 [(6, .val (.pointer (some ⟨b5, 0, none⟩))), (5, .nod [.fn (.func 38) [] [.val (.pointer (some ⟨b4, 0, none⟩))]])] 20, .var b1 [.val (.int .i64 a0)] 3, .var b2 [.val (.int .i64 a1)] 3, .var b3 [(eOP a2)] 24, .var b4 [.val (.int .i64 a3)] 3, .var b5 [.val (.int .i64 a4)] 3] (fun x => (match res with | .inl res => .tup [] | .inr res => .tup [])) (fun x => (match res with | .inl res => [.lp b0 .ready none [14, 15] rfA37_0 rfB37_0 [(6, .val (.pointer (some ⟨b5, 0, none⟩))), (5, .nod [.fn (.func 38) [] [.val (.pointer (some ⟨b4, 0, none⟩))]])] 20, .var b1 [.val (.int .i64 a0)] 3, .var b2 [.val (.int .i64 a1)] 3, .var b3 [(eOP a2)] 24, .var b4 [.val (.int .i64 a3)] 3, .var b5 [.val (.int .i64 a4)] 3] | .inr res => [.lp b0 .done (some (.ret)) [14, 15] rfA37_0 rfB37_0 [(6, .val (.pointer (some ⟨b5, 0, none⟩))), (5, .nod [.fn (.func 38) [] [.val (.pointer (some ⟨b4, 0, none⟩))]])] 20, .var b1 [.val (.int .i64 a0)] 3, .var b2 [.val (.int .i64 a1)] 3, .var b3 [(eOP a2)] 24, .var b4 [.val (.int .i64 a3)] 3, .var b5 [.val (.int .i64 res)] 3])) := by
 unfold walk_Range_row_Row_1_4 at h0
 refine CallF.mkG (X := X) rfl Try.func44 rfl rfl Try.ntmps44 rfl rfl ?_
 refine T.seq ?_
 refine aS ?_
 refine TL.op1 (OpR.loadPtr 1 rfl rfl rfl rfl) rfl ?_
 refine TL.op1 (OpR.loadPtr 2 rfl rfl rfl rfl) rfl ?_
 refine aA rfl rfl ?_
 refine TL.nil ?_
 show T X _ _ _
 rcases ite_some h0 with ⟨c1, h0⟩ | ⟨c1, h0⟩
 · refine T.condT rfl (beq_iff_eq.2 c1) ?_
   refine T.ret ?_
   obtain rfl := Option.some.inj h0
   exact PostG.retP (ks := [0, 1, 2, 3, 4, 5]) (Gst.only [] rfl) undef ResL.nil rfl rfl rfl rfl
 refine T.condF rfl (beq_eq_false_iff_ne.2 c1) ?_
 refine T.skip ?_
 show T X _ _ _
 refine aS ?_
 refine TL.op (OpR.alloc rfl rfl (fun _ => rfl)) rfl (fun p2 => ?_)
 refine TL.nil ?_
 show T X _ _ _
 refine T.seq ?_
 obtain ⟨x4, hx4, h0⟩ := bnd_some h0
 rcases x4 with x4 | x4
 · dsimp only at h0
   exact (by cases h0)
 dsimp only at h0
 obtain ⟨x5, hx5, h0⟩ := bnd_some h0
 refine T.drawS drawsX (fun env3 => [.agg [(eOP a2)], .nod [.sl 1 (List.map eNP x4.1), .sl 3 (List.map e_row_Row x4.2.1), .val (.int .i64 x4.2.2)], .val (.int .i64 a0), .tup []]) (fun D env3 => [.lp b0 .ready none [14, 15] rfA37_0 rfB37_0 [(6, .val (.pointer (some ⟨b5, 0, none⟩))), (5, .nod [.fn (.func 38) [] [.val (.pointer (some ⟨b4, 0, none⟩))]])] 20, .var b1 [.val (.int .i64 a0)] 3, .var b2 [.val (.int .i64 a1)] 3, .var b3 [(eOP a2)] 24, .var b4 [.val (.int .i64 a3)] 3, .var b5 [.val (.int .i64 a4)] 3, (bif D 3 then .var (blk p2) [.val (vn (env3 3) 0)] 111 else .var (blk p2) [.val (.slice none 0 0)] 111)] ++ (bif D 3 then [.row (vn (env3 3) 0) (List.map e_walk_frame_damier_row_Row x5) 3 117] else [])) [0, 1, 0, 7] [0, 1, 2, 5] (fun env3 => [.lp b0 .ready none [14, 15] rfA37_0 rfB37_0 [(6, .val (.pointer (some ⟨b5, 0, none⟩))), (5, .nod [.fn (.func 38) [] [.val (.pointer (some ⟨b4, 0, none⟩))]])] 20, .var b1 [.val (.int .i64 a0)] 3, .var b2 [.val (.int .i64 a1)] 3, .var b3 [(eOP a2)] 24, .var b4 [.val (.int .i64 a3)] 3, .var b5 [.val (.int .i64 a4)] 3, .var (blk p2) [.val (vn (env3 3) 0)] 111, .row (vn (env3 3) 0) (List.map e_walk_frame_damier_row_Row x5) 3 117]) (by decide +kernel) (by decide +kernel) (fun _ => rfl) (fun _ => rfl) ?_ (fun _ => rfl) (fun _ => rfl) ?_
 · refine oS (d := .agg [(eOP a2)]) (fun _ => Want.plain rfl) (fun _ => rfl) (fun _ _ _ => rfl) (fun _ _ => OpR.loadPtr 3 rfl rfl rfl rfl) (fun _ _ _ _ _ _ _ => rfl) ?_
   refine oS (d := .nod [.sl 1 (List.map eNP x4.1), .sl 3 (List.map e_row_Row x4.2.1), .val (.int .i64 x4.2.2)]) (fun _ => Want.plain rfl) (fun _ => rfl) (fun _ _ _ => rfl) (fun _ _ => OpR.call0 fn46 (tree_Tree_row_Row_Root_cx2 hx4) rfl) (fun _ _ _ _ _ _ _ => rfl) ?_
   refine oS (d := .val (.int .i64 a0)) (fun _ => Want.plain rfl) (fun _ => rfl) (fun _ _ _ => rfl) (fun _ _ => OpR.loadPtr 1 rfl rfl rfl rfl) (fun _ _ _ _ _ _ _ => rfl) ?_
   refine OpsS.cons' true ?_ (fun D hA env3 x j hj hD => match j, hj, hD with | 0, _, _ => rfl | 1, _, _ => rfl | 2, _, _ => rfl | 3, hj, _ => absurd rfl hj | _ + 4, _, _ => rfl) ?_
   · intro D env3 hA
     exact OpS.yes (o0 := [.lp b0 .ready none [14, 15] rfA37_0 rfB37_0 [(6, .val (.pointer (some ⟨b5, 0, none⟩))), (5, .nod [.fn (.func 38) [] [.val (.pointer (some ⟨b4, 0, none⟩))]])] 20, .var b1 [.val (.int .i64 a0)] 3, .var b2 [.val (.int .i64 a1)] 3, .var b3 [(eOP a2)] 24, .var b4 [.val (.int .i64 a3)] 3, .var b5 [.val (.int .i64 a4)] 3, .var (blk p2) [.val (.slice none 0 0)] 111]) (o1 := fun x => [.lp b0 .ready none [14, 15] rfA37_0 rfB37_0 [(6, .val (.pointer (some ⟨b5, 0, none⟩))), (5, .nod [.fn (.func 38) [] [.val (.pointer (some ⟨b4, 0, none⟩))]])] 20, .var b1 [.val (.int .i64 a0)] 3, .var b2 [.val (.int .i64 a1)] 3, .var b3 [(eOP a2)] 24, .var b4 [.val (.int .i64 a3)] 3, .var b5 [.val (.int .i64 a4)] 3, .var (blk p2) [.val (vn x 0)] 111, .row (vn x 0) (List.map e_walk_frame_damier_row_Row x5) 3 117]) (d := fun x => .tup []) (Want.plain rfl) (by first | rfl | simp only [hA.me, cond_true, cond_false, List.cons_append, List.nil_append, List.append_nil]) (fun x => by first | rfl | simp only [ins_self, upd_self, hA.me, cond_true, cond_false, List.cons_append, List.nil_append, List.append_nil]) (fun x => rfl) (OpR.call [6] fn45 (walk_stack_row_Row_down_c hx5) rfl rfl rfl (fun _ => rfl))
   exact trivial
 intro env3
 show T X _ _ _
 refine aS ?_
 refine TL.op1 (OpR.loadPtr 1 rfl rfl rfl rfl) rfl ?_
 refine aA rfl rfl ?_
 refine TL.nil ?_
 show T X _ _ _
 obtain ⟨t6, ht6, h0⟩ := bnd_some h0
 refine T.cutN (fun S' => ∃ u7, t6 = Ex.brk u7 ∧ S' = ⟨[], [.lp b0 .ready none [14, 15] rfA37_0 rfB37_0 [(6, .val (.pointer (some ⟨b5, 0, none⟩))), (5, .nod [.fn (.func 38) [] [.val (.pointer (some ⟨b4, 0, none⟩))]])] 20, .var b1 [.val (.int .i64 a0)] 3, .var b2 [.val (.int .i64 a1)] 3, .var b3 [(eOP a2)] 24, .var b4 [.val (.int .i64 a3)] 3, .var b5 [.val (.int .i64 a4)] 3], 62⟩) (fun _ _ g ⟨h, S', ds, g', r⟩ => ⟨h, S', ds, Gst.trans g g', r⟩) ?_ ?_
 rotate_left
 · rintro _ ⟨u7, rfl, rfl⟩
   obtain rfl := Option.some.inj h0
   exact PostG.finP (ks := [0, 1, 2, 3, 4, 5]) (Gst.only [] rfl) undef ResL.nil rfl rfl rfl rfl
 refine T.block ?_
 obtain ⟨n10, n15⟩ := loop_some ht6
 refine T.loop (fun n S' => ∃ S'', Gst S' S'' ∧ ∃ y8 : Value, ∃ s9 : Int × (List walk_frame_damier_row_Row), S'' = ⟨[(6, .val (.int .i64 s9.1)), (5, .val (.pointer (some ⟨(blk p2), 0, none⟩))), (2, .val (.pointer (some ⟨b2, 0, none⟩))), (0, .fn (.yield b0) [] [])], [.lp b0 .ready none [14, 15] rfA37_0 rfB37_0 [(6, .val (.pointer (some ⟨b5, 0, none⟩))), (5, .nod [.fn (.func 38) [] [.val (.pointer (some ⟨b4, 0, none⟩))]])] 20, .var b1 [.val (.int .i64 a0)] 3, .var b2 [.val (.int .i64 a1)] 3, .var b3 [(eOP a2)] 24, .var b4 [.val (.int .i64 a3)] 3, .var b5 [.val (.int .i64 a4)] 3, .var (blk p2) [.val y8] 111, .row y8 (List.map e_walk_frame_damier_row_Row s9.2) 3 117], 62⟩ ∧ iter (walk_Range_row_Row_1_4.l1 a1 a3 a4) n s9 = some t6) n10 ?_ ?_
 · exact ⟨_, Gst.only [0, 2, 5, 6] rfl, (vn (env3 3) 0), (a0, x5), rfl, n15⟩
 rintro n10 _ ⟨_, g, y8, s9, rfl, i14⟩
 refine T.ghost g ?_
 obtain ⟨m11, q12, rfl, q13, i14⟩ := iter_succ i14
 unfold walk_Range_row_Row_1_4.l1 at q13
 refine T.seq ?_
 refine aS ?_
 refine aA rfl rfl ?_
 refine TL.op1 (OpR.loadPtr 2 rfl rfl rfl rfl) rfl ?_
 refine aA rfl rfl ?_
 refine TL.nil ?_
 show T X _ _ _
 rcases ite_some q13 with ⟨c17, q13⟩ | ⟨c17, q13⟩
 rotate_left
 · refine T.condF rfl (decide_eq_false c17) ?_
   refine T.exit ?_
   obtain rfl := Option.some.inj q13
   obtain rfl : _ = _ := i14
   exact ⟨_, Gst.trans (Gst.only [] rfl) (Gst.pick [0, 1, 2, 3, 4, 5] rfl rfl), _, rfl, rfl⟩
 refine T.condT rfl (decide_eq_true c17) ?_
 refine T.skip ?_
 show T X _ _ _
 refine T.seq ?_
 refine T.block ?_
 refine T.seq ?_
 refine aS ?_
 obtain ⟨x18, hx18, q13⟩ := bnd_some q13
 refine TL.op1 (OpR.call [6, 7] fn47 (walk_stack_row_Row_top_c hx18) rfl rfl rfl (fun _ => rfl)) rfl ?_
 refine aA rfl rfl ?_
 refine TL.nil ?_
 show T X _ _ _
 refine T.seq ?_
 obtain ⟨x19, hx19, q13⟩ := bnd_some q13
 obtain ⟨q20, hq20, q13⟩ := bnd_some q13
 rcases q20 with _ | z21
 · dsimp only at q13
   exact (by cases q13)
 dsimp only at q13
 obtain ⟨x23, hx23, q13⟩ := bnd_some q13
 rw [o_tree_Node_damier_row_Row_eq hx23] at hq20
 refine T.drawQ drawsX [.val (.pointer (some ⟨blk y8, x18.toNat * 3, none⟩)), .val (.pointer (some ⟨blk y8, x18.toNat * 3, none⟩)), .val (.pointer (some ⟨blk y8, x18.toNat * 3 + 2, none⟩)), .val (.int .i64 x19.fNext), .val (.pointer (some ⟨blk y8, x18.toNat * 3, none⟩)), .val (.pointer (some ⟨blk y8, x18.toNat * 3, none⟩)), .val (.pointer (some ⟨blk y8, x18.toNat * 3, none⟩)), .nod [.sl 1 (List.map eNP x23.fKids), .sl 3 (List.map e_row_Row x23.fItems), .val (.int .i64 x23.fN)], .nod [.sl 1 (List.map eNP x23.fKids), .sl 3 (List.map e_row_Row x23.fItems), .val (.int .i64 x23.fN)], .nod [.sl 3 (List.map e_row_Row x23.fItems), .val (.int .i64 x23.fN)], .sl 3 (List.map e_row_Row x23.fItems), .val (.int .i64 (x23.fItems.length : Int)), .val (.bool (x19.fNext == (x23.fItems.length : Int)))] [0, 2, 5, 6, 35] (by decide +kernel) rfl ?_ rfl ?_
 · iterate 3 refine aB rfl rfl rfl ?_
   refine OpsQ.yes (Want.plain rfl) rfl (OpR.rowLoadM (j := x18) e_walk_frame_damier_row_Row 7 hx19 rfl rfl rfl rfl) ?_
   iterate 3 refine aB rfl rfl rfl ?_
   refine OpsQ.yes (Want.plain rfl) rfl (OpR.cast (OpR.rowLoad0M (j := x18) e_walk_frame_damier_row_Row 7 hx19 rfl rfl rfl rfl) (congrArg eOP (Option.some.inj hq20))) ?_
   iterate 3 refine aB rfl rfl rfl ?_
   refine OpsQ.yes (Want.plain rfl) rfl (OpR.cast (OpR.pure rfl) (intE (lenM _ _))) ?_
   refine aB rfl rfl rfl ?_
   exact OpsQ.nil
 show T X _ _ _
 obtain ⟨t25, ht25, q13⟩ := bnd_some q13
 refine T.cutC (fun S' => ∃ y26 : Value, S' = ⟨[(6, .val (.int .i64 s9.1)), (5, .val (.pointer (some ⟨(blk p2), 0, none⟩))), (2, .val (.pointer (some ⟨b2, 0, none⟩))), (0, .fn (.yield b0) [] [])], [.lp b0 .ready none [14, 15] rfA37_0 rfB37_0 [(6, .val (.pointer (some ⟨b5, 0, none⟩))), (5, .nod [.fn (.func 38) [] [.val (.pointer (some ⟨b4, 0, none⟩))]])] 20, .var b1 [.val (.int .i64 a0)] 3, .var b2 [.val (.int .i64 a1)] 3, .var b3 [(eOP a2)] 24, .var b4 [.val (.int .i64 a3)] 3, .var b5 [.val (.int .i64 a4)] 3, .var (blk p2) [.val y26] 111, .row y26 (List.map e_walk_frame_damier_row_Row t25) 3 117], 62⟩) (fun _ h => h) ?_ ?_
 · rcases ite_some ht25 with ⟨c27, ht25⟩ | ⟨c27, ht25⟩
   rotate_left
   · refine T.condF rfl (beq_eq_false_iff_ne.2 c27) ?_
     refine T.skip ?_
     obtain rfl := Option.some.inj ht25
     exact ⟨_, Gst.only [0, 2, 5, 6] rfl, y8, rfl⟩
   refine T.condT rfl (beq_iff_eq.2 c27) ?_
   refine T.region ?_
   obtain ⟨x28, hx28, ht25⟩ := bnd_some ht25
   refine TL.op (OpR.call [6, 7] fn48 (walk_stack_row_Row_forth_c hx28) rfl rfl rfl (fun _ => rfl)) rfl (fun w29 => ?_)
   refine TL.nil ?_
   obtain rfl := Option.some.inj ht25
   exact ⟨_, Gst.only [0, 2, 5, 6] rfl, (vn w29 0), rfl⟩
 rintro _ ⟨y26, rfl⟩
 show T X _ _ _
 refine aS ?_
 obtain ⟨x30, hx30, q13⟩ := bnd_some q13
 refine TL.op1 (OpR.call [6, 7] fn47 (walk_stack_row_Row_top_c hx30) rfl rfl rfl (fun _ => rfl)) rfl ?_
 refine aA rfl rfl ?_
 refine TL.nil ?_
 show T X _ _ _
 refine T.seq ?_
 refine T.seq ?_
 obtain ⟨x31, hx31, q13⟩ := bnd_some q13
 obtain ⟨q32, hq32, q13⟩ := bnd_some q13
 rcases q32 with _ | z33
 · dsimp only at q13
   exact (by cases q13)
 dsimp only at q13
 obtain ⟨x35, hx35, q13⟩ := bnd_some q13
 rw [o_tree_Node_damier_row_Row_eq hx35] at hq32
 obtain ⟨x37, hx37, q13⟩ := bnd_some q13
 obtain ⟨x38, hx38, q13⟩ := bnd_some q13
 rcases x38 with x38 | x38
 rotate_left
 · dsimp only at q13
   refine T.drawQ drawsX [.fn (.yield b0) [] [], .val (.int .i64 s9.1), .val (.pointer (some ⟨blk y26, x30.toNat * 3, none⟩)), .val (.pointer (some ⟨blk y26, x30.toNat * 3, none⟩)), .val (.pointer (some ⟨blk y26, x30.toNat * 3, none⟩)), .nod [.sl 1 (List.map eNP x35.fKids), .sl 3 (List.map e_row_Row x35.fItems), .val (.int .i64 x35.fN)], .nod [.sl 1 (List.map eNP x35.fKids), .sl 3 (List.map e_row_Row x35.fItems), .val (.int .i64 x35.fN)], .nod [.sl 3 (List.map e_row_Row x35.fItems), .val (.int .i64 x35.fN)], .sl 3 (List.map e_row_Row x35.fItems), .val (.pointer (some ⟨blk y26, x30.toNat * 3, none⟩)), .val (.pointer (some ⟨blk y26, x30.toNat * 3, none⟩)), .val (.pointer (some ⟨blk y26, x30.toNat * 3 + 2, none⟩)), .val (.int .i64 x31.fNext), .nod [.sl 5 (List.map e_cell_Cell x37.fCells), .val (.int .i64 x37.fEnd), .val (.bool x37.fHidden)], .agg [.sl 5 (List.map e_cell_Cell x37.fCells), .val (.int .i64 x37.fEnd), .val (.bool x37.fHidden)], .val (.bool true), .val (.bool false)] [0, 2, 5, 6, 8, 54] (by decide +kernel) rfl ?_ rfl ?_
   rotate_left
   · show T X _ _ _
     refine T.condF rfl rfl ?_
     refine T.skip ?_
     show T X _ _ _
     refine T.region ?_
     iterate 3 refine aA rfl rfl ?_
     refine TL.op1 (OpR.rowLoadM (j := x30) e_walk_frame_damier_row_Row 7 hx31 rfl rfl rfl rfl) rfl ?_
     iterate 3 refine aA rfl rfl ?_
     refine TL.op0 (OpR.rowStoreM (j := x30) e_walk_frame_damier_row_Row (⟨x31.fN, x31.fFirst, w64 (x31.fNext + 1)⟩ : walk_frame_damier_row_Row) 7 hx31 rfl rfl rfl rfl rfl rfl rfl rfl rfl) ?_
     refine TL.nil ?_
     show T X _ _ _
     refine T.region ?_
     iterate 3 refine aA rfl rfl ?_
     refine TL.nil ?_
     obtain rfl := Option.some.inj q13
     exact ⟨m11, Nat.lt_succ_self _, _, Gst.only [0, 2, 5, 6] rfl, y26, (w64 (s9.1 + 1), (t25.set x30.toNat (⟨x31.fN, x31.fFirst, w64 (x31.fNext + 1)⟩ : walk_frame_damier_row_Row))), rfl, i14⟩
   iterate 5 refine aB rfl rfl rfl ?_
   refine OpsQ.yes (Want.plain rfl) rfl (OpR.cast (OpR.rowLoad0M (j := x30) e_walk_frame_damier_row_Row 7 hx31 rfl rfl rfl rfl) (congrArg eOP (Option.some.inj hq32))) ?_
   iterate 6 refine aB rfl rfl rfl ?_
   refine OpsQ.yes (Want.plain rfl) rfl (OpR.rowLoadM (j := x30) e_walk_frame_damier_row_Row 7 hx31 rfl rfl rfl rfl) ?_
   refine OpsQ.yes (Want.plain rfl) rfl (OpR.indexM e_row_Row hx37 rfl rfl rfl rfl rfl) ?_
   refine aB rfl rfl rfl ?_
   refine OpsQ.yes (Want.plain rfl) rfl (OpR.callY [0, 4, 5] rfl (walk_Index_row_Row_r0_cx2 hx38) rfl rfl rfl (fun _ => rfl)) ?_
   refine aB rfl rfl rfl ?_
   exact OpsQ.nil
 dsimp only at q13
 refine T.drawS drawsX (fun env36 => [.fn (.yield b0) [] [], .val (.int .i64 s9.1), .val (.pointer (some ⟨blk y26, x30.toNat * 3, none⟩)), .val (.pointer (some ⟨blk y26, x30.toNat * 3, none⟩)), .val (.pointer (some ⟨blk y26, x30.toNat * 3, none⟩)), .nod [.sl 1 (List.map eNP x35.fKids), .sl 3 (List.map e_row_Row x35.fItems), .val (.int .i64 x35.fN)], .nod [.sl 1 (List.map eNP x35.fKids), .sl 3 (List.map e_row_Row x35.fItems), .val (.int .i64 x35.fN)], .nod [.sl 3 (List.map e_row_Row x35.fItems), .val (.int .i64 x35.fN)], .sl 3 (List.map e_row_Row x35.fItems), .val (.pointer (some ⟨blk y26, x30.toNat * 3, none⟩)), .val (.pointer (some ⟨blk y26, x30.toNat * 3, none⟩)), .val (.pointer (some ⟨blk y26, x30.toNat * 3 + 2, none⟩)), .val (.int .i64 x31.fNext), .nod [.sl 5 (List.map e_cell_Cell x37.fCells), .val (.int .i64 x37.fEnd), .val (.bool x37.fHidden)], .agg [.sl 5 (List.map e_cell_Cell x37.fCells), .val (.int .i64 x37.fEnd), .val (.bool x37.fHidden)], .val (.bool false), .val (.bool true)]) (fun D env36 => [(bif D 15 then .lp b0 .done (some (.ret)) [14, 15] rfA37_0 rfB37_0 [(6, .val (.pointer (some ⟨b5, 0, none⟩))), (5, .nod [.fn (.func 38) [] [.val (.pointer (some ⟨b4, 0, none⟩))]])] 20 else .lp b0 .ready none [14, 15] rfA37_0 rfB37_0 [(6, .val (.pointer (some ⟨b5, 0, none⟩))), (5, .nod [.fn (.func 38) [] [.val (.pointer (some ⟨b4, 0, none⟩))]])] 20), .var b1 [.val (.int .i64 a0)] 3, .var b2 [.val (.int .i64 a1)] 3, .var b3 [(eOP a2)] 24, .var b4 [.val (.int .i64 a3)] 3, (bif D 15 then .var b5 [.val (.int .i64 x38)] 3 else .var b5 [.val (.int .i64 a4)] 3), .var (blk p2) [.val y26] 111, .row y26 (List.map e_walk_frame_damier_row_Row t25) 3 117]) [0, 0, 0, 4, 12, 28, 60, 124, 252, 0, 512, 1536, 3584, 8188, 16380, 32767, 65535] [0, 2, 5, 6, 8, 54] (fun env36 => [.lp b0 .done (some (.ret)) [14, 15] rfA37_0 rfB37_0 [(6, .val (.pointer (some ⟨b5, 0, none⟩))), (5, .nod [.fn (.func 38) [] [.val (.pointer (some ⟨b4, 0, none⟩))]])] 20, .var b1 [.val (.int .i64 a0)] 3, .var b2 [.val (.int .i64 a1)] 3, .var b3 [(eOP a2)] 24, .var b4 [.val (.int .i64 a3)] 3, .var b5 [.val (.int .i64 x38)] 3, .var (blk p2) [.val y26] 111, .row y26 (List.map e_walk_frame_damier_row_Row t25) 3 117]) (by decide +kernel) (by decide +kernel) (fun _ => rfl) (fun _ => rfl) ?_ (fun _ => rfl) (fun _ => rfl) ?_
 rotate_left
 · intro env36
   show T X _ _ _
   refine T.condT rfl rfl ?_
   refine T.ret ?_
   obtain rfl := Option.some.inj q13
   obtain rfl : _ = _ := i14
   obtain rfl := Option.some.inj h0
   exact PostG.retP (ks := [0, 1, 2, 3, 4, 5]) (Gst.trans (Gst.only [] rfl) (Gst.pick [0, 1, 2, 3, 4, 5] rfl rfl)) undef ResL.nil rfl rfl rfl rfl
 iterate 5 refine aC ?_
 refine oS (d := .nod [.sl 1 (List.map eNP x35.fKids), .sl 3 (List.map e_row_Row x35.fItems), .val (.int .i64 x35.fN)]) (fun _ => Want.plain rfl) (fun _ => rfl) (fun _ _ _ => rfl) (fun _ _ => OpR.cast (OpR.rowLoad0M (j := x30) e_walk_frame_damier_row_Row 7 hx31 rfl rfl rfl rfl) (congrArg eOP (Option.some.inj hq32))) (fun _ _ _ _ _ _ _ => rfl) ?_
 iterate 6 refine aC ?_
 refine oS (d := .val (.int .i64 x31.fNext)) (fun _ => Want.plain rfl) (fun _ => rfl) (fun _ _ _ => rfl) (fun _ _ => OpR.rowLoadM (j := x30) e_walk_frame_damier_row_Row 7 hx31 rfl rfl rfl rfl) (fun _ _ _ _ _ _ _ => rfl) ?_
 refine oS (d := .nod [.sl 5 (List.map e_cell_Cell x37.fCells), .val (.int .i64 x37.fEnd), .val (.bool x37.fHidden)]) (fun _ => Want.plain rfl) (fun _ => rfl) (fun _ _ _ => rfl) (fun _ _ => OpR.indexM e_row_Row hx37 rfl rfl rfl rfl rfl) (fun _ _ _ _ _ _ _ => rfl) ?_
 refine aC ?_
 refine OpsS.cons' true ?_ (fun _ _ _ _ _ _ _ => rfl) ?_
 · intro D env36 hA
   exact OpS.yes (o0 := [.lp b0 .ready none [14, 15] rfA37_0 rfB37_0 [(6, .val (.pointer (some ⟨b5, 0, none⟩))), (5, .nod [.fn (.func 38) [] [.val (.pointer (some ⟨b4, 0, none⟩))]])] 20, .var b1 [.val (.int .i64 a0)] 3, .var b2 [.val (.int .i64 a1)] 3, .var b3 [(eOP a2)] 24, .var b4 [.val (.int .i64 a3)] 3, .var b5 [.val (.int .i64 a4)] 3, .var (blk p2) [.val y26] 111, .row y26 (List.map e_walk_frame_damier_row_Row t25) 3 117]) (o1 := fun x => [.lp b0 .done (some (.ret)) [14, 15] rfA37_0 rfB37_0 [(6, .val (.pointer (some ⟨b5, 0, none⟩))), (5, .nod [.fn (.func 38) [] [.val (.pointer (some ⟨b4, 0, none⟩))]])] 20, .var b1 [.val (.int .i64 a0)] 3, .var b2 [.val (.int .i64 a1)] 3, .var b3 [(eOP a2)] 24, .var b4 [.val (.int .i64 a3)] 3, .var b5 [.val (.int .i64 x38)] 3, .var (blk p2) [.val y26] 111, .row y26 (List.map e_walk_frame_damier_row_Row t25) 3 117]) (d := fun x => .val (.bool false)) (Want.plain rfl) (by first | rfl | simp only [hA.me, cond_true, cond_false, List.cons_append, List.nil_append, List.append_nil]) (fun x => by first | rfl | simp only [ins_self, upd_self, hA.me, cond_true, cond_false, List.cons_append, List.nil_append, List.append_nil]) (fun x => rfl) (OpR.callY [0, 4, 5] rfl (walk_Index_row_Row_r0_cx1 hx38) rfl rfl rfl (fun _ => rfl))
 refine aC ?_
 exact trivial
theorem walk_Range_row_Row_1_4_cx1 {a0 : Int} {a1 : Int} {a2 : Option NP} {a3 : Int} {a4 : Int} {b0 : Nat} {b1 : Nat} {b2 : Nat} {b3 : Nat} {b4 : Nat} {b5 : Nat} {res : Unit} (h0 : walk_Range_row_Row_1_4 a0 a1 a2 a3 a4 = some (Sum.inl res)) : CallF X 44 [.fn (.yield b0) [] [], .val (.pointer (some ⟨b1, 0, none⟩)), .val (.pointer (some ⟨b2, 0, none⟩)), .val (.pointer (some ⟨b3, 0, none⟩))] [.lp b0 .ready none [14, 15] rfA37_0 rfB37_0 [(6, .val (.pointer (some ⟨b5, 0, none⟩))), (5, .nod [.fn (.func 38) [] [.val (.pointer (some ⟨b4, 0, none⟩))]])] 20, .var b1 [.val (.int .i64 a0)] 3, .var b2 [.val (.int .i64 a1)] 3, .var b3 [(eOP a2)] 24, .var b4 [.val (.int .i64 a3)] 3, .var b5 [.val (.int .i64 a4)] 3] (fun x => .tup []) (fun x => [.lp b0 .ready none [14, 15] rfA37_0 rfB37_0 [(6, .val (.pointer (some ⟨b5, 0, none⟩))), (5, .nod [.fn (.func 38) [] [.val (.pointer (some ⟨b4, 0, none⟩))]])] 20, .var b1 [.val (.int .i64 a0)] 3, .var b2 [.val (.int .i64 a1)] 3, .var b3 [(eOP a2)] 24, .var b4 [.val (.int .i64 a3)] 3, .var b5 [.val (.int .i64 a4)] 3]) := walk_Range_row_Row_1_4_c h0
theorem walk_Range_row_Row_1_4_cx2 {a0 : Int} {a1 : Int} {a2 : Option NP} {a3 : Int} {a4 : Int} {b0 : Nat} {b1 : Nat} {b2 : Nat} {b3 : Nat} {b4 : Nat} {b5 : Nat} {res : Int} (h0 : walk_Range_row_Row_1_4 a0 a1 a2 a3 a4 = some (Sum.inr res)) : CallF X 44 [.fn (.yield b0) [] [], .val (.pointer (some ⟨b1, 0, none⟩)), .val (.pointer (some ⟨b2, 0, none⟩)), .val (.pointer (some ⟨b3, 0, none⟩))] [.lp b0 .ready none [14, 15] rfA37_0 rfB37_0 [(6, .val (.pointer (some ⟨b5, 0, none⟩))), (5, .nod [.fn (.func 38) [] [.val (.pointer (some ⟨b4, 0, none⟩))]])] 20, .var b1 [.val (.int .i64 a0)] 3, .var b2 [.val (.int .i64 a1)] 3, .var b3 [(eOP a2)] 24, .var b4 [.val (.int .i64 a3)] 3, .var b5 [.val (.int .i64 a4)] 3] (fun x => .tup []) (fun x => [.lp b0 .done (some (.ret)) [14, 15] rfA37_0 rfB37_0 [(6, .val (.pointer (some ⟨b5, 0, none⟩))), (5, .nod [.fn (.func 38) [] [.val (.pointer (some ⟨b4, 0, none⟩))]])] 20, .var b1 [.val (.int .i64 a0)] 3, .var b2 [.val (.int .i64 a1)] 3, .var b3 [(eOP a2)] 24, .var b4 [.val (.int .i64 a3)] 3, .var b5 [.val (.int .i64 res)] 3]) := walk_Range_row_Row_1_4_c h0
noncomputable def walk_Index_row_Row (a0 : tree_Tree_damier_row_Row) (a1 : Int) (a2 : Int) : Option Int :=
  bnd (tree_Tree_row_Row_Len a0) fun x3 =>
  bnd (walk_Range_row_Row a0 a1 x3) fun x4 =>
  bnd (walk_Range_row_Row_1_4 x4.1 x4.2.1 x4.2.2 a2 0) fun x6 =>
  match x6 with
  | .inl x6 =>
      some (-1)
  | .inr x6 =>
      some x6
set_option maxHeartbeats 4000000 in
theorem walk_Index_row_Row_c {a0 : tree_Tree_damier_row_Row} {a1 : Int} {a2 : Int} {b0 : Nat} {res : Int} (h0 : walk_Index_row_Row a0 a1 a2 = some res) : CallF X 37 [.agg [(eOP a0.fRoot)], .val (.int .i64 a1), .fn (.func 38) [] [.val (.pointer (some ⟨b0, 0, none⟩))]] [.var b0 [.val (.int .i64 a2)] 3] (fun x => .val (.int .i64 res)) (fun x => [.var b0 [.val (.int .i64 a2)] 3]) := by
 unfold walk_Index_row_Row at h0
 refine CallF.mkG (X := X) rfl Try.func37 rfl rfl Try.ntmps37 rfl rfl ?_
 refine aS ?_
 refine TL.op1 (OpR.boxImm rfl rfl) rfl ?_
 refine TL.op1 (OpR.boxImm rfl rfl) rfl ?_
 refine TL.op (OpR.alloc rfl rfl (fun _ => rfl)) rfl (fun p1 => ?_)
 refine TL.nil ?_
 show T X _ _ _
 refine T.seq ?_
 refine T.seq ?_
 obtain ⟨x3, hx3, h0⟩ := bnd_some h0
 obtain ⟨x4, hx4, h0⟩ := bnd_some h0
 refine T.drawS drawsX (fun env2 => [.agg [(eOP a0.fRoot)], .val (.int .i64 a1), .agg [(eOP a0.fRoot)], .val (.int .i64 x3), .fn (.func 44) [] [.val (.pointer (some ⟨(blk (vn (env2 4) 0)), 0, none⟩)), .val (.pointer (some ⟨(blk (vn (env2 4) 1)), 0, none⟩)), .val (.pointer (some ⟨(blk (vn (env2 4) 2)), 0, none⟩))]]) (fun D env2 => [.var b0 [.val (.int .i64 a2)] 3, .var (blk p1) [.val (.int .i64 0)] 3] ++ (bif D 4 then [.var (blk (vn (env2 4) 0)) [.val (.int .i64 x4.1)] 3] else []) ++ (bif D 4 then [.var (blk (vn (env2 4) 1)) [.val (.int .i64 x4.2.1)] 3] else []) ++ (bif D 4 then [.var (blk (vn (env2 4) 2)) [(eOP x4.2.2)] 24] else [])) [0, 0, 0, 4, 15] [5, 6, 13] (fun env2 => [.var b0 [.val (.int .i64 a2)] 3, .var (blk p1) [.val (.int .i64 0)] 3, .var (blk (vn (env2 4) 0)) [.val (.int .i64 x4.1)] 3, .var (blk (vn (env2 4) 1)) [.val (.int .i64 x4.2.1)] 3, .var (blk (vn (env2 4) 2)) [(eOP x4.2.2)] 24]) (by decide +kernel) (by decide +kernel) (fun _ => rfl) (fun _ => rfl) ?_ (fun _ => rfl) (fun _ => rfl) ?_
 rotate_left
 · intro env2
   show T X _ _ _
   refine T.block ?_
   obtain ⟨x6, hx6, h0⟩ := bnd_some h0
   rcases x6 with x6 | x6
   rotate_left
   · dsimp only at h0
     refine T.rangeJ (A := rfA37_0) (B := rfB37_0) (.ret) [5, 6] [2, 3, 4, 0, 1] (.inl rfl) rfl rfl rfl rfl rfl fn44 rfl rfl (fun l5 => (walk_Range_row_Row_1_4_cx2 hx6)) (fun _ => rfl) (fun w8 => ?_)
     refine T.ret ?_
     obtain rfl := Option.some.inj h0
     exact PostG.retP (ks := [0]) (Gst.trans (Gst.only [6] rfl) (Gst.pick [0, 1] rfl rfl)) undef (ResL.cons (ResV.var 1 rfl rfl rfl rfl) ResL.nil) rfl rfl rfl rfl
   dsimp only at h0
   refine T.rangeN (A := rfA37_0) (B := rfB37_0) [5, 6] [2, 3, 4, 0, 1] (.inl rfl) rfl rfl rfl rfl rfl fn44 rfl rfl (fun l5 => (walk_Range_row_Row_1_4_cx1 hx6)) (fun _ => rfl) (fun w7 => ?_)
   show T X _ _ _
   refine aS ?_
   refine TL.op0 (OpR.store 1 rfl rfl rfl rfl rfl rfl rfl rfl) ?_
   refine TL.nil ?_
   show T X _ _ _
   refine T.ret ?_
   obtain rfl := Option.some.inj h0
   exact PostG.retP (ks := [0]) (Gst.trans (Gst.only [6] rfl) (Gst.pick [0, 1] rfl rfl)) undef (ResL.cons (ResV.var 1 rfl rfl rfl rfl) ResL.nil) rfl rfl rfl rfl
 iterate 3 refine aC ?_
 refine oS (d := .val (.int .i64 x3)) (fun _ => Want.plain rfl) (fun _ => rfl) (fun _ _ _ => rfl) (fun _ _ => OpR.call0 fn42 (tree_Tree_row_Row_Len_c hx3) rfl) (fun _ _ _ _ _ _ _ => rfl) ?_
 refine OpsS.cons' true ?_ (fun D hA env2 x j hj hD => match j, hj, hD with | 0, _, _ => rfl | 1, _, _ => rfl | 2, _, _ => rfl | 3, _, _ => rfl | 4, hj, _ => absurd rfl hj | _ + 5, _, _ => rfl) ?_
 · intro D env2 hA
   exact OpS.yes (o0 := [.var b0 [.val (.int .i64 a2)] 3, .var (blk p1) [.val (.int .i64 0)] 3]) (o1 := fun x => [.var b0 [.val (.int .i64 a2)] 3, .var (blk p1) [.val (.int .i64 0)] 3, .var (blk (vn x 0)) [.val (.int .i64 x4.1)] 3, .var (blk (vn x 1)) [.val (.int .i64 x4.2.1)] 3, .var (blk (vn x 2)) [(eOP x4.2.2)] 24]) (d := fun x => .fn (.func 44) [] [.val (.pointer (some ⟨(blk (vn x 0)), 0, none⟩)), .val (.pointer (some ⟨(blk (vn x 1)), 0, none⟩)), .val (.pointer (some ⟨(blk (vn x 2)), 0, none⟩))]) (Want.plain rfl) (by first | rfl | simp only [hA.me, cond_true, cond_false, List.cons_append, List.nil_append, List.append_nil]) (fun x => by first | rfl | simp only [ins_self, upd_self, hA.me, cond_true, cond_false, List.cons_append, List.nil_append, List.append_nil]) (fun x => rfl) (OpR.call [] fn17 (walk_Range_row_Row_c hx4) rfl rfl rfl (fun _ => rfl))
 exact trivial
noncomputable def cols_Even (a0 : grid_Grid) : Option Bool :=
  bnd (grid_Grid_Width a0) fun x1 =>
  bnd (walk_Index_row_Row a0.fRows 0 x1) fun x3 =>
  some (decide (x3 < 0))
set_option maxHeartbeats 4000000 in
theorem cols_Even_c {a0 : grid_Grid} {res : Bool} (h0 : cols_Even a0 = some res) : CallF X 14 [.agg [(eOP a0.fRows.fRoot), .val (.bool a0.fTail), .val (.int .i64 a0.fEnd)]] [] (fun x => .val (.bool res)) (fun x => []) := by
 unfold cols_Even at h0
 refine CallF.mkG (X := X) rfl Try.func14 rfl rfl Try.ntmps14 rfl rfl ?_
 refine aS ?_
 refine TL.op1 (OpR.boxImm rfl rfl) rfl ?_
 refine aA rfl rfl ?_
 refine TL.nil ?_
 show T X _ _ _
 refine aS ?_
 refine aA rfl rfl ?_
 obtain ⟨x1, hx1, h0⟩ := bnd_some h0
 refine TL.op1 (OpR.call0 fn30 (grid_Grid_Width_c hx1) rfl) rfl ?_
 refine TL.op (OpR.alloc rfl rfl (fun _ => rfl)) rfl (fun p2 => ?_)
 refine TL.op0 (OpR.store 0 rfl rfl rfl rfl rfl rfl rfl rfl) ?_
 refine TL.nil ?_
 show T X _ _ _
 refine aS ?_
 iterate 3 refine aA rfl rfl ?_
 obtain ⟨x3, hx3, h0⟩ := bnd_some h0
 refine TL.op1 (OpR.call [0] fn37 (walk_Index_row_Row_c hx3) rfl rfl rfl (fun _ => rfl)) rfl ?_
 iterate 2 refine aA rfl rfl ?_
 refine TL.nil ?_
 show T X _ _ _
 refine T.ret ?_
 obtain rfl := Option.some.inj h0
 exact PostG.retP (ks := []) (Gst.trans (Gst.only [2] rfl) (Gst.pick [] rfl rfl)) undef (ResL.cons (ResV.tmp rfl) ResL.nil) rfl rfl rfl rfl
noncomputable def slices_Clone_cell_Cell_cell_Cell (a0 : List cell_Cell) : Option (List cell_Cell) :=
  bnd (app 56 [] a0) fun x5 =>
  some x5
set_option maxHeartbeats 4000000 in
theorem slices_Clone_cell_Cell_cell_Cell_c {a0 : List cell_Cell} {res : (List cell_Cell)} (h0 : slices_Clone_cell_Cell_cell_Cell a0 = some res) : CallF X 68 [.sl 5 (List.map e_cell_Cell a0)] [] (fun x => .val (vn x 0)) (fun x => [.row (vn x 0) (List.map e_cell_Cell res) 5 50]) := by
 unfold slices_Clone_cell_Cell_cell_Cell at h0
 refine CallF.mkG (X := X) rfl Try.func68 rfl rfl Try.ntmps68 rfl rfl ?_
 refine aS ?_
 refine aA rfl rfl ?_
 refine TL.nil ?_
 show T X _ _ _
 refine T.seq ?_
 refine aS ?_
 refine aA rfl rfl ?_
 refine TL.isNil rfl rfl rfl rfl (fun b1 e2 => ?_)
 refine TL.nil ?_
 show T X _ _ _
 rcases Bool.eq_false_or_eq_true b1 with c3 | c3
 · obtain rfl := map_nil_of (e2 c3)
   rw [app_nil] at h0
   refine T.condT rfl (c3) ?_
   refine aS ?_
   refine aA rfl rfl ?_
   refine TL.nil ?_
   show T X _ _ _
   refine T.ret ?_
   obtain rfl := Option.some.inj h0
   exact PostG.retP (ks := [0]) (Gst.trans (Gst.only [2] rfl) (Gst.nilRow (ow := []) 5 50 rfl)) (.tuple #[(.slice none 0 0)]) (ResL.cons (ResV.tmp rfl) ResL.nil) rfl rfl rfl rfl
 refine T.condF rfl (c3) ?_
 refine T.skip ?_
 show T X _ _ _
 refine aS ?_
 refine TL.op (OpR.litRow rfl rfl rfl rfl rfl rfl rfl rfl (fun _ => rfl)) rfl (fun v4 => ?_)
 refine aA rfl rfl ?_
 obtain ⟨x5, hx5, h0⟩ := bnd_some h0
 refine TL.op (OpR.appendM (m := a0) e_cell_Cell 0 hx5 rfl rfl rfl rfl rfl rfl rfl rfl rfl (fun _ => rfl)) rfl (fun v6 => ?_)
 refine aA rfl rfl ?_
 refine TL.nil ?_
 show T X _ _ _
 refine T.ret ?_
 obtain rfl := Option.some.inj h0
 exact PostG.retP (ks := [0]) (Gst.only [2] rfl) (.tuple #[v6]) (ResL.cons (ResV.tmp rfl) ResL.nil) rfl rfl rfl rfl
noncomputable def row_Row_Pad.l1 (a1 : Int) (s7 : (List cell_Cell)) : Option (Lp (List cell_Cell) (List cell_Cell)) :=
  if (s7.length : Int) < (if 40 < a1 then 40 else a1) then
    bnd (app 56 s7 [(⟨(⟨[], 0⟩ : piece_Text), (⟨0, 0⟩ : arena_Span), false⟩ : cell_Cell)]) fun x16 =>
    some (Lp.next x16)
  else
    some (Lp.done s7)
noncomputable def row_Row_Pad (a0 : row_Row) (a1 : Int) : Option row_Row :=
  bnd (slices_Clone_cell_Cell_cell_Cell a0.fCells) fun x2 =>
  bnd (loop (row_Row_Pad.l1 a1) x2 : Option (List cell_Cell)) fun t4 =>
  bnd (row_Row_with a0 t4) fun x18 =>
  some (⟨t4, x18.1, x18.2⟩ : row_Row)
set_option maxHeartbeats 4000000 in
theorem row_Row_Pad_c {a0 : row_Row} {a1 : Int} {res : row_Row} (h0 : row_Row_Pad a0 a1 = some res) : CallF X 41 [.agg [.sl 5 (List.map e_cell_Cell a0.fCells), .val (.int .i64 a0.fEnd), .val (.bool a0.fHidden)], .val (.int .i64 a1)] [] (fun x => .agg [.sl 5 (List.map e_cell_Cell res.fCells), .val (.int .i64 res.fEnd), .val (.bool res.fHidden)]) (fun x => []) := by
 unfold row_Row_Pad at h0
 refine CallF.mkG (X := X) rfl Try.func41 rfl rfl Try.ntmps41 rfl rfl ?_
 refine aS ?_
 refine TL.op1 (OpR.boxImm rfl rfl) rfl ?_
 refine TL.op (OpR.alloc rfl rfl (fun _ => rfl)) rfl (fun p1 => ?_)
 refine TL.nil ?_
 show T X _ _ _
 refine aS ?_
 iterate 3 refine aA rfl rfl ?_
 refine TL.nil ?_
 show T X _ _ _
 refine aS ?_
 iterate 2 refine aA rfl rfl ?_
 obtain ⟨x2, hx2, h0⟩ := bnd_some h0
 refine TL.op (OpR.call [] fn68 (slices_Clone_cell_Cell_cell_Cell_c hx2) rfl rfl rfl (fun _ => rfl)) rfl (fun w3 => ?_)
 refine aA rfl rfl ?_
 refine TL.nil ?_
 show T X _ _ _
 refine T.seq ?_
 obtain ⟨t4, ht4, h0⟩ := bnd_some h0
 refine T.cutC (fun S' => ∃ y5 : Value, S' = ⟨[(5, .val y5), (4, .val (.pointer (some ⟨(blk p1), 0, none⟩))), (2, .nod [.sl 5 (List.map e_cell_Cell a0.fCells), .val (.int .i64 a0.fEnd), .val (.bool a0.fHidden)])], [.var (blk p1) [.val (.slice none 0 0), .val (.int .i64 0), .val (.bool false)] 68, .row y5 (List.map e_cell_Cell t4) 5 50], 22⟩) (fun _ h => h) ?_ ?_
 rotate_left
 · rintro _ ⟨y5, rfl⟩
   show T X _ _ _
   refine aS ?_
   iterate 2 refine aA rfl rfl ?_
   obtain ⟨x18, hx18, h0⟩ := bnd_some h0
   refine TL.op1 (OpR.call [1] fn61 (row_Row_with_c hx18) rfl rfl rfl (fun _ => rfl)) rfl ?_
   refine TL.op0 (OpR.store 0 rfl rfl rfl rfl rfl rfl rfl rfl) ?_
   refine TL.nil ?_
   show T X _ _ _
   refine T.ret ?_
   obtain rfl := Option.some.inj h0
   exact PostG.retP (ks := []) (Gst.trans (Gst.only [4] rfl) (Gst.trans (Gst.freezeRow 1 rfl rfl (ReS.cons Re.refl ReS.nil) (ReO.var (ReL.cons (Re.base .all) (ReL.cons Re.refl (ReL.cons Re.refl ReL.nil))) (ReO.same ReO.nil))) (Gst.pick [0] rfl rfl))) undef (ResL.cons (ResV.var 0 rfl rfl rfl rfl) ResL.nil) rfl rfl rfl rfl
 refine T.block ?_
 obtain ⟨n8, n13⟩ := loop_some ht4
 refine T.loop (fun n S' => ∃ S'', Gst S' S'' ∧ ∃ y6 : Value, ∃ s7 : (List cell_Cell), S'' = ⟨[(5, .val y6), (4, .val (.pointer (some ⟨(blk p1), 0, none⟩))), (2, .nod [.sl 5 (List.map e_cell_Cell a0.fCells), .val (.int .i64 a0.fEnd), .val (.bool a0.fHidden)]), (1, .val (.int .i64 (if 40 < a1 then 40 else a1)))], [.var (blk p1) [.val (.slice none 0 0), .val (.int .i64 0), .val (.bool false)] 68, .row y6 (List.map e_cell_Cell s7) 5 50], 22⟩ ∧ iter (row_Row_Pad.l1 a1) n s7 = some t4) n8 ?_ ?_
 · exact ⟨_, Gst.only [1, 2, 4, 5] rfl, (vn w3 0), x2, rfl, n13⟩
 rintro n8 _ ⟨_, g, y6, s7, rfl, i12⟩
 refine T.ghost g ?_
 obtain ⟨m9, q10, rfl, q11, i12⟩ := iter_succ i12
 unfold row_Row_Pad.l1 at q11
 refine T.seq ?_
 refine aS ?_
 refine aA rfl rfl ?_
 refine TL.op1 (OpR.rowLenM e_cell_Cell 1 rfl rfl rfl rfl) rfl ?_
 iterate 2 refine aA rfl rfl ?_
 refine TL.nil ?_
 show T X _ _ _
 rcases ite_some q11 with ⟨c15, q11⟩ | ⟨c15, q11⟩
 rotate_left
 · refine T.condF rfl (decide_eq_false c15) ?_
   refine T.exit ?_
   obtain rfl := Option.some.inj q11
   obtain rfl : _ = _ := i12
   exact ⟨_, Gst.only [2, 4, 5] rfl, y6, rfl⟩
 refine T.condT rfl (decide_eq_true c15) ?_
 refine T.skip ?_
 show T X _ _ _
 refine T.block ?_
 refine T.region ?_
 refine aA rfl rfl ?_
 refine TL.op1 (OpR.wk (d' := fun _ => .agg [.sl 2 (List.map e_arena_Span []), .val (.int .i64 0), .val (.int .i64 0), .val (.int .i64 0), .val (.bool false)]) (OpR.build rfl rfl rfl rfl rfl) (fun _ => Re.agg (ReL.cons (Re.base .nil) (ReL.cons Re.refl (ReL.cons Re.refl (ReL.cons Re.refl (ReL.cons Re.refl ReL.nil))))) (fun _ _ h => by cases h; exact ⟨_, rfl⟩))) rfl ?_
 refine TL.op1 (OpR.lit rfl rfl rfl rfl rfl rfl rfl) rfl ?_
 obtain ⟨x16, hx16, q11⟩ := bnd_some q11
 refine TL.op (OpR.appendM (m := [(⟨(⟨[], 0⟩ : piece_Text), (⟨0, 0⟩ : arena_Span), false⟩ : cell_Cell)]) e_cell_Cell 1 hx16 rfl rfl rfl rfl rfl rfl rfl rfl rfl (fun _ => rfl)) rfl (fun v17 => ?_)
 refine aA rfl rfl ?_
 refine TL.nil ?_
 obtain rfl := Option.some.inj q11
 exact ⟨m9, Nat.lt_succ_self _, _, Gst.only [1, 2, 4, 5] rfl, v17, x16, rfl, i12⟩
noncomputable def cols_Pad_1 (a0 : Int) (a1 : row_Row) (a2 : Int) : Option row_Row :=
  bnd (row_Row_Pad a1 a2) fun x2 =>
  some x2
set_option maxHeartbeats 4000000 in
theorem cols_Pad_1_c {a0 : Int} {a1 : row_Row} {a2 : Int} {b0 : Nat} {res : row_Row} (h0 : cols_Pad_1 a0 a1 a2 = some res) : CallF X 40 [.val (.int .i64 a0), .agg [.sl 5 (List.map e_cell_Cell a1.fCells), .val (.int .i64 a1.fEnd), .val (.bool a1.fHidden)], .val (.pointer (some ⟨b0, 0, none⟩))] [.var b0 [.val (.int .i64 a2)] 3] (fun x => .agg [.sl 5 (List.map e_cell_Cell res.fCells), .val (.int .i64 res.fEnd), .val (.bool res.fHidden)]) (fun x => [.var b0 [.val (.int .i64 a2)] 3]) := by
 unfold cols_Pad_1 at h0
 refine CallF.mkG (X := X) rfl Try.func40 rfl rfl Try.ntmps40 rfl rfl ?_
 refine aS ?_
 refine TL.op1 (OpR.boxImm rfl rfl) rfl ?_
 refine TL.op (OpR.alloc rfl rfl (fun _ => rfl)) rfl (fun p1 => ?_)
 refine TL.nil ?_
 show T X _ _ _
 refine aS ?_
 refine aA rfl rfl ?_
 refine TL.op1 (OpR.loadPtr 0 rfl rfl rfl rfl) rfl ?_
 obtain ⟨x2, hx2, h0⟩ := bnd_some h0
 refine TL.op1 (OpR.call0 fn41 (row_Row_Pad_c hx2) rfl) rfl ?_
 refine TL.op0 (OpR.store 1 rfl rfl rfl rfl rfl rfl rfl rfl) ?_
 refine TL.nil ?_
 show T X _ _ _
 refine T.ret ?_
 obtain rfl := Option.some.inj h0
 exact PostG.retP (ks := [0]) (Gst.only [5] rfl) undef (ResL.cons (ResV.var 1 rfl rfl rfl rfl) ResL.nil) rfl rfl rfl rfl
noncomputable def walk_Map_row_Row_2.l1 (a1 : Int) (x3 : (List row_Row)) (s6 : Int × (List row_Row)) : Option (Lp (Int × (List row_Row)) (List row_Row)) :=
  if s6.1 < (x3.length : Int) then
    bnd (idx s6.2 s6.1) fun x15 =>
    bnd (cols_Pad_1 s6.1 x15 a1) fun x17 =>
    some (Lp.next (w64 (s6.1 + 1), (s6.2.set s6.1.toNat x17)))
  else
    some (Lp.done s6.2)
noncomputable def walk_Map_row_Row_2 (a0 : tree_Tree_damier_row_Row) (a1 : Int) : Option tree_Tree_damier_row_Row :=
  bnd (walk_All_row_Row a0) fun x2 =>
  bnd (slices_Clone_row_Row_row_Row x2) fun x3 =>
  bnd (loop (walk_Map_row_Row_2.l1 a1 x3) (0, x3) : Option (List row_Row)) fun t5 =>
  bnd (tree_Of_row_Row t5) fun x18 =>
  some x18
set_option maxHeartbeats 4000000 in
theorem walk_Map_row_Row_2_c {a0 : tree_Tree_damier_row_Row} {a1 : Int} {b0 : Nat} {res : tree_Tree_damier_row_Row} (h0 : walk_Map_row_Row_2 a0 a1 = some res) : CallF X 39 [.agg [(eOP a0.fRoot)], .fn (.func 40) [] [.val (.pointer (some ⟨b0, 0, none⟩))]] [.var b0 [.val (.int .i64 a1)] 3] (fun x => .agg [(eOP res.fRoot)]) (fun x => [.var b0 [.val (.int .i64 a1)] 3]) := by
 unfold walk_Map_row_Row_2 at h0
 refine CallF.mkG (X := X) rfl Try.func39 rfl rfl Try.ntmps39 rfl rfl ?_
 refine aS ?_
 refine TL.op1 (OpR.boxImm rfl rfl) rfl ?_
 refine TL.op (OpR.alloc rfl rfl (fun _ => rfl)) rfl (fun p1 => ?_)
 refine TL.nil ?_
 show T X _ _ _
 refine aS ?_
 refine aA rfl rfl ?_
 obtain ⟨x2, hx2, h0⟩ := bnd_some h0
 refine TL.op1 (OpR.call0 fn67 (walk_All_row_Row_c hx2) rfl) rfl ?_
 obtain ⟨x3, hx3, h0⟩ := bnd_some h0
 refine TL.op (OpR.call [] fn66 (slices_Clone_row_Row_row_Row_c hx3) rfl rfl rfl (fun _ => rfl)) rfl (fun w4 => ?_)
 refine aA rfl rfl ?_
 refine TL.nil ?_
 show T X _ _ _
 refine T.seq ?_
 refine aS ?_
 refine aA rfl rfl ?_
 refine TL.op1 (OpR.rowLenM e_row_Row 2 rfl rfl rfl rfl) rfl ?_
 refine aA rfl rfl ?_
 refine TL.nil ?_
 show T X _ _ _
 obtain ⟨t5, ht5, h0⟩ := bnd_some h0
 refine T.cutC (fun S' => S' = ⟨[(5, .val (vn w4 0)), (4, .val (.pointer (some ⟨(blk p1), 0, none⟩)))], [.var b0 [.val (.int .i64 a1)] 3, .var (blk p1) [(eOP none)] 24, .row (vn w4 0) (List.map e_row_Row t5) 3 68], 28⟩) (fun _ h => h) ?_ ?_
 rotate_left
 · rintro _ rfl
   show T X _ _ _
   refine aS ?_
   refine aA rfl rfl ?_
   refine TL.ghost (Gst.freezeRow 2 rfl rfl (ReS.cons (Re.base .all) (ReS.refl _)) (ReO.same (ReO.same (ReO.same ReO.nil)))) ?_
   obtain ⟨x18, hx18, h0⟩ := bnd_some h0
   refine TL.op1 (OpR.call0 fn26 (tree_Of_row_Row_c hx18) rfl) rfl ?_
   refine TL.op0 (OpR.store 1 rfl rfl rfl rfl rfl rfl rfl rfl) ?_
   refine TL.nil ?_
   show T X _ _ _
   refine T.ret ?_
   obtain rfl := Option.some.inj h0
   exact PostG.retP (ks := [0]) (Gst.trans (Gst.only [4] rfl) (Gst.pick [0, 1] rfl rfl)) undef (ResL.cons (ResV.var 1 rfl rfl rfl rfl) ResL.nil) rfl rfl rfl rfl
 refine T.block ?_
 obtain ⟨n7, n12⟩ := loop_some ht5
 refine T.loop (fun n S' => ∃ S'', Gst S' S'' ∧ ∃ s6 : Int × (List row_Row), S'' = ⟨[(13, .val (.int .i64 s6.1)), (12, .val (.int .i64 (x3.length : Int))), (11, .val (vn w4 0)), (5, .val (vn w4 0)), (4, .val (.pointer (some ⟨(blk p1), 0, none⟩))), (1, .fn (.func 40) [] [.val (.pointer (some ⟨b0, 0, none⟩))])], [.var b0 [.val (.int .i64 a1)] 3, .var (blk p1) [(eOP none)] 24, .row (vn w4 0) (List.map e_row_Row s6.2) 3 68], 28⟩ ∧ iter (walk_Map_row_Row_2.l1 a1 x3) n s6 = some t5) n7 ?_ ?_
 · exact ⟨_, Gst.only [1, 4, 5, 11, 12, 13] rfl, (0, x3), rfl, n12⟩
 rintro n7 _ ⟨_, g, s6, rfl, i11⟩
 refine T.ghost g ?_
 obtain ⟨m8, q9, rfl, q10, i11⟩ := iter_succ i11
 unfold walk_Map_row_Row_2.l1 at q10
 refine aS ?_
 refine aA rfl rfl ?_
 refine TL.nil ?_
 show T X _ _ _
 refine T.seq ?_
 rcases ite_some q10 with ⟨c14, q10⟩ | ⟨c14, q10⟩
 rotate_left
 · refine T.condF rfl (decide_eq_false c14) ?_
   refine T.exit ?_
   obtain rfl := Option.some.inj q10
   obtain rfl : _ = _ := i11
   exact ⟨_, Gst.only [4, 5] rfl, rfl⟩
 refine T.condT rfl (decide_eq_true c14) ?_
 refine T.skip ?_
 show T X _ _ _
 refine T.seq ?_
 refine T.block ?_
 refine aS ?_
 refine aA rfl rfl ?_
 obtain ⟨x15, hx15, q10⟩ := bnd_some q10
 refine TL.op1 (OpR.rowIndexM e_row_Row 2 hx15 rfl rfl rfl rfl rfl rfl rfl) rfl ?_
 refine TL.op1 (OpR.rowLoad0M (j := s6.1) e_row_Row 2 hx15 rfl rfl rfl rfl) rfl ?_
 refine TL.op (OpR.alloc rfl rfl (fun _ => rfl)) rfl (fun p16 => ?_)
 refine aA rfl rfl ?_
 refine TL.op0 (OpR.store 3 rfl rfl rfl rfl rfl rfl rfl rfl) ?_
 refine TL.nil ?_
 show T X _ _ _
 refine T.region ?_
 iterate 4 refine aA rfl rfl ?_
 refine TL.op1 (OpR.loadPtr 3 rfl rfl rfl rfl) rfl ?_
 obtain ⟨x17, hx17, q10⟩ := bnd_some q10
 refine TL.op1 (OpR.callV [0] rfl fn40 (cols_Pad_1_c hx17) rfl rfl rfl (fun _ => rfl)) rfl ?_
 refine TL.op1 (OpR.rowIndexM e_row_Row 2 hx15 rfl rfl rfl rfl rfl rfl rfl) rfl ?_
 refine TL.op0 (OpR.rowStore0M (j := s6.1) e_row_Row x17 2 hx15 rfl rfl rfl rfl rfl rfl rfl rfl rfl) ?_
 refine TL.nil ?_
 show T X _ _ _
 refine T.region ?_
 iterate 2 refine aA rfl rfl ?_
 refine TL.nil ?_
 obtain rfl := Option.some.inj q10
 exact ⟨m8, Nat.lt_succ_self _, _, Gst.trans (Gst.only [1, 4, 5, 11, 12, 13] rfl) (Gst.pick [0, 1, 2] rfl rfl), (w64 (s6.1 + 1), (s6.2.set s6.1.toNat x17)), rfl, i11⟩
noncomputable def cols_Pad (a0 : grid_Grid) : Option grid_Grid :=
  bnd (grid_Grid_Width a0) fun x3 =>
  bnd (walk_Map_row_Row_2 a0.fRows x3) fun x5 =>
  some (⟨x5, a0.fTail, a0.fEnd⟩ : grid_Grid)
set_option maxHeartbeats 4000000 in
theorem cols_Pad_c {a0 : grid_Grid} {res : grid_Grid} (h0 : cols_Pad a0 = some res) : CallF X 15 [.agg [(eOP a0.fRows.fRoot), .val (.bool a0.fTail), .val (.int .i64 a0.fEnd)]] [] (fun x => .agg [(eOP res.fRows.fRoot), .val (.bool res.fTail), .val (.int .i64 res.fEnd)]) (fun x => []) := by
 unfold cols_Pad at h0
 refine CallF.mkG (X := X) rfl Try.func15 rfl rfl Try.ntmps15 rfl rfl ?_
 refine aS ?_
 refine TL.op (OpR.boxVar rfl rfl (fun _ => rfl)) rfl (fun p1 => ?_)
 refine TL.op (OpR.alloc rfl rfl (fun _ => rfl)) rfl (fun p2 => ?_)
 refine TL.nil ?_
 show T X _ _ _
 refine aS ?_
 refine TL.op1 (OpR.loadPtr 0 rfl rfl rfl rfl) rfl ?_
 obtain ⟨x3, hx3, h0⟩ := bnd_some h0
 refine TL.op1 (OpR.call0 fn30 (grid_Grid_Width_c hx3) rfl) rfl ?_
 refine TL.op (OpR.alloc rfl rfl (fun _ => rfl)) rfl (fun p4 => ?_)
 refine TL.op0 (OpR.store 2 rfl rfl rfl rfl rfl rfl rfl rfl) ?_
 refine TL.nil ?_
 show T X _ _ _
 refine aS ?_
 refine aA rfl rfl ?_
 refine TL.op1 (OpR.loadPtr 0 rfl rfl rfl rfl) rfl ?_
 refine aA rfl rfl ?_
 obtain ⟨x5, hx5, h0⟩ := bnd_some h0
 refine TL.op1 (OpR.call [2] fn39 (walk_Map_row_Row_2_c hx5) rfl rfl rfl (fun _ => rfl)) rfl ?_
 refine aA rfl rfl ?_
 refine TL.op0 (OpR.store 0 rfl rfl rfl rfl rfl rfl rfl rfl) ?_
 refine TL.nil ?_
 show T X _ _ _
 refine aS ?_
 refine TL.op1 (OpR.loadPtr 0 rfl rfl rfl rfl) rfl ?_
 refine TL.op0 (OpR.store 1 rfl rfl rfl rfl rfl rfl rfl rfl) ?_
 refine TL.nil ?_
 show T X _ _ _
 refine T.ret ?_
 obtain rfl := Option.some.inj h0
 exact PostG.retP (ks := []) (Gst.trans (Gst.only [2] rfl) (Gst.pick [1] rfl rfl)) undef (ResL.cons (ResV.var 0 rfl rfl rfl rfl) ResL.nil) rfl rfl rfl rfl
noncomputable def law12_awake : Option Bool :=
  bnd (grid_Load [97, 44, 98, 10, 99]) fun x2 =>
  match x2 with
  | .inl x2 =>
      if x2.2.1 = 0 then
        bnd (cols_Insert x2.1 2) fun x6 =>
        bnd (if x6.2 = 0 then
          bnd (grid_Grid_Save x6.1 x2.2.2) fun x10 =>
          if x10 = [97, 44, 98, 44, 10, 99] then
            bnd (cols_Even x2.1) fun x12 =>
            if x12 = true then
              some false
            else
              bnd (cols_Pad x2.1) fun x14 =>
              bnd (grid_Grid_Save x14 x2.2.2) fun x15 =>
              some (x15 == [97, 44, 98, 10, 99, 44])
          else
            some false
        else
          some false : Option Bool) fun t8 =>
        some t8
      else
        some false
  | .inr x2 =>
      some false
set_option maxHeartbeats 4000000 in
theorem law12_awake_c {res : Bool} (h0 : law12_awake = some res) : CallF X 6 [] [] (fun x => .val (.bool res)) (fun x => []) := by
 unfold law12_awake at h0
 refine CallF.mkG (X := X) rfl Try.func6 rfl rfl Try.ntmps6 rfl rfl ?_
 refine aS ?_
 refine aA rfl rfl ?_
 refine TL.nil ?_
 show T X _ _ _
 refine aS ?_
 refine TL.op (OpR.litRow rfl rfl rfl rfl rfl rfl rfl rfl (fun _ => rfl)) rfl (fun v1 => ?_)
 refine TL.op1 (OpR.markRow 0 rfl rfl rfl rfl rfl rfl rfl rfl) rfl ?_
 obtain ⟨x2, hx2, h0⟩ := bnd_some h0
 rcases x2 with x2 | x2
 rotate_left
 · dsimp only at h0
   refine TL.op1 (OpR.call0 fn10 (grid_Load_cx2 hx2) rfl) rfl ?_
   iterate 4 refine aA rfl rfl ?_
   refine TL.op (OpR.alloc rfl rfl (fun _ => rfl)) rfl (fun p16 => ?_)
   refine TL.op0 (OpR.store 1 rfl rfl rfl rfl rfl rfl rfl rfl) ?_
   iterate 2 refine aA rfl rfl ?_
   refine TL.nil ?_
   show T X _ _ _
   refine T.seq ?_
   refine aS ?_
   refine aA rfl rfl ?_
   refine TL.op1 (OpR.ptrNil (A := none) rfl rfl rfl) rfl ?_
   refine aA rfl rfl ?_
   refine TL.off rfl rfl rfl rfl rfl rfl rfl ?_
   refine TL.off rfl rfl rfl rfl rfl rfl rfl ?_
   refine TL.op1 (OpR.pickT rfl rfl rfl) rfl ?_
   refine TL.nil ?_
   show T X _ _ _
   refine T.condT rfl rfl ?_
   refine aS ?_
   refine aA rfl rfl ?_
   refine TL.nil ?_
   show T X _ _ _
   refine T.ret ?_
   obtain rfl := Option.some.inj h0
   exact PostG.retP (ks := []) (Gst.trans (Gst.only [0] rfl) (Gst.pick [] rfl rfl)) undef (ResL.cons (ResV.tmp rfl) ResL.nil) rfl rfl rfl rfl
 dsimp only at h0
 refine TL.op (OpR.call [] fn10 (grid_Load_cx1 hx2) rfl rfl rfl (fun _ => rfl)) rfl (fun w3 => ?_)
 iterate 4 refine aA rfl rfl ?_
 refine TL.op (OpR.alloc rfl rfl (fun _ => rfl)) rfl (fun p4 => ?_)
 refine TL.op0 (OpR.store 3 rfl rfl rfl rfl rfl rfl rfl rfl) ?_
 iterate 2 refine aA rfl rfl ?_
 refine TL.nil ?_
 show T X _ _ _
 refine T.seq ?_
 refine aS ?_
 refine aA rfl rfl ?_
 refine TL.op1 (OpR.ptrNil (A := some ⟨(blk (vn w3 0)), 0, none⟩) rfl rfl rfl) rfl ?_
 refine aA rfl rfl ?_
 refine TL.on rfl rfl rfl rfl rfl ?_
 refine aA rfl rfl ?_
 refine TL.on rfl rfl rfl rfl rfl ?_
 refine aA rfl rfl ?_
 refine TL.op1 (OpR.pickF rfl rfl rfl) rfl ?_
 refine TL.nil ?_
 show T X _ _ _
 rcases ite_some h0 with ⟨c5, h0⟩ | ⟨c5, h0⟩
 rotate_left
 · refine T.condT rfl (not_f (beq_eq_false_iff_ne.2 c5)) ?_
   refine aS ?_
   refine aA rfl rfl ?_
   refine TL.nil ?_
   show T X _ _ _
   refine T.ret ?_
   obtain rfl := Option.some.inj h0
   exact PostG.retP (ks := []) (Gst.trans (Gst.only [0] rfl) (Gst.pick [] rfl rfl)) undef (ResL.cons (ResV.tmp rfl) ResL.nil) rfl rfl rfl rfl
 refine T.condF rfl (not_t (beq_iff_eq.2 c5)) ?_
 refine T.skip ?_
 show T X _ _ _
 refine aS ?_
 refine TL.op1 (OpR.loadPtr 3 rfl rfl rfl rfl) rfl ?_
 obtain ⟨x6, hx6, h0⟩ := bnd_some h0
 refine TL.op1 (OpR.call0 fn12 (cols_Insert_c hx6) rfl) rfl ?_
 iterate 3 refine aA rfl rfl ?_
 refine TL.op (OpR.alloc rfl rfl (fun _ => rfl)) rfl (fun p7 => ?_)
 refine TL.op0 (OpR.store 4 rfl rfl rfl rfl rfl rfl rfl rfl) ?_
 refine aA rfl rfl ?_
 refine TL.nil ?_
 show T X _ _ _
 refine T.seq ?_
 obtain ⟨t8, ht8, h0⟩ := bnd_some h0
 refine T.cutC (fun S' => S' = ⟨[(0, .val (.bool t8))], [], 46⟩) (fun _ h => h) ?_ ?_
 rotate_left
 · rintro _ rfl
   show T X _ _ _
   refine T.ret ?_
   obtain rfl := Option.some.inj h0
   exact PostG.retP (ks := []) (Gst.only [0] rfl) undef (ResL.cons (ResV.tmp rfl) ResL.nil) rfl rfl rfl rfl
 refine T.region ?_
 iterate 3 refine aA rfl rfl ?_
 rcases ite_some ht8 with ⟨c9, ht8⟩ | ⟨c9, ht8⟩
 rotate_left
 · refine TL.off rfl rfl rfl rfl (beq_eq_false_iff_ne.2 c9) rfl rfl ?_
   refine TL.off rfl rfl rfl rfl (beq_eq_false_iff_ne.2 c9) rfl rfl ?_
   refine TL.off rfl rfl rfl rfl (beq_eq_false_iff_ne.2 c9) rfl rfl ?_
   refine TL.off rfl rfl rfl rfl (beq_eq_false_iff_ne.2 c9) rfl rfl ?_
   refine TL.off rfl rfl rfl rfl (beq_eq_false_iff_ne.2 c9) rfl rfl ?_
   refine TL.op1 (OpR.pickF rfl (beq_eq_false_iff_ne.2 c9) rfl) rfl ?_
   refine aA rfl rfl ?_
   refine TL.off rfl rfl rfl rfl rfl rfl rfl ?_
   refine TL.off rfl rfl rfl rfl rfl rfl rfl ?_
   refine TL.off rfl rfl rfl rfl rfl rfl rfl ?_
   refine TL.op1 (OpR.pickF rfl rfl rfl) rfl ?_
   refine aA rfl rfl ?_
   refine TL.off rfl rfl rfl rfl rfl rfl rfl ?_
   refine TL.off rfl rfl rfl rfl rfl rfl rfl ?_
   refine TL.off rfl rfl rfl rfl rfl rfl rfl ?_
   refine TL.off rfl rfl rfl rfl rfl rfl rfl ?_
   refine TL.off rfl rfl rfl rfl rfl rfl rfl ?_
   refine TL.off rfl rfl rfl rfl rfl rfl rfl ?_
   refine TL.op1 (OpR.pickF rfl rfl rfl) rfl ?_
   refine aA rfl rfl ?_
   refine TL.nil ?_
   obtain rfl := Option.some.inj ht8
   exact ⟨_, Gst.trans (Gst.only [0] rfl) (Gst.pick [] rfl rfl), rfl⟩
 refine TL.on rfl rfl rfl rfl (beq_iff_eq.2 c9) ?_
 refine TL.op1 (OpR.loadPtr 4 rfl rfl rfl rfl) rfl ?_
 refine TL.on rfl rfl rfl rfl (beq_iff_eq.2 c9) ?_
 refine aA rfl rfl ?_
 refine TL.on rfl rfl rfl rfl (beq_iff_eq.2 c9) ?_
 obtain ⟨x10, hx10, ht8⟩ := bnd_some ht8
 refine TL.op1 (OpR.call [1, 2] fn13 (grid_Grid_Save_c hx10) rfl rfl rfl (fun _ => rfl)) rfl ?_
 refine TL.on rfl rfl rfl rfl (beq_iff_eq.2 c9) ?_
 refine TL.op1 (OpR.toStr (bs := x10) rfl rfl rfl rfl rfl rfl rfl) rfl ?_
 refine TL.on rfl rfl rfl rfl (beq_iff_eq.2 c9) ?_
 refine TL.op1 (OpR.cast (OpR.pure rfl) (boolE (strEq _ _))) rfl ?_
 refine TL.op1 (OpR.pickT rfl (beq_iff_eq.2 c9) rfl) rfl ?_
 refine aA rfl rfl ?_
 rcases ite_some ht8 with ⟨c11, ht8⟩ | ⟨c11, ht8⟩
 rotate_left
 · refine TL.off rfl rfl rfl rfl (beq_eq_false_iff_ne.2 c11) rfl rfl ?_
   refine TL.off rfl rfl rfl rfl (beq_eq_false_iff_ne.2 c11) rfl rfl ?_
   refine TL.off rfl rfl rfl rfl (beq_eq_false_iff_ne.2 c11) rfl rfl ?_
   refine TL.op1 (OpR.pickF rfl (beq_eq_false_iff_ne.2 c11) rfl) rfl ?_
   refine aA rfl rfl ?_
   refine TL.off rfl rfl rfl rfl rfl rfl rfl ?_
   refine TL.off rfl rfl rfl rfl rfl rfl rfl ?_
   refine TL.off rfl rfl rfl rfl rfl rfl rfl ?_
   refine TL.off rfl rfl rfl rfl rfl rfl rfl ?_
   refine TL.off rfl rfl rfl rfl rfl rfl rfl ?_
   refine TL.off rfl rfl rfl rfl rfl rfl rfl ?_
   refine TL.op1 (OpR.pickF rfl rfl rfl) rfl ?_
   refine aA rfl rfl ?_
   refine TL.nil ?_
   obtain rfl := Option.some.inj ht8
   exact ⟨_, Gst.trans (Gst.only [0] rfl) (Gst.pick [] rfl rfl), rfl⟩
 refine TL.on rfl rfl rfl rfl (beq_iff_eq.2 c11) ?_
 refine TL.op1 (OpR.loadPtr 3 rfl rfl rfl rfl) rfl ?_
 refine TL.on rfl rfl rfl rfl (beq_iff_eq.2 c11) ?_
 obtain ⟨x12, hx12, ht8⟩ := bnd_some ht8
 refine TL.op1 (OpR.call0 fn14 (cols_Even_c hx12) rfl) rfl ?_
 refine TL.on rfl rfl rfl rfl (beq_iff_eq.2 c11) ?_
 refine aA rfl rfl ?_
 refine TL.op1 (OpR.pickT rfl (beq_iff_eq.2 c11) rfl) rfl ?_
 refine aA rfl rfl ?_
 rcases ite_some ht8 with ⟨c13, ht8⟩ | ⟨c13, ht8⟩
 · refine TL.off rfl rfl rfl rfl (not_t (c13)) rfl rfl ?_
   refine TL.off rfl rfl rfl rfl (not_t (c13)) rfl rfl ?_
   refine TL.off rfl rfl rfl rfl (not_t (c13)) rfl rfl ?_
   refine TL.off rfl rfl rfl rfl (not_t (c13)) rfl rfl ?_
   refine TL.off rfl rfl rfl rfl (not_t (c13)) rfl rfl ?_
   refine TL.off rfl rfl rfl rfl (not_t (c13)) rfl rfl ?_
   refine TL.op1 (OpR.pickF rfl (not_t (c13)) rfl) rfl ?_
   refine aA rfl rfl ?_
   refine TL.nil ?_
   obtain rfl := Option.some.inj ht8
   exact ⟨_, Gst.trans (Gst.only [0] rfl) (Gst.pick [] rfl rfl), rfl⟩
 refine TL.on rfl rfl rfl rfl (not_f (eq_false_of_ne_true c13)) ?_
 refine TL.op1 (OpR.loadPtr 3 rfl rfl rfl rfl) rfl ?_
 refine TL.on rfl rfl rfl rfl (not_f (eq_false_of_ne_true c13)) ?_
 obtain ⟨x14, hx14, ht8⟩ := bnd_some ht8
 refine TL.op1 (OpR.call0 fn15 (cols_Pad_c hx14) rfl) rfl ?_
 refine TL.on rfl rfl rfl rfl (not_f (eq_false_of_ne_true c13)) ?_
 refine aA rfl rfl ?_
 refine TL.on rfl rfl rfl rfl (not_f (eq_false_of_ne_true c13)) ?_
 obtain ⟨x15, hx15, ht8⟩ := bnd_some ht8
 refine TL.op1 (OpR.call [1, 2] fn13 (grid_Grid_Save_c hx15) rfl rfl rfl (fun _ => rfl)) rfl ?_
 refine TL.on rfl rfl rfl rfl (not_f (eq_false_of_ne_true c13)) ?_
 refine TL.op1 (OpR.toStr (bs := x15) rfl rfl rfl rfl rfl rfl rfl) rfl ?_
 refine TL.on rfl rfl rfl rfl (not_f (eq_false_of_ne_true c13)) ?_
 refine TL.op1 (OpR.cast (OpR.pure rfl) (boolE (strEq _ _))) rfl ?_
 refine TL.op1 (OpR.pickT rfl (not_f (eq_false_of_ne_true c13)) rfl) rfl ?_
 refine aA rfl rfl ?_
 refine TL.nil ?_
 obtain rfl := Option.some.inj ht8
 exact ⟨_, Gst.trans (Gst.only [0] rfl) (Gst.pick [] rfl rfl), rfl⟩
end Go.Proofs.Ytpmhiiemklhbhaa.S
