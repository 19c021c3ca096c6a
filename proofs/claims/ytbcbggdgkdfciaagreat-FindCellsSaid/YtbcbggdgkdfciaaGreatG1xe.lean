/- Printed by a program of this session's own (gen.py): Lean functions for Go functions, and the proofs that the Go code comes to their answers. -/
import Derived.Test.YtbcbggdgkdfciaaGreatG1xd
import Derived.Test.YtbcbggdgkdfciaaGreatG1xb
import Derived.Test.YtbcbggdgkdfciaaGreatG1xc
import Derived.Test.YtbcbggdgkdfciaaGreatG1xa
set_option maxHeartbeats 4000000
set_option linter.unusedVariables false
set_option linter.unusedSimpArgs false
set_option maxRecDepth 20000
namespace Go.Proofs.YtbcbggdgkdfciaaGreat.S
open Go Go.Sm
attribute [local irreducible] T TL OpR CallT iter loop
noncomputable def walk_Range_row_Row_1_2.l1 (a1 : Int) (a3 : Int) (a4 : Int) (a5 : List UInt8) (a6 : Int) (a7 : Int) (a8 : Bool) (s9 : Int × Int × Int × Bool × (List wFr)) : Option (Lp (Int × Int × Int × Bool × (List wFr)) (Ex (Int × Int × Bool) ((Int × Int × Bool) ⊕ (Int × Int × Bool × Int × Int × Bool)))) :=
  if s9.1 < a1 then
    bnd (walk_stack_row_Row_top s9.2.2.2.2) fun x18 =>
    bnd (idx s9.2.2.2.2 x18) fun x19 =>
    bnd (some x19.fN) fun q20 => match q20 with
      | none =>
        none
      | some z21 =>
        bnd (o_tNd z21) fun x23 =>
        bnd (if x19.fNext = (x23.fItems.length : Int) then
          bnd (walk_stack_row_Row_forth s9.2.2.2.2) fun x28 =>
          some x28.2
        else
          some s9.2.2.2.2 : Option (List wFr)) fun t25 =>
        bnd (walk_stack_row_Row_top t25) fun x30 =>
        bnd (idx t25 x30) fun x31 =>
        bnd (some x31.fN) fun q32 => match q32 with
          | none =>
            none
          | some z33 =>
            bnd (o_tNd z33) fun x35 =>
            bnd (idx x35.fItems x31.fNext) fun x37 =>
            bnd (find_having_2_r0_2 s9.1 x37 a3 a4 a5 a6 a7 a8 s9.2.1 s9.2.2.1 s9.2.2.2.1) fun x38 =>
            match x38 with
            | .inl x38 =>
                some (Lp.done (Ex.ret (Sum.inr (x38.1, x38.2.1, x38.2.2.1, x38.2.2.2.1, x38.2.2.2.2.1, x38.2.2.2.2.2))))
            | .inr x38 =>
                some (Lp.next (w64 (s9.1 + 1), x38.1, x38.2.1, x38.2.2, (t25.set x30.toNat (⟨x31.fN, x31.fFirst, w64 (x31.fNext + 1)⟩ : wFr))))
  else
    some (Lp.done (Ex.brk (s9.2.1, s9.2.2.1, s9.2.2.2.1)))
noncomputable def walk_Range_row_Row_1_2 (a0 : Int) (a1 : Int) (a2 : Option NP) (a3 : Int) (a4 : Int) (a5 : List UInt8) (a6 : Int) (a7 : Int) (a8 : Bool) (a9 : Int) (a10 : Int) (a11 : Bool) : Option ((Int × Int × Bool) ⊕ (Int × Int × Bool × Int × Int × Bool)) :=
  if a0 = a1 then
    some (Sum.inl (a9, a10, a11))
  else
    bnd (tree_Tree_row_Row_Root (⟨a2⟩ : tTr)) fun x4 =>
    match x4 with
    | .inl x4 =>
        none
    | .inr x4 =>
        bnd (walk_stack_row_Row_down x4.1 x4.2.1 x4.2.2 0 a0) fun x5 =>
        bnd (loop (walk_Range_row_Row_1_2.l1 a1 a3 a4 a5 a6 a7 a8) (a0, a9, a10, a11, x5) : Option (Ex (Int × Int × Bool) ((Int × Int × Bool) ⊕ (Int × Int × Bool × Int × Int × Bool)))) fun t6 => match t6 with
          | .brk u7 =>
            some (Sum.inl (u7.1, u7.2.1, u7.2.2))
          | .ret u7 => some u7
theorem walk_Range_row_Row_1_2_c {a0 : Int} {a1 : Int} {a2 : Option NP} {a3 : Int} {a4 : Int} {a5 : List UInt8} {a6 : Int} {a7 : Int} {a8 : Bool} {a9 : Int} {a10 : Int} {a11 : Bool} {b0 : Nat} {b1 : Nat} {b2 : Nat} {b3 : Nat} {b4 : Nat} {b5 : Nat} {b6 : Nat} {b7 : Nat} {b8 : Nat} {b9 : Nat} {b10 : Nat} {b11 : Nat} {b12 : Nat} {res : (Int × Int × Bool) ⊕ (Int × Int × Bool × Int × Int × Bool)} (h0 : walk_Range_row_Row_1_2 a0 a1 a2 a3 a4 a5 a6 a7 a8 a9 a10 a11 = some res) : CallF X 65 [.fn (.yield b0) [] [], dP b1, dP b2, dP b3] [.lp b0 .ready none [13, 14] rfA46_0 rfB46_0 [(3, .nod [.fn (.yield b5) [] []]), (2, (dP b4))] 40, .var b1 [dN a0] 3, .var b2 [dN a1] 3, .var b3 [(eOP a2)] 27, .var b4 [.fn (.func 43) [] [dP b6, dP b7]] 116, .lp b5 .ready none [20] rfA7_0 rfB7_0 [(14, (dP b12)), (13, (dP b11)), (12, (dP b10)), (11, (dP b9)), (10, (dP b8)), (9, .nod [dN a4]), (8, .nod [dN a3])] 38, .var b6 [dQ] 30, .var b7 [.sl 1 (lB a5)] 38, .var b8 [dN a6] 3, .var b9 [dN a7] 3, .var b10 [dT a8] 4, .var b11 [dN a9, dN a10] 74, .var b12 [dT a11] 4] (fun x => (match res with | .inl res => .tup [] | .inr res => .tup [])) (fun x => (match res with | .inl res => [.lp b0 .ready none [13, 14] rfA46_0 rfB46_0 [(3, .nod [.fn (.yield b5) [] []]), (2, (dP b4))] 40, .var b1 [dN a0] 3, .var b2 [dN a1] 3, .var b3 [(eOP a2)] 27, .var b4 [.fn (.func 43) [] [dP b6, dP b7]] 116, .lp b5 .ready none [20] rfA7_0 rfB7_0 [(14, (dP b12)), (13, (dP b11)), (12, (dP b10)), (11, (dP b9)), (10, (dP b8)), (9, .nod [dN a4]), (8, .nod [dN a3])] 38, .var b6 [dQ] 30, .var b7 [.sl 1 (lB a5)] 38, .var b8 [dN a6] 3, .var b9 [dN a7] 3, .var b10 [dT a8] 4, .var b11 [dN res.1, dN res.2.1] 74, .var b12 [dT res.2.2] 4] | .inr res => [.lp b0 .done (some (.ret)) [13, 14] rfA46_0 rfB46_0 [(3, .nod [.fn (.yield b5) [] []]), (2, (dP b4))] 40, .var b1 [dN a0] 3, .var b2 [dN a1] 3, .var b3 [(eOP a2)] 27, .var b4 [.fn (.func 43) [] [dP b6, dP b7]] 116, .lp b5 .done (some (.ret)) [20] rfA7_0 rfB7_0 [(14, (dP b12)), (13, (dP b11)), (12, (dP b10)), (11, (dP b9)), (10, (dP b8)), (9, .nod [dN a4]), (8, .nod [dN a3])] 38, .var b6 [dQ] 30, .var b7 [.sl 1 (lB a5)] 38, .var b8 [dN res.1] 3, .var b9 [dN res.2.1] 3, .var b10 [dT res.2.2.1] 4, .var b11 [dN res.2.2.2.1, dN res.2.2.2.2.1] 74, .var b12 [dT res.2.2.2.2.2] 4])) := by
 unfold walk_Range_row_Row_1_2 at h0
 refine CallF.mkG (X := X) rfl Tryz.func65 rfl rfl Tryz.ntmps65 rfl rfl ?_
 refine T.seq ?_
 refine aS ?_
 refine TL.op1 (OpR.loadPtr 1 rfl rfl rfl rfl) rfl ?_
 refine TL.op1 (OpR.loadPtr 2 rfl rfl rfl rfl) rfl ?_
 refine aA rfl rfl ?_
 refine aN rfl ?_
 rcases ite_some h0 with ⟨c1, h0⟩ | ⟨c1, h0⟩
 · refine T.condT rfl (beq_iff_eq.2 c1) ?_
   refine T.ret ?_
   obtain rfl := osi h0
   exact rO [0, 1, 2, 3, 4, 5, 6, 7, 8, 9, 10, 11, 12] [] rfl undef ResL.nil rfl rfl rfl rfl
 refine T.condF rfl (beq_eq_false_iff_ne.2 c1) ?_
 refine aK rfl ?_
 refine aS ?_
 refine TL.op (OpR.alloc rfl rfl (fun _ => rfl)) rfl (fun p2 => ?_)
 refine aN rfl ?_
 refine T.seq ?_
 obtain ⟨x4, hx4, h0⟩ := bS h0
 rcases x4 with x4 | x4
 · dsimp only at h0
   exact (by cases h0)
 dsimp only at h0
 obtain ⟨x5, hx5, h0⟩ := bS h0
 refine T.drawS drawsX (fun env3 => [.agg [(eOP a2)], .nod [.sl 1 (List.map eNP x4.1), .sl 3 (List.map e_row_Row x4.2.1), dN x4.2.2], dN a0, .tup []]) (fun D env3 => [.lp b0 .ready none [13, 14] rfA46_0 rfB46_0 [(3, .nod [.fn (.yield b5) [] []]), (2, (dP b4))] 40, .var b1 [dN a0] 3, .var b2 [dN a1] 3, .var b3 [(eOP a2)] 27, .var b4 [.fn (.func 43) [] [dP b6, dP b7]] 116, .lp b5 .ready none [20] rfA7_0 rfB7_0 [(14, (dP b12)), (13, (dP b11)), (12, (dP b10)), (11, (dP b9)), (10, (dP b8)), (9, .nod [dN a4]), (8, .nod [dN a3])] 38, .var b6 [dQ] 30, .var b7 [.sl 1 (lB a5)] 38, .var b8 [dN a6] 3, .var b9 [dN a7] 3, .var b10 [dT a8] 4, .var b11 [dN a9, dN a10] 74, .var b12 [dT a11] 4, (bif D 3 then .var (blk p2) [.val (vn (env3 3) 0)] 151 else .var (blk p2) [.val (.slice none 0 0)] 151)] ++ (bif D 3 then [.row (vn (env3 3) 0) (List.map e_wFr x5) 3 157] else [])) [0, 1, 0, 7] [0, 1, 2, 5] _ (by decide +kernel) (by decide +kernel) (fun _ => rfl) (fun _ => rfl) ?_ (fun _ => rfl) (fun _ => rfl) ?_
 · refine oT (.agg [(eOP a2)]) (fun _ _ => OpR.loadPtr 3 rfl rfl rfl rfl) ?_
   refine oT (.nod [.sl 1 (List.map eNP x4.1), .sl 3 (List.map e_row_Row x4.2.1), dN x4.2.2]) (fun _ _ => OpR.call0 fn67 (tree_Tree_row_Row_Root_cx2 hx4) rfl) ?_
   refine oT ((dN a0)) (fun _ _ => OpR.loadPtr 1 rfl rfl rfl rfl) ?_
   refine OpsS.cons' true ?_ (fun D hA env3 x j hj hD => match j, hj, hD with | 0, _, _ => rfl | 1, _, _ => rfl | 2, _, _ => rfl | 3, hj, _ => absurd rfl hj | _ + 4, _, _ => rfl) ?_
   · intro D env3 hA
     exact OpS.yp [(3, false)] ⟨hA.me, trivial⟩ (Want.plain rfl) (OpR.call [13] fn66 (walk_stack_row_Row_down_c hx5) rfl rfl rfl (fun _ => rfl)) (fun x => rfl) (fun x => rfl)
   exact trivial
 intro env3
 show T X _ _ _
 refine aS ?_
 refine TL.op1 (OpR.loadPtr 1 rfl rfl rfl rfl) rfl ?_
 refine aA rfl rfl ?_
 refine aN rfl ?_
 obtain ⟨t6, ht6, h0⟩ := bS h0
 refine T.cutN (fun S' => ∃ u7, t6 = Ex.brk u7 ∧ S' = ⟨[], [.lp b0 .ready none [13, 14] rfA46_0 rfB46_0 [(3, .nod [.fn (.yield b5) [] []]), (2, (dP b4))] 40, .var b1 [dN a0] 3, .var b2 [dN a1] 3, .var b3 [(eOP a2)] 27, .var b4 [.fn (.func 43) [] [dP b6, dP b7]] 116, .lp b5 .ready none [20] rfA7_0 rfB7_0 [(14, (dP b12)), (13, (dP b11)), (12, (dP b10)), (11, (dP b9)), (10, (dP b8)), (9, .nod [dN a4]), (8, .nod [dN a3])] 38, .var b6 [dQ] 30, .var b7 [.sl 1 (lB a5)] 38, .var b8 [dN a6] 3, .var b9 [dN a7] 3, .var b10 [dT a8] 4, .var b11 [dN u7.1, dN u7.2.1] 74, .var b12 [dT u7.2.2] 4], 62⟩) (fun _ _ g ⟨h, S', ds, g', r⟩ => ⟨h, S', ds, Gst.trans g g', r⟩) ?_ ?_
 rotate_left
 · rintro _ ⟨u7, rfl, rfl⟩
   obtain rfl := osi h0
   exact PostG.finP (ks := [0, 1, 2, 3, 4, 5, 6, 7, 8, 9, 10, 11, 12]) (Gst.only [] rfl) undef ResL.nil rfl rfl rfl rfl
 refine T.block ?_
 obtain ⟨n10, n15⟩ := loop_some ht6
 refine T.loop (fun n S' => ∃ S'', Gst S' S'' ∧ ∃ y8 : Value, ∃ s9 : Int × Int × Int × Bool × (List wFr), S'' = ⟨[(6, (dN s9.1)), (5, (dP (blk p2))), (2, (dP b2)), (0, .fn (.yield b0) [] [])], [.lp b0 .ready none [13, 14] rfA46_0 rfB46_0 [(3, .nod [.fn (.yield b5) [] []]), (2, (dP b4))] 40, .var b1 [dN a0] 3, .var b2 [dN a1] 3, .var b3 [(eOP a2)] 27, .var b4 [.fn (.func 43) [] [dP b6, dP b7]] 116, .lp b5 .ready none [20] rfA7_0 rfB7_0 [(14, (dP b12)), (13, (dP b11)), (12, (dP b10)), (11, (dP b9)), (10, (dP b8)), (9, .nod [dN a4]), (8, .nod [dN a3])] 38, .var b6 [dQ] 30, .var b7 [.sl 1 (lB a5)] 38, .var b8 [dN a6] 3, .var b9 [dN a7] 3, .var b10 [dT a8] 4, .var b11 [dN s9.2.1, dN s9.2.2.1] 74, .var b12 [dT s9.2.2.2.1] 4, .var (blk p2) [.val y8] 151, .row y8 (List.map e_wFr s9.2.2.2.2) 3 157], 62⟩ ∧ iter (walk_Range_row_Row_1_2.l1 a1 a3 a4 a5 a6 a7 a8) n s9 = some t6) n10 ?_ ?_
 · exact ⟨_, Gst.only [0, 2, 5, 6] rfl, (vn (env3 3) 0), (a0, a9, a10, a11, x5), rfl, n15⟩
 rintro n10 _ ⟨_, g, y8, s9, rfl, i14⟩
 refine T.ghost g ?_
 obtain ⟨m11, q12, rfl, q13, i14⟩ := iter_succ i14
 unfold walk_Range_row_Row_1_2.l1 at q13
 refine T.seq ?_
 refine aS ?_
 refine aA rfl rfl ?_
 refine TL.op1 (OpR.loadPtr 2 rfl rfl rfl rfl) rfl ?_
 refine aA rfl rfl ?_
 refine aN rfl ?_
 rcases ite_some q13 with ⟨c17, q13⟩ | ⟨c17, q13⟩
 rotate_left
 · refine T.condF rfl (eF c17) ?_
   refine T.exit ?_
   obtain rfl := osi q13
   obtain rfl : _ = _ := i14
   exact ⟨_, gP [] [0, 1, 2, 3, 4, 5, 6, 7, 8, 9, 10, 11, 12] rfl rfl rfl, _, rfl, rfl⟩
 refine T.condT rfl (eT c17) ?_
 refine aK rfl ?_
 refine T.seq ?_
 refine T.block ?_
 refine T.seq ?_
 refine aS ?_
 obtain ⟨x18, hx18, q13⟩ := bS q13
 refine TL.op1 (OpR.call [13, 14] fn68 (walk_stack_row_Row_top_c hx18) rfl rfl rfl (fun _ => rfl)) rfl ?_
 refine aA rfl rfl ?_
 refine aN rfl ?_
 refine T.seq ?_
 obtain ⟨x19, hx19, q13⟩ := bS q13
 obtain ⟨q20, hq20, q13⟩ := bS q13
 rcases q20 with _ | z21
 · dsimp only at q13
   exact (by cases q13)
 dsimp only at q13
 obtain ⟨x23, hx23, q13⟩ := bS q13
 rw [o_tNd_eq hx23] at hq20
 refine T.drawQ drawsX [.val (.pointer (some ⟨blk y8, x18.toNat * 3, none⟩)), .val (.pointer (some ⟨blk y8, x18.toNat * 3, none⟩)), .val (.pointer (some ⟨blk y8, x18.toNat * 3 + 2, none⟩)), dN x19.fNext, .val (.pointer (some ⟨blk y8, x18.toNat * 3, none⟩)), .val (.pointer (some ⟨blk y8, x18.toNat * 3, none⟩)), .val (.pointer (some ⟨blk y8, x18.toNat * 3, none⟩)), .nod [.sl 1 (List.map eNP x23.fKids), .sl 3 (List.map e_row_Row x23.fItems), dN x23.fN], .nod [.sl 1 (List.map eNP x23.fKids), .sl 3 (List.map e_row_Row x23.fItems), dN x23.fN], .nod [.sl 3 (List.map e_row_Row x23.fItems), dN x23.fN], .sl 3 (List.map e_row_Row x23.fItems), dN (x23.fItems.length : Int), dT (x19.fNext == (x23.fItems.length : Int))] [0, 2, 5, 6, 35] (by decide +kernel) rfl ?_ rfl ?_
 · iterate 3 refine aB rfl rfl rfl ?_
   refine OpsQ.yes (Want.plain rfl) rfl (OpR.rowLoadM (j := x18) e_wFr 14 hx19 rfl rfl rfl rfl) ?_
   iterate 3 refine aB rfl rfl rfl ?_
   refine OpsQ.yes (Want.plain rfl) rfl (OpR.cast (OpR.rowLoad0M (j := x18) e_wFr 14 hx19 rfl rfl rfl rfl) (congrArg eOP (osi hq20))) ?_
   iterate 3 refine aB rfl rfl rfl ?_
   refine OpsQ.yes (Want.plain rfl) rfl (OpR.cast (OpR.pure rfl) (intE (lenM _ _))) ?_
   refine aB rfl rfl rfl ?_
   exact OpsQ.nil
 show T X _ _ _
 obtain ⟨t25, ht25, q13⟩ := bS q13
 refine T.cutC (fun S' => ∃ y26 : Value, S' = ⟨[(6, (dN s9.1)), (5, (dP (blk p2))), (2, (dP b2)), (0, .fn (.yield b0) [] [])], [.lp b0 .ready none [13, 14] rfA46_0 rfB46_0 [(3, .nod [.fn (.yield b5) [] []]), (2, (dP b4))] 40, .var b1 [dN a0] 3, .var b2 [dN a1] 3, .var b3 [(eOP a2)] 27, .var b4 [.fn (.func 43) [] [dP b6, dP b7]] 116, .lp b5 .ready none [20] rfA7_0 rfB7_0 [(14, (dP b12)), (13, (dP b11)), (12, (dP b10)), (11, (dP b9)), (10, (dP b8)), (9, .nod [dN a4]), (8, .nod [dN a3])] 38, .var b6 [dQ] 30, .var b7 [.sl 1 (lB a5)] 38, .var b8 [dN a6] 3, .var b9 [dN a7] 3, .var b10 [dT a8] 4, .var b11 [dN s9.2.1, dN s9.2.2.1] 74, .var b12 [dT s9.2.2.2.1] 4, .var (blk p2) [.val y26] 151, .row y26 (List.map e_wFr t25) 3 157], 62⟩) (fun _ h => h) ?_ ?_
 · rcases ite_some ht25 with ⟨c27, ht25⟩ | ⟨c27, ht25⟩
   rotate_left
   · refine T.condF rfl (beq_eq_false_iff_ne.2 c27) ?_
     refine T.skip ?_
     obtain rfl := osi ht25
     exact ⟨_, Gst.only [0, 2, 5, 6] rfl, y8, rfl⟩
   refine T.condT rfl (beq_iff_eq.2 c27) ?_
   refine T.region ?_
   obtain ⟨x28, hx28, ht25⟩ := bS ht25
   refine TL.op (OpR.call [13, 14] fn69 (walk_stack_row_Row_forth_c hx28) rfl rfl rfl (fun _ => rfl)) rfl (fun w29 => ?_)
   refine TL.nil ?_
   obtain rfl := osi ht25
   exact ⟨_, Gst.only [0, 2, 5, 6] rfl, (vn w29 0), rfl⟩
 rintro _ ⟨y26, rfl⟩
 show T X _ _ _
 refine aS ?_
 obtain ⟨x30, hx30, q13⟩ := bS q13
 refine TL.op1 (OpR.call [13, 14] fn68 (walk_stack_row_Row_top_c hx30) rfl rfl rfl (fun _ => rfl)) rfl ?_
 refine aA rfl rfl ?_
 refine aN rfl ?_
 refine T.seq ?_
 refine T.seq ?_
 obtain ⟨x31, hx31, q13⟩ := bS q13
 obtain ⟨q32, hq32, q13⟩ := bS q13
 rcases q32 with _ | z33
 · dsimp only at q13
   exact (by cases q13)
 dsimp only at q13
 obtain ⟨x35, hx35, q13⟩ := bS q13
 rw [o_tNd_eq hx35] at hq32
 obtain ⟨x37, hx37, q13⟩ := bS q13
 obtain ⟨x38, hx38, q13⟩ := bS q13
 rcases x38 with x38 | x38
 · dsimp only at q13
   refine T.drawS drawsX (fun env36 => [.fn (.yield b0) [] [], dN s9.1, .val (.pointer (some ⟨blk y26, x30.toNat * 3, none⟩)), .val (.pointer (some ⟨blk y26, x30.toNat * 3, none⟩)), .val (.pointer (some ⟨blk y26, x30.toNat * 3, none⟩)), .nod [.sl 1 (List.map eNP x35.fKids), .sl 3 (List.map e_row_Row x35.fItems), dN x35.fN], .nod [.sl 1 (List.map eNP x35.fKids), .sl 3 (List.map e_row_Row x35.fItems), dN x35.fN], .nod [.sl 3 (List.map e_row_Row x35.fItems), dN x35.fN], .sl 3 (List.map e_row_Row x35.fItems), .val (.pointer (some ⟨blk y26, x30.toNat * 3, none⟩)), .val (.pointer (some ⟨blk y26, x30.toNat * 3, none⟩)), .val (.pointer (some ⟨blk y26, x30.toNat * 3 + 2, none⟩)), dN x31.fNext, .nod [.sl 5 (List.map e_cell_Cell x37.fCells), dN x37.fEnd, dT x37.fHidden], .agg [.sl 5 (List.map e_cell_Cell x37.fCells), dN x37.fEnd, dT x37.fHidden], dT false, dT true]) (fun D env36 => [(bif D 15 then .lp b0 .done (some (.ret)) [13, 14] rfA46_0 rfB46_0 [(3, .nod [.fn (.yield b5) [] []]), (2, (dP b4))] 40 else .lp b0 .ready none [13, 14] rfA46_0 rfB46_0 [(3, .nod [.fn (.yield b5) [] []]), (2, (dP b4))] 40), .var b1 [dN a0] 3, .var b2 [dN a1] 3, .var b3 [(eOP a2)] 27, .var b4 [.fn (.func 43) [] [dP b6, dP b7]] 116, (bif D 15 then .lp b5 .done (some (.ret)) [20] rfA7_0 rfB7_0 [(14, (dP b12)), (13, (dP b11)), (12, (dP b10)), (11, (dP b9)), (10, (dP b8)), (9, .nod [dN a4]), (8, .nod [dN a3])] 38 else .lp b5 .ready none [20] rfA7_0 rfB7_0 [(14, (dP b12)), (13, (dP b11)), (12, (dP b10)), (11, (dP b9)), (10, (dP b8)), (9, .nod [dN a4]), (8, .nod [dN a3])] 38), .var b6 [dQ] 30, .var b7 [.sl 1 (lB a5)] 38, (bif D 15 then .var b8 [dN x38.1] 3 else .var b8 [dN a6] 3), (bif D 15 then .var b9 [dN x38.2.1] 3 else .var b9 [dN a7] 3), (bif D 15 then .var b10 [dT x38.2.2.1] 4 else .var b10 [dT a8] 4), (bif D 15 then .var b11 [dN x38.2.2.2.1, dN x38.2.2.2.2.1] 74 else .var b11 [dN s9.2.1, dN s9.2.2.1] 74), (bif D 15 then .var b12 [dT x38.2.2.2.2.2] 4 else .var b12 [dT s9.2.2.2.1] 4), .var (blk p2) [.val y26] 151, .row y26 (List.map e_wFr t25) 3 157]) [0, 0, 0, 4, 12, 28, 60, 124, 252, 0, 512, 1536, 3584, 8188, 16380, 32767, 65535] [0, 2, 5, 6, 8, 54] _ (by decide +kernel) (by decide +kernel) (fun _ => rfl) (fun _ => rfl) ?_ (fun _ => rfl) (fun _ => rfl) ?_
   rotate_left
   · intro env36
     show T X _ _ _
     refine T.condT rfl rfl ?_
     refine T.ret ?_
     obtain rfl := osi q13
     obtain rfl : _ = _ := i14
     obtain rfl := osi h0
     exact rP [0, 1, 2, 3, 4, 5, 6, 7, 8, 9, 10, 11, 12] [] [0, 1, 2, 3, 4, 5, 6, 7, 8, 9, 10, 11, 12] rfl rfl rfl undef ResL.nil rfl rfl rfl rfl
   iterate 5 refine aC ?_
   refine oT (.nod [.sl 1 (List.map eNP x35.fKids), .sl 3 (List.map e_row_Row x35.fItems), dN x35.fN]) (fun _ _ => OpR.cast (OpR.rowLoad0M (j := x30) e_wFr 14 hx31 rfl rfl rfl rfl) (congrArg eOP (osi hq32))) ?_
   iterate 6 refine aC ?_
   refine oT ((dN x31.fNext)) (fun _ _ => OpR.rowLoadM (j := x30) e_wFr 14 hx31 rfl rfl rfl rfl) ?_
   refine oT (.nod [.sl 5 (List.map e_cell_Cell x37.fCells), dN x37.fEnd, dT x37.fHidden]) (fun _ _ => OpR.indexM e_row_Row hx37 rfl rfl rfl rfl rfl) ?_
   refine aC ?_
   refine OpsS.cons' true ?_ (fun _ _ _ _ _ _ _ => rfl) ?_
   · intro D env36 hA
     exact OpS.yp [(15, false)] ⟨hA.me, trivial⟩ (Want.plain rfl) (OpR.callY [0, 4, 5, 6, 7, 8, 9, 10, 11, 12] rfl (find_having_2_r0_2_cx1 hx38) rfl rfl rfl (fun _ => rfl)) (fun x => rfl) (fun x => rfl)
   refine aC ?_
   exact trivial
 dsimp only at q13
 refine T.drawS drawsX (fun env36 => [.fn (.yield b0) [] [], dN s9.1, .val (.pointer (some ⟨blk y26, x30.toNat * 3, none⟩)), .val (.pointer (some ⟨blk y26, x30.toNat * 3, none⟩)), .val (.pointer (some ⟨blk y26, x30.toNat * 3, none⟩)), .nod [.sl 1 (List.map eNP x35.fKids), .sl 3 (List.map e_row_Row x35.fItems), dN x35.fN], .nod [.sl 1 (List.map eNP x35.fKids), .sl 3 (List.map e_row_Row x35.fItems), dN x35.fN], .nod [.sl 3 (List.map e_row_Row x35.fItems), dN x35.fN], .sl 3 (List.map e_row_Row x35.fItems), .val (.pointer (some ⟨blk y26, x30.toNat * 3, none⟩)), .val (.pointer (some ⟨blk y26, x30.toNat * 3, none⟩)), .val (.pointer (some ⟨blk y26, x30.toNat * 3 + 2, none⟩)), dN x31.fNext, .nod [.sl 5 (List.map e_cell_Cell x37.fCells), dN x37.fEnd, dT x37.fHidden], .agg [.sl 5 (List.map e_cell_Cell x37.fCells), dN x37.fEnd, dT x37.fHidden], dT true, dT false]) (fun D env36 => [.lp b0 .ready none [13, 14] rfA46_0 rfB46_0 [(3, .nod [.fn (.yield b5) [] []]), (2, (dP b4))] 40, .var b1 [dN a0] 3, .var b2 [dN a1] 3, .var b3 [(eOP a2)] 27, .var b4 [.fn (.func 43) [] [dP b6, dP b7]] 116, .lp b5 .ready none [20] rfA7_0 rfB7_0 [(14, (dP b12)), (13, (dP b11)), (12, (dP b10)), (11, (dP b9)), (10, (dP b8)), (9, .nod [dN a4]), (8, .nod [dN a3])] 38, .var b6 [dQ] 30, .var b7 [.sl 1 (lB a5)] 38, .var b8 [dN a6] 3, .var b9 [dN a7] 3, .var b10 [dT a8] 4, (bif D 15 then .var b11 [dN x38.1, dN x38.2.1] 74 else .var b11 [dN s9.2.1, dN s9.2.2.1] 74), (bif D 15 then .var b12 [dT x38.2.2] 4 else .var b12 [dT s9.2.2.2.1] 4), .var (blk p2) [.val y26] 151, .row y26 (List.map e_wFr t25) 3 157]) [0, 0, 0, 4, 12, 28, 60, 124, 252, 0, 512, 1536, 3584, 8188, 16380, 32767, 65535] [0, 2, 5, 6, 8, 54] _ (by decide +kernel) (by decide +kernel) (fun _ => rfl) (fun _ => rfl) ?_ (fun _ => rfl) (fun _ => rfl) ?_
 rotate_left
 · intro env36
   show T X _ _ _
   refine T.condF rfl rfl ?_
   refine aK rfl ?_
   refine T.region ?_
   iterate 3 refine aA rfl rfl ?_
   refine TL.op1 (OpR.rowLoadM (j := x30) e_wFr 14 hx31 rfl rfl rfl rfl) rfl ?_
   iterate 3 refine aA rfl rfl ?_
   refine TL.op0 (OpR.rowStoreM (j := x30) e_wFr (⟨x31.fN, x31.fFirst, w64 (x31.fNext + 1)⟩ : wFr) 14 hx31 rfl rfl rfl rfl rfl rfl rfl rfl rfl) ?_
   refine aN rfl ?_
   refine T.region ?_
   iterate 3 refine aA rfl rfl ?_
   refine TL.nil ?_
   obtain rfl := osi q13
   exact ⟨m11, Nat.lt_succ_self _, _, Gst.only [0, 2, 5, 6] rfl, y26, (w64 (s9.1 + 1), x38.1, x38.2.1, x38.2.2, (t25.set x30.toNat (⟨x31.fN, x31.fFirst, w64 (x31.fNext + 1)⟩ : wFr))), rfl, i14⟩
 iterate 5 refine aC ?_
 refine oT (.nod [.sl 1 (List.map eNP x35.fKids), .sl 3 (List.map e_row_Row x35.fItems), dN x35.fN]) (fun _ _ => OpR.cast (OpR.rowLoad0M (j := x30) e_wFr 14 hx31 rfl rfl rfl rfl) (congrArg eOP (osi hq32))) ?_
 iterate 6 refine aC ?_
 refine oT ((dN x31.fNext)) (fun _ _ => OpR.rowLoadM (j := x30) e_wFr 14 hx31 rfl rfl rfl rfl) ?_
 refine oT (.nod [.sl 5 (List.map e_cell_Cell x37.fCells), dN x37.fEnd, dT x37.fHidden]) (fun _ _ => OpR.indexM e_row_Row hx37 rfl rfl rfl rfl rfl) ?_
 refine aC ?_
 refine OpsS.cons' true ?_ (fun _ _ _ _ _ _ _ => rfl) ?_
 · intro D env36 hA
   exact OpS.yp [(15, false)] ⟨hA.me, trivial⟩ (Want.plain rfl) (OpR.callY [0, 4, 5, 6, 7, 8, 9, 10, 11, 12] rfl (find_having_2_r0_2_cx2 hx38) rfl rfl rfl (fun _ => rfl)) (fun x => rfl) (fun x => rfl)
 refine aC ?_
 exact trivial
theorem walk_Range_row_Row_1_2_cx1 {a0 : Int} {a1 : Int} {a2 : Option NP} {a3 : Int} {a4 : Int} {a5 : List UInt8} {a6 : Int} {a7 : Int} {a8 : Bool} {a9 : Int} {a10 : Int} {a11 : Bool} {b0 : Nat} {b1 : Nat} {b2 : Nat} {b3 : Nat} {b4 : Nat} {b5 : Nat} {b6 : Nat} {b7 : Nat} {b8 : Nat} {b9 : Nat} {b10 : Nat} {b11 : Nat} {b12 : Nat} {res : Int × Int × Bool} (h0 : walk_Range_row_Row_1_2 a0 a1 a2 a3 a4 a5 a6 a7 a8 a9 a10 a11 = some (Sum.inl res)) : CallF X 65 [.fn (.yield b0) [] [], dP b1, dP b2, dP b3] [.lp b0 .ready none [13, 14] rfA46_0 rfB46_0 [(3, .nod [.fn (.yield b5) [] []]), (2, (dP b4))] 40, .var b1 [dN a0] 3, .var b2 [dN a1] 3, .var b3 [(eOP a2)] 27, .var b4 [.fn (.func 43) [] [dP b6, dP b7]] 116, .lp b5 .ready none [20] rfA7_0 rfB7_0 [(14, (dP b12)), (13, (dP b11)), (12, (dP b10)), (11, (dP b9)), (10, (dP b8)), (9, .nod [dN a4]), (8, .nod [dN a3])] 38, .var b6 [dQ] 30, .var b7 [.sl 1 (lB a5)] 38, .var b8 [dN a6] 3, .var b9 [dN a7] 3, .var b10 [dT a8] 4, .var b11 [dN a9, dN a10] 74, .var b12 [dT a11] 4] (fun x => .tup []) (fun x => [.lp b0 .ready none [13, 14] rfA46_0 rfB46_0 [(3, .nod [.fn (.yield b5) [] []]), (2, (dP b4))] 40, .var b1 [dN a0] 3, .var b2 [dN a1] 3, .var b3 [(eOP a2)] 27, .var b4 [.fn (.func 43) [] [dP b6, dP b7]] 116, .lp b5 .ready none [20] rfA7_0 rfB7_0 [(14, (dP b12)), (13, (dP b11)), (12, (dP b10)), (11, (dP b9)), (10, (dP b8)), (9, .nod [dN a4]), (8, .nod [dN a3])] 38, .var b6 [dQ] 30, .var b7 [.sl 1 (lB a5)] 38, .var b8 [dN a6] 3, .var b9 [dN a7] 3, .var b10 [dT a8] 4, .var b11 [dN res.1, dN res.2.1] 74, .var b12 [dT res.2.2] 4]) := walk_Range_row_Row_1_2_c h0
theorem walk_Range_row_Row_1_2_cx2 {a0 : Int} {a1 : Int} {a2 : Option NP} {a3 : Int} {a4 : Int} {a5 : List UInt8} {a6 : Int} {a7 : Int} {a8 : Bool} {a9 : Int} {a10 : Int} {a11 : Bool} {b0 : Nat} {b1 : Nat} {b2 : Nat} {b3 : Nat} {b4 : Nat} {b5 : Nat} {b6 : Nat} {b7 : Nat} {b8 : Nat} {b9 : Nat} {b10 : Nat} {b11 : Nat} {b12 : Nat} {res : Int × Int × Bool × Int × Int × Bool} (h0 : walk_Range_row_Row_1_2 a0 a1 a2 a3 a4 a5 a6 a7 a8 a9 a10 a11 = some (Sum.inr res)) : CallF X 65 [.fn (.yield b0) [] [], dP b1, dP b2, dP b3] [.lp b0 .ready none [13, 14] rfA46_0 rfB46_0 [(3, .nod [.fn (.yield b5) [] []]), (2, (dP b4))] 40, .var b1 [dN a0] 3, .var b2 [dN a1] 3, .var b3 [(eOP a2)] 27, .var b4 [.fn (.func 43) [] [dP b6, dP b7]] 116, .lp b5 .ready none [20] rfA7_0 rfB7_0 [(14, (dP b12)), (13, (dP b11)), (12, (dP b10)), (11, (dP b9)), (10, (dP b8)), (9, .nod [dN a4]), (8, .nod [dN a3])] 38, .var b6 [dQ] 30, .var b7 [.sl 1 (lB a5)] 38, .var b8 [dN a6] 3, .var b9 [dN a7] 3, .var b10 [dT a8] 4, .var b11 [dN a9, dN a10] 74, .var b12 [dT a11] 4] (fun x => .tup []) (fun x => [.lp b0 .done (some (.ret)) [13, 14] rfA46_0 rfB46_0 [(3, .nod [.fn (.yield b5) [] []]), (2, (dP b4))] 40, .var b1 [dN a0] 3, .var b2 [dN a1] 3, .var b3 [(eOP a2)] 27, .var b4 [.fn (.func 43) [] [dP b6, dP b7]] 116, .lp b5 .done (some (.ret)) [20] rfA7_0 rfB7_0 [(14, (dP b12)), (13, (dP b11)), (12, (dP b10)), (11, (dP b9)), (10, (dP b8)), (9, .nod [dN a4]), (8, .nod [dN a3])] 38, .var b6 [dQ] 30, .var b7 [.sl 1 (lB a5)] 38, .var b8 [dN res.1] 3, .var b9 [dN res.2.1] 3, .var b10 [dT res.2.2.1] 4, .var b11 [dN res.2.2.2.1, dN res.2.2.2.2.1] 74, .var b12 [dT res.2.2.2.2.2] 4]) := walk_Range_row_Row_1_2_c h0
noncomputable def find_having_2_2 (a0 : Int) (a1 : Int) (a2 : Option NP) (a3 : Bool) (a4 : Int) (a5 : Int) (a6 : Int) (a7 : Bool) (a8 : Int) (a9 : Int) (a10 : Bool) (a11 : List UInt8) : Option ((Int × Int × Bool) ⊕ (Int × Int × Bool × Int × Int × Bool)) :=
  bnd (grid_Grid_Len (⟨(⟨a2⟩ : tTr), a3, a4⟩ : grid_Grid)) fun x2 =>
  bnd (walk_Range_row_Row (⟨a2⟩ : tTr) 0 x2) fun x3 =>
  bnd (walk_Range_row_Row_1_2 x3.1 x3.2.1 x3.2.2 a0 a1 a11 a5 a6 a7 a8 a9 a10) fun x5 =>
  match x5 with
  | .inl x5 =>
      some (Sum.inl (x5.1, x5.2.1, x5.2.2))
  | .inr x5 =>
      some (Sum.inr (x5.1, x5.2.1, x5.2.2.1, x5.2.2.2.1, x5.2.2.2.2.1, x5.2.2.2.2.2))
theorem find_having_2_2_c {a0 : Int} {a1 : Int} {a2 : Option NP} {a3 : Bool} {a4 : Int} {a5 : Int} {a6 : Int} {a7 : Bool} {a8 : Int} {a9 : Int} {a10 : Bool} {a11 : List UInt8} {b0 : Nat} {b1 : Nat} {b2 : Nat} {b3 : Nat} {b4 : Nat} {b5 : Nat} {b6 : Nat} {b7 : Nat} {b8 : Nat} {b9 : Nat} {res : (Int × Int × Bool) ⊕ (Int × Int × Bool × Int × Int × Bool)} (h0 : find_having_2_2 a0 a1 a2 a3 a4 a5 a6 a7 a8 a9 a10 a11 = some res) : CallF X 46 [.fn (.yield b0) [] [], dP b1, dP b2] [.lp b0 .ready none [20] rfA7_0 rfB7_0 [(14, (dP b7)), (13, (dP b6)), (12, (dP b5)), (11, (dP b4)), (10, (dP b3)), (9, .nod [dN a1]), (8, .nod [dN a0])] 38, .var b1 [(eOP a2), dT a3, dN a4] 29, .var b2 [.fn (.func 43) [] [dP b8, dP b9]] 116, .var b3 [dN a5] 3, .var b4 [dN a6] 3, .var b5 [dT a7] 4, .var b6 [dN a8, dN a9] 74, .var b7 [dT a10] 4, .var b8 [dQ] 30, .var b9 [.sl 1 (lB a11)] 38] (fun x => (match res with | .inl res => .tup [] | .inr res => .tup [])) (fun x => (match res with | .inl res => [.lp b0 .ready none [20] rfA7_0 rfB7_0 [(14, (dP b7)), (13, (dP b6)), (12, (dP b5)), (11, (dP b4)), (10, (dP b3)), (9, .nod [dN a1]), (8, .nod [dN a0])] 38, .var b1 [(eOP a2), dT a3, dN a4] 29, .var b2 [.fn (.func 43) [] [dP b8, dP b9]] 116, .var b3 [dN a5] 3, .var b4 [dN a6] 3, .var b5 [dT a7] 4, .var b6 [dN res.1, dN res.2.1] 74, .var b7 [dT res.2.2] 4, .var b8 [dQ] 30, .var b9 [.sl 1 (lB a11)] 38] | .inr res => [.lp b0 .done (some (.ret)) [20] rfA7_0 rfB7_0 [(14, (dP b7)), (13, (dP b6)), (12, (dP b5)), (11, (dP b4)), (10, (dP b3)), (9, .nod [dN a1]), (8, .nod [dN a0])] 38, .var b1 [(eOP a2), dT a3, dN a4] 29, .var b2 [.fn (.func 43) [] [dP b8, dP b9]] 116, .var b3 [dN res.1] 3, .var b4 [dN res.2.1] 3, .var b5 [dT res.2.2.1] 4, .var b6 [dN res.2.2.2.1, dN res.2.2.2.2.1] 74, .var b7 [dT res.2.2.2.2.2] 4, .var b8 [dQ] 30, .var b9 [.sl 1 (lB a11)] 38])) := by
 unfold find_having_2_2 at h0
 refine CallF.mkG (X := X) rfl Tryz.func46 rfl rfl Tryz.ntmps46 rfl rfl ?_
 refine aS ?_
 refine TL.op1 (OpR.boxImm rfl rfl) rfl ?_
 refine aN rfl ?_
 refine T.seq ?_
 obtain ⟨x2, hx2, h0⟩ := bS h0
 obtain ⟨x3, hx3, h0⟩ := bS h0
 refine T.drawS drawsX (fun env1 => [dP b1, .agg [(eOP a2)], .agg [(eOP a2), dT a3, dN a4], dN x2, .fn (.func 65) [] [dP (blk (vn (env1 4) 0)), dP (blk (vn (env1 4) 1)), dP (blk (vn (env1 4) 2))]]) (fun D env1 => [.lp b0 .ready none [20] rfA7_0 rfB7_0 [(14, (dP b7)), (13, (dP b6)), (12, (dP b5)), (11, (dP b4)), (10, (dP b3)), (9, .nod [dN a1]), (8, .nod [dN a0])] 38, .var b1 [(eOP a2), dT a3, dN a4] 29, .var b2 [.fn (.func 43) [] [dP b8, dP b9]] 116, .var b3 [dN a5] 3, .var b4 [dN a6] 3, .var b5 [dT a7] 4, .var b6 [dN a8, dN a9] 74, .var b7 [dT a10] 4, .var b8 [dQ] 30, .var b9 [.sl 1 (lB a11)] 38] ++ (bif D 4 then [.var (blk (vn (env1 4) 0)) [dN x3.1] 3] else []) ++ (bif D 4 then [.var (blk (vn (env1 4) 1)) [dN x3.2.1] 3] else []) ++ (bif D 4 then [.var (blk (vn (env1 4) 2)) [(eOP x3.2.2)] 27] else [])) [0, 1, 0, 4, 15] [2, 3, 12] _ (by decide +kernel) (by decide +kernel) (fun _ => rfl) (fun _ => rfl) ?_ (fun _ => rfl) (fun _ => rfl) ?_
 · refine aC ?_
   refine oT (.agg [(eOP a2)]) (fun _ _ => OpR.loadPtr 1 rfl rfl rfl rfl) ?_
   refine oT (.agg [(eOP a2), dT a3, dN a4]) (fun _ _ => OpR.loadPtr 1 rfl rfl rfl rfl) ?_
   refine oT ((dN x2)) (fun _ _ => OpR.call0 fn14 (grid_Grid_Len_c hx2) rfl) ?_
   refine OpsS.cons' true ?_ (fun D hA env1 x j hj hD => match j, hj, hD with | 0, _, _ => rfl | 1, _, _ => rfl | 2, _, _ => rfl | 3, _, _ => rfl | 4, hj, _ => absurd rfl hj | _ + 5, _, _ => rfl) ?_
   · intro D env1 hA
     exact OpS.yp [(4, false)] ⟨hA.me, trivial⟩ (Want.plain rfl) (OpR.call [] fn47 (walk_Range_row_Row_c hx3) rfl rfl rfl (fun _ => rfl)) (fun x => rfl) (fun x => rfl)
   exact trivial
 intro env1
 show T X _ _ _
 refine T.block ?_
 obtain ⟨x5, hx5, h0⟩ := bS h0
 rcases x5 with x5 | x5
 · dsimp only at h0
   refine T.rangeN (A := rfA46_0) (B := rfB46_0) (ow1 := fun w6 => [.lp b0 .ready none [20] rfA7_0 rfB7_0 [(14, (dP b7)), (13, (dP b6)), (12, (dP b5)), (11, (dP b4)), (10, (dP b3)), (9, .nod [dN a1]), (8, .nod [dN a0])] 38, .var b1 [(eOP a2), dT a3, dN a4] 29, .var b2 [.fn (.func 43) [] [dP b8, dP b9]] 116, .var b3 [dN a5] 3, .var b4 [dN a6] 3, .var b5 [dT a7] 4, .var b6 [dN x5.1, dN x5.2.1] 74, .var b7 [dT x5.2.2] 4, .var b8 [dQ] 30, .var b9 [.sl 1 (lB a11)] 38, .var (blk (vn (env1 4) 0)) [dN x3.1] 3, .var (blk (vn (env1 4) 1)) [dN x3.2.1] 3, .var (blk (vn (env1 4) 2)) [(eOP x3.2.2)] 27]) [2, 3] [10, 11, 12, 2, 0, 8, 9, 3, 4, 5, 6, 7] (.inl rfl) rfl rfl rfl rfl rfl fn65 rfl rfl (fun l4 => (walk_Range_row_Row_1_2_cx1 hx5)) (fun _ => by kernel_rfl) (fun w6 => ?_)
   obtain rfl := osi h0
   exact PostG.finP (ks := [0, 1, 2, 3, 4, 5, 6, 7, 8, 9]) (gP [] [0, 1, 2, 3, 4, 5, 6, 7, 8, 9] rfl rfl rfl) undef ResL.nil rfl rfl rfl rfl
 dsimp only at h0
 refine T.rangeJ (A := rfA46_0) (B := rfB46_0) (ow1 := fun w7 => [.lp b0 .done (some (.ret)) [20] rfA7_0 rfB7_0 [(14, (dP b7)), (13, (dP b6)), (12, (dP b5)), (11, (dP b4)), (10, (dP b3)), (9, .nod [dN a1]), (8, .nod [dN a0])] 38, .var b1 [(eOP a2), dT a3, dN a4] 29, .var b2 [.fn (.func 43) [] [dP b8, dP b9]] 116, .var b3 [dN x5.1] 3, .var b4 [dN x5.2.1] 3, .var b5 [dT x5.2.2.1] 4, .var b6 [dN x5.2.2.2.1, dN x5.2.2.2.2.1] 74, .var b7 [dT x5.2.2.2.2.2] 4, .var b8 [dQ] 30, .var b9 [.sl 1 (lB a11)] 38, .var (blk (vn (env1 4) 0)) [dN x3.1] 3, .var (blk (vn (env1 4) 1)) [dN x3.2.1] 3, .var (blk (vn (env1 4) 2)) [(eOP x3.2.2)] 27]) (.ret) [2, 3] [10, 11, 12, 2, 0, 8, 9, 3, 4, 5, 6, 7] (.inl rfl) rfl rfl rfl rfl rfl fn65 rfl rfl (fun l4 => (walk_Range_row_Row_1_2_cx2 hx5)) (fun _ => by kernel_rfl) (fun w7 => ?_)
 refine T.ret ?_
 obtain rfl := osi h0
 exact rP [0, 1, 2, 3, 4, 5, 6, 7, 8, 9] [] [0, 1, 2, 3, 4, 5, 6, 7, 8, 9] rfl rfl rfl undef ResL.nil rfl rfl rfl rfl
theorem find_having_2_2_cx1 {a0 : Int} {a1 : Int} {a2 : Option NP} {a3 : Bool} {a4 : Int} {a5 : Int} {a6 : Int} {a7 : Bool} {a8 : Int} {a9 : Int} {a10 : Bool} {a11 : List UInt8} {b0 : Nat} {b1 : Nat} {b2 : Nat} {b3 : Nat} {b4 : Nat} {b5 : Nat} {b6 : Nat} {b7 : Nat} {b8 : Nat} {b9 : Nat} {res : Int × Int × Bool} (h0 : find_having_2_2 a0 a1 a2 a3 a4 a5 a6 a7 a8 a9 a10 a11 = some (Sum.inl res)) : CallF X 46 [.fn (.yield b0) [] [], dP b1, dP b2] [.lp b0 .ready none [20] rfA7_0 rfB7_0 [(14, (dP b7)), (13, (dP b6)), (12, (dP b5)), (11, (dP b4)), (10, (dP b3)), (9, .nod [dN a1]), (8, .nod [dN a0])] 38, .var b1 [(eOP a2), dT a3, dN a4] 29, .var b2 [.fn (.func 43) [] [dP b8, dP b9]] 116, .var b3 [dN a5] 3, .var b4 [dN a6] 3, .var b5 [dT a7] 4, .var b6 [dN a8, dN a9] 74, .var b7 [dT a10] 4, .var b8 [dQ] 30, .var b9 [.sl 1 (lB a11)] 38] (fun x => .tup []) (fun x => [.lp b0 .ready none [20] rfA7_0 rfB7_0 [(14, (dP b7)), (13, (dP b6)), (12, (dP b5)), (11, (dP b4)), (10, (dP b3)), (9, .nod [dN a1]), (8, .nod [dN a0])] 38, .var b1 [(eOP a2), dT a3, dN a4] 29, .var b2 [.fn (.func 43) [] [dP b8, dP b9]] 116, .var b3 [dN a5] 3, .var b4 [dN a6] 3, .var b5 [dT a7] 4, .var b6 [dN res.1, dN res.2.1] 74, .var b7 [dT res.2.2] 4, .var b8 [dQ] 30, .var b9 [.sl 1 (lB a11)] 38]) := find_having_2_2_c h0
theorem find_having_2_2_cx2 {a0 : Int} {a1 : Int} {a2 : Option NP} {a3 : Bool} {a4 : Int} {a5 : Int} {a6 : Int} {a7 : Bool} {a8 : Int} {a9 : Int} {a10 : Bool} {a11 : List UInt8} {b0 : Nat} {b1 : Nat} {b2 : Nat} {b3 : Nat} {b4 : Nat} {b5 : Nat} {b6 : Nat} {b7 : Nat} {b8 : Nat} {b9 : Nat} {res : Int × Int × Bool × Int × Int × Bool} (h0 : find_having_2_2 a0 a1 a2 a3 a4 a5 a6 a7 a8 a9 a10 a11 = some (Sum.inr res)) : CallF X 46 [.fn (.yield b0) [] [], dP b1, dP b2] [.lp b0 .ready none [20] rfA7_0 rfB7_0 [(14, (dP b7)), (13, (dP b6)), (12, (dP b5)), (11, (dP b4)), (10, (dP b3)), (9, .nod [dN a1]), (8, .nod [dN a0])] 38, .var b1 [(eOP a2), dT a3, dN a4] 29, .var b2 [.fn (.func 43) [] [dP b8, dP b9]] 116, .var b3 [dN a5] 3, .var b4 [dN a6] 3, .var b5 [dT a7] 4, .var b6 [dN a8, dN a9] 74, .var b7 [dT a10] 4, .var b8 [dQ] 30, .var b9 [.sl 1 (lB a11)] 38] (fun x => .tup []) (fun x => [.lp b0 .done (some (.ret)) [20] rfA7_0 rfB7_0 [(14, (dP b7)), (13, (dP b6)), (12, (dP b5)), (11, (dP b4)), (10, (dP b3)), (9, .nod [dN a1]), (8, .nod [dN a0])] 38, .var b1 [(eOP a2), dT a3, dN a4] 29, .var b2 [.fn (.func 43) [] [dP b8, dP b9]] 116, .var b3 [dN res.1] 3, .var b4 [dN res.2.1] 3, .var b5 [dT res.2.2.1] 4, .var b6 [dN res.2.2.2.1, dN res.2.2.2.2.1] 74, .var b7 [dT res.2.2.2.2.2] 4, .var b8 [dQ] 30, .var b9 [.sl 1 (lB a11)] 38]) := find_having_2_2_c h0
noncomputable def find_Next_nil (a0 : grid_Grid) (a1 : List UInt8) (a2 : Int) (a3 : Int) : Option (Int × Int × Bool) :=
  bnd (find_having_nil a0 a1) fun x6 =>
  bnd (find_having_2_2 a2 a3 x6.1 x6.2.1 x6.2.2.1 0 0 false 0 0 false x6.2.2.2) fun x9 =>
  match x9 with
  | .inl x9 =>
      some (x9.1, x9.2.1, x9.2.2)
  | .inr x9 =>
      some (x9.1, x9.2.1, x9.2.2.1)
theorem find_Next_nil_c {a0 : grid_Grid} {a1 : List UInt8} {a2 : Int} {a3 : Int} {res : Int × Int × Bool} (h0 : find_Next_nil a0 a1 a2 a3 = some res) : CallF X 7 [.agg [(eOP a0.fRows.fRoot), dT a0.fTail, dN a0.fEnd], dQ, .sl 1 (lB a1), dN a2, dN a3] [] (fun x => .tup [dN res.1, dN res.2.1, dT res.2.2]) (fun x => []) := by
 unfold find_Next_nil at h0
 refine CallF.mkG (X := X) rfl Tryz.func7 rfl rfl Tryz.ntmps7 rfl rfl ?_
 refine aS ?_
 refine TL.op1 (OpR.boxImm rfl rfl) rfl ?_
 refine TL.op1 (OpR.boxImm rfl rfl) rfl ?_
 refine TL.op1 (OpR.boxImm rfl rfl) rfl ?_
 refine TL.op (OpR.alloc rfl rfl (fun _ => rfl)) rfl (fun p1 => ?_)
 refine TL.op (OpR.alloc rfl rfl (fun _ => rfl)) rfl (fun p2 => ?_)
 refine TL.op (OpR.alloc rfl rfl (fun _ => rfl)) rfl (fun p3 => ?_)
 refine aN rfl ?_
 refine aS ?_
 refine TL.op (OpR.alloc rfl rfl (fun _ => rfl)) rfl (fun p4 => ?_)
 refine aN rfl ?_
 refine aS ?_
 refine TL.op (OpR.alloc rfl rfl (fun _ => rfl)) rfl (fun p5 => ?_)
 refine TL.op0 (OpR.store 4 rfl rfl rfl rfl rfl rfl rfl rfl) ?_
 refine aN rfl ?_
 refine T.seq ?_
 refine aS ?_
 iterate 3 refine aA rfl rfl ?_
 obtain ⟨x6, hx6, h0⟩ := bS h0
 refine TL.op (OpR.call [] fn24 (find_having_nil_c hx6) rfl rfl rfl (fun _ => rfl)) rfl (fun w7 => ?_)
 refine aN rfl ?_
 refine T.block ?_
 obtain ⟨x9, hx9, h0⟩ := bS h0
 rcases x9 with x9 | x9
 rotate_left
 · dsimp only at h0
   refine T.rangeJ (A := rfA7_0) (B := rfB7_0) (ow1 := fun w12 => [.var (blk p1) [dN x9.1] 3, .var (blk p2) [dN x9.2.1] 3, .var (blk p3) [dT x9.2.2.1] 4, .var (blk p4) [dN x9.2.2.2.1, dN x9.2.2.2.2.1] 74, .var (blk p5) [dT x9.2.2.2.2.2] 4, .var (blk (vn w7 0)) [(eOP x6.1), dT x6.2.1, dN x6.2.2.1] 29, .var (blk (vn w7 1)) [.fn (.func 43) [] [dP (blk (vn w7 2)), dP (blk (vn w7 3))]] 116, .var (blk (vn w7 2)) [dQ] 30, .var (blk (vn w7 3)) [.sl 1 (lB x6.2.2.2)] 38]) (.ret) [8, 9, 10, 11, 12, 13, 14] [5, 6, 0, 1, 2, 3, 4, 7, 8] (.inl rfl) rfl rfl rfl rfl rfl fn46 rfl rfl (fun l8 => (find_having_2_2_cx2 hx9)) (fun _ => by kernel_rfl) (fun w12 => ?_)
   refine T.ret ?_
   obtain rfl := osi h0
   exact rP [] [10, 11, 12] [0, 1, 2] rfl rfl rfl undef (cV 0 rfl rfl rfl rfl (cV 1 rfl rfl rfl rfl (cV 2 rfl rfl rfl rfl ResL.nil))) rfl rfl rfl rfl
 dsimp only at h0
 refine T.rangeN (A := rfA7_0) (B := rfB7_0) (ow1 := fun w10 => [.var (blk p1) [dN 0] 3, .var (blk p2) [dN 0] 3, .var (blk p3) [dT false] 4, .var (blk p4) [dN x9.1, dN x9.2.1] 74, .var (blk p5) [dT x9.2.2] 4, .var (blk (vn w7 0)) [(eOP x6.1), dT x6.2.1, dN x6.2.2.1] 29, .var (blk (vn w7 1)) [.fn (.func 43) [] [dP (blk (vn w7 2)), dP (blk (vn w7 3))]] 116, .var (blk (vn w7 2)) [dQ] 30, .var (blk (vn w7 3)) [.sl 1 (lB x6.2.2.2)] 38]) [8, 9, 10, 11, 12, 13, 14] [5, 6, 0, 1, 2, 3, 4, 7, 8] (.inl rfl) rfl rfl rfl rfl rfl fn46 rfl rfl (fun l8 => (find_having_2_2_cx1 hx9)) (fun _ => by kernel_rfl) (fun w10 => ?_)
 show T X _ _ _
 refine T.seq ?_
 refine T.drawS drawsX (fun env11 => [dP (blk p4), dN x9.1, .val (.pointer (some ⟨(blk p4), 1, none⟩)), dN x9.2.1, dT x9.2.2, .dead, .dead, .dead]) (fun D env11 => [(bif D 5 then .var (blk p1) [dN x9.1] 3 else .var (blk p1) [dN 0] 3), (bif D 6 then .var (blk p2) [dN x9.2.1] 3 else .var (blk p2) [dN 0] 3), (bif D 7 then .var (blk p3) [dT x9.2.2] 4 else .var (blk p3) [dT false] 4), .var (blk p4) [dN x9.1, dN x9.2.1] 74, .var (blk p5) [dT x9.2.2] 4, .var (blk (vn w7 0)) [(eOP x6.1), dT x6.2.1, dN x6.2.2.1] 29, .var (blk (vn w7 1)) [.fn (.func 43) [] [dP (blk (vn w7 2)), dP (blk (vn w7 3))]] 116, .var (blk (vn w7 2)) [dQ] 30, .var (blk (vn w7 3)) [.sl 1 (lB x6.2.2.2)] 38]) [0, 1, 0, 4, 0, 3, 47, 127] [10, 11, 12] _ (by decide +kernel) (by decide +kernel) (fun _ => rfl) (fun _ => rfl) ?_ (fun _ => rfl) (fun _ => rfl) ?_
 rotate_left
 · intro env11
   show T X _ _ _
   refine T.ret ?_
   obtain rfl := osi h0
   exact rP [] [10, 11, 12] [0, 1, 2] rfl rfl rfl undef (cV 0 rfl rfl rfl rfl (cV 1 rfl rfl rfl rfl (cV 2 rfl rfl rfl rfl ResL.nil))) rfl rfl rfl rfl
 refine aC ?_
 refine oT ((dN x9.1)) (fun _ _ => OpR.loadPtr 3 rfl rfl rfl rfl) ?_
 refine aC ?_
 refine oT ((dN x9.2.1)) (fun _ _ => OpR.loadPtr 3 rfl rfl rfl rfl) ?_
 refine oT ((dT x9.2.2)) (fun _ _ => OpR.loadPtr 4 rfl rfl rfl rfl) ?_
 refine OpsS.cons' true ?_ (fun _ _ _ _ _ _ _ => rfl) ?_
 · intro D env11 hA
   have e6 : D 6 = false := hA.no 6 _ rfl rfl
   have e7 : D 7 = false := hA.no 7 _ rfl rfl
   exact OpS.yp [(6, false), (7, false), (5, false)] ⟨e6, e7, hA.me, trivial⟩ (Want.plain rfl) (OpR.store 0 rfl rfl rfl rfl rfl rfl rfl rfl) (fun x => rfl) (fun x => rfl)
 refine OpsS.cons' true ?_ (fun _ _ _ _ _ _ _ => rfl) ?_
 · intro D env11 hA
   have e5 : D 5 = true := hA.yes 5 _ rfl rfl
   have e7 : D 7 = false := hA.no 7 _ rfl rfl
   exact OpS.yp [(5, true), (7, false), (6, false)] ⟨e5, e7, hA.me, trivial⟩ (Want.plain rfl) (OpR.store 1 rfl rfl rfl rfl rfl rfl rfl rfl) (fun x => rfl) (fun x => rfl)
 refine OpsS.cons' true ?_ (fun _ _ _ _ _ _ _ => rfl) ?_
 · intro D env11 hA
   have e5 : D 5 = true := hA.yes 5 _ rfl rfl
   have e6 : D 6 = true := hA.yes 6 _ rfl rfl
   exact OpS.yp [(5, true), (6, true), (7, false)] ⟨e5, e6, hA.me, trivial⟩ (Want.plain rfl) (OpR.store 2 rfl rfl rfl rfl rfl rfl rfl rfl) (fun x => rfl) (fun x => rfl)
 exact trivial
noncomputable def law17_awake : Option Bool :=
  bnd (grid_Load [120, 44, 97, 121, 10, 121, 97]) fun x2 =>
  match x2 with
  | .inl x2 =>
      bnd (find_Next x2.1 [97] 0 1 x2.2.2) fun x6 =>
      bnd (find_Replace [97, 98, 97, 98] [98] [99, 99] true) fun x10 =>
      bnd (bnd (find_Every [97, 97, 97, 97] [97, 97]) fun x14 =>
      bnd (ref09_Same x14 [0, 1, 2]) fun x15 =>
      if x15 = true then
        bnd (find_Apart [97, 97, 97, 97] [97, 97]) fun x19 =>
        bnd (ref09_Same x19 [0, 2]) fun x20 =>
        if x20 = true then
          if x6.2.2 = true then
            if x6.1 = 1 then
              if x6.2.1 = 0 then
                if x10.1 = [97, 99, 99, 97, 99, 99] then
                  some (x10.2 == 2)
                else
                  some false
              else
                some false
            else
              some false
          else
            some false
        else
          some false
      else
        some false : Option Bool) fun t11 =>
      some t11
  | .inr x2 =>
      bnd (find_Next_nil x2.1 [97] 0 1) fun x28 =>
      bnd (find_Replace [97, 98, 97, 98] [98] [99, 99] true) fun x32 =>
      bnd (bnd (find_Every [97, 97, 97, 97] [97, 97]) fun x36 =>
      bnd (ref09_Same x36 [0, 1, 2]) fun x37 =>
      if x37 = true then
        bnd (find_Apart [97, 97, 97, 97] [97, 97]) fun x41 =>
        bnd (ref09_Same x41 [0, 2]) fun x42 =>
        if x42 = true then
          if x28.2.2 = true then
            if x28.1 = 1 then
              if x28.2.1 = 0 then
                if x32.1 = [97, 99, 99, 97, 99, 99] then
                  some (x32.2 == 2)
                else
                  some false
              else
                some false
            else
              some false
          else
            some false
        else
          some false
      else
        some false : Option Bool) fun t33 =>
      some t33
theorem law17_awake_c {res : Bool} (h0 : law17_awake = some res) : CallF X 6 [] [] (fun x => (dT res)) (fun x => []) := by
 unfold law17_awake at h0
 refine CallF.mkG (X := X) rfl Tryz.func6 rfl rfl Tryz.ntmps6 rfl rfl ?_
 refine aS ?_
 refine aA rfl rfl ?_
 refine aN rfl ?_
 refine aS ?_
 refine TL.op (OpR.litRow rfl rfl rfl rfl rfl rfl rfl rfl (fun _ => rfl)) rfl (fun v1 => ?_)
 refine TL.op1 (OpR.markRow 0 rfl rfl rfl rfl rfl rfl rfl rfl) rfl ?_
 obtain ⟨x2, hx2, h0⟩ := bS h0
 rcases x2 with x2 | x2
 rotate_left
 · dsimp only at h0
   refine TL.op1 (OpR.call0 fn19 (grid_Load_cx2 hx2) rfl) rfl ?_
   iterate 4 refine aA rfl rfl ?_
   refine TL.op (OpR.alloc rfl rfl (fun _ => rfl)) rfl (fun p26 => ?_)
   refine TL.op0 (OpR.store 1 rfl rfl rfl rfl rfl rfl rfl rfl) ?_
   iterate 2 refine aA rfl rfl ?_
   refine aN rfl ?_
   refine aS ?_
   refine TL.op1 (OpR.loadPtr 1 rfl rfl rfl rfl) rfl ?_
   refine aA rfl rfl ?_
   refine TL.op (OpR.litRow rfl rfl rfl rfl rfl rfl rfl rfl (fun _ => rfl)) rfl (fun v27 => ?_)
   refine TL.op1 (OpR.markRow 2 rfl rfl rfl rfl rfl rfl rfl rfl) rfl ?_
   obtain ⟨x28, hx28, h0⟩ := bS h0
   refine TL.op1 (OpR.call0 fn7 (find_Next_nil_c hx28) rfl) rfl ?_
   iterate 7 refine aA rfl rfl ?_
   refine aN rfl ?_
   refine aS ?_
   refine TL.op (OpR.litRow rfl rfl rfl rfl rfl rfl rfl rfl (fun _ => rfl)) rfl (fun v29 => ?_)
   refine TL.op1 (OpR.markRow 3 rfl rfl rfl rfl rfl rfl rfl rfl) rfl ?_
   refine TL.op (OpR.litRow rfl rfl rfl rfl rfl rfl rfl rfl (fun _ => rfl)) rfl (fun v30 => ?_)
   refine TL.op1 (OpR.markRow 4 rfl rfl rfl rfl rfl rfl rfl rfl) rfl ?_
   refine TL.op (OpR.litRow rfl rfl rfl rfl rfl rfl rfl rfl (fun _ => rfl)) rfl (fun v31 => ?_)
   refine TL.op1 (OpR.markRow 5 rfl rfl rfl rfl rfl rfl rfl rfl) rfl ?_
   obtain ⟨x32, hx32, h0⟩ := bS h0
   refine TL.op1 (OpR.call0 fn20 (find_Replace_c hx32) rfl) rfl ?_
   iterate 5 refine aA rfl rfl ?_
   refine aN rfl ?_
   refine T.seq ?_
   obtain ⟨t33, ht33, h0⟩ := bS h0
   refine T.cutC (fun S' => S' = ⟨[(0, (dT t33))], [], 71⟩) (fun _ h => h) ?_ ?_
   rotate_left
   · rintro _ rfl
     show T X _ _ _
     refine T.ret ?_
     obtain rfl := osi h0
     exact rO [] [0] rfl undef (cT rfl ResL.nil) rfl rfl rfl rfl
   refine T.region ?_
   refine TL.op (OpR.litRow rfl rfl rfl rfl rfl rfl rfl rfl (fun _ => rfl)) rfl (fun v34 => ?_)
   refine TL.op1 (OpR.markRow 6 rfl rfl rfl rfl rfl rfl rfl rfl) rfl ?_
   refine TL.op (OpR.litRow rfl rfl rfl rfl rfl rfl rfl rfl (fun _ => rfl)) rfl (fun v35 => ?_)
   refine TL.op1 (OpR.markRow 7 rfl rfl rfl rfl rfl rfl rfl rfl) rfl ?_
   obtain ⟨x36, hx36, ht33⟩ := bS ht33
   refine TL.op1 (OpR.call0 fn22 (find_Every_c hx36) rfl) rfl ?_
   refine TL.op1 (OpR.lit rfl rfl rfl rfl rfl rfl rfl) rfl ?_
   obtain ⟨x37, hx37, ht33⟩ := bS ht33
   refine TL.op1 (OpR.call0 fn21 (ref09_Same_c hx37) rfl) rfl ?_
   refine aA rfl rfl ?_
   rcases ite_some ht33 with ⟨c38, ht33⟩ | ⟨c38, ht33⟩
   rotate_left
   · refine TL.off rfl rfl rfl rfl (eq_false_of_ne_true c38) rfl rfl ?_
     refine TL.off rfl rfl rfl rfl (eq_false_of_ne_true c38) rfl rfl ?_
     refine TL.off rfl rfl rfl rfl (eq_false_of_ne_true c38) rfl rfl ?_
     refine TL.off rfl rfl rfl rfl (eq_false_of_ne_true c38) rfl rfl ?_
     refine TL.off rfl rfl rfl rfl (eq_false_of_ne_true c38) rfl rfl ?_
     refine TL.off rfl rfl rfl rfl (eq_false_of_ne_true c38) rfl rfl ?_
     refine TL.off rfl rfl rfl rfl (eq_false_of_ne_true c38) rfl rfl ?_
     refine TL.op1 (OpR.pickF rfl (eq_false_of_ne_true c38) rfl) rfl ?_
     refine aA rfl rfl ?_
     refine TL.off rfl rfl rfl rfl rfl rfl rfl ?_
     refine TL.op1 (OpR.pickF rfl rfl rfl) rfl ?_
     refine aA rfl rfl ?_
     refine TL.off rfl rfl rfl rfl rfl rfl rfl ?_
     refine TL.off rfl rfl rfl rfl rfl rfl rfl ?_
     refine TL.op1 (OpR.pickF rfl rfl rfl) rfl ?_
     refine aA rfl rfl ?_
     refine TL.off rfl rfl rfl rfl rfl rfl rfl ?_
     refine TL.off rfl rfl rfl rfl rfl rfl rfl ?_
     refine TL.op1 (OpR.pickF rfl rfl rfl) rfl ?_
     refine aA rfl rfl ?_
     refine TL.off rfl rfl rfl rfl rfl rfl rfl ?_
     refine TL.off rfl rfl rfl rfl rfl rfl rfl ?_
     refine TL.off rfl rfl rfl rfl rfl rfl rfl ?_
     refine TL.op1 (OpR.pickF rfl rfl rfl) rfl ?_
     refine aA rfl rfl ?_
     refine TL.off rfl rfl rfl rfl rfl rfl rfl ?_
     refine TL.off rfl rfl rfl rfl rfl rfl rfl ?_
     refine TL.op1 (OpR.pickF rfl rfl rfl) rfl ?_
     refine aA rfl rfl ?_
     refine TL.nil ?_
     obtain rfl := osi ht33
     exact ⟨_, gP [0] [] rfl rfl rfl, rfl⟩
   refine TL.on rfl rfl rfl rfl (c38) ?_
   refine TL.op (OpR.litRow rfl rfl rfl rfl rfl rfl rfl rfl (fun _ => rfl)) rfl (fun v39 => ?_)
   refine TL.on rfl rfl rfl rfl (c38) ?_
   refine TL.op1 (OpR.markRow 8 rfl rfl rfl rfl rfl rfl rfl rfl) rfl ?_
   refine TL.on rfl rfl rfl rfl (c38) ?_
   refine TL.op (OpR.litRow rfl rfl rfl rfl rfl rfl rfl rfl (fun _ => rfl)) rfl (fun v40 => ?_)
   refine TL.on rfl rfl rfl rfl (c38) ?_
   refine TL.op1 (OpR.markRow 9 rfl rfl rfl rfl rfl rfl rfl rfl) rfl ?_
   refine TL.on rfl rfl rfl rfl (c38) ?_
   obtain ⟨x41, hx41, ht33⟩ := bS ht33
   refine TL.op1 (OpR.call0 fn23 (find_Apart_c hx41) rfl) rfl ?_
   refine TL.on rfl rfl rfl rfl (c38) ?_
   refine TL.op1 (OpR.lit rfl rfl rfl rfl rfl rfl rfl) rfl ?_
   refine TL.on rfl rfl rfl rfl (c38) ?_
   obtain ⟨x42, hx42, ht33⟩ := bS ht33
   refine TL.op1 (OpR.call0 fn21 (ref09_Same_c hx42) rfl) rfl ?_
   refine TL.op1 (OpR.pickT rfl (c38) rfl) rfl ?_
   refine aA rfl rfl ?_
   rcases ite_some ht33 with ⟨c43, ht33⟩ | ⟨c43, ht33⟩
   rotate_left
   · refine TL.off rfl rfl rfl rfl (eq_false_of_ne_true c43) rfl rfl ?_
     refine TL.op1 (OpR.pickF rfl (eq_false_of_ne_true c43) rfl) rfl ?_
     refine aA rfl rfl ?_
     refine TL.off rfl rfl rfl rfl rfl rfl rfl ?_
     refine TL.off rfl rfl rfl rfl rfl rfl rfl ?_
     refine TL.op1 (OpR.pickF rfl rfl rfl) rfl ?_
     refine aA rfl rfl ?_
     refine TL.off rfl rfl rfl rfl rfl rfl rfl ?_
     refine TL.off rfl rfl rfl rfl rfl rfl rfl ?_
     refine TL.op1 (OpR.pickF rfl rfl rfl) rfl ?_
     refine aA rfl rfl ?_
     refine TL.off rfl rfl rfl rfl rfl rfl rfl ?_
     refine TL.off rfl rfl rfl rfl rfl rfl rfl ?_
     refine TL.off rfl rfl rfl rfl rfl rfl rfl ?_
     refine TL.op1 (OpR.pickF rfl rfl rfl) rfl ?_
     refine aA rfl rfl ?_
     refine TL.off rfl rfl rfl rfl rfl rfl rfl ?_
     refine TL.off rfl rfl rfl rfl rfl rfl rfl ?_
     refine TL.op1 (OpR.pickF rfl rfl rfl) rfl ?_
     refine aA rfl rfl ?_
     refine TL.nil ?_
     obtain rfl := osi ht33
     exact ⟨_, gP [0] [] rfl rfl rfl, rfl⟩
   refine TL.on rfl rfl rfl rfl (c43) ?_
   refine aA rfl rfl ?_
   refine TL.op1 (OpR.pickT rfl (c43) rfl) rfl ?_
   refine aA rfl rfl ?_
   rcases ite_some ht33 with ⟨c44, ht33⟩ | ⟨c44, ht33⟩
   rotate_left
   · refine TL.off rfl rfl rfl rfl (eq_false_of_ne_true c44) rfl rfl ?_
     refine TL.off rfl rfl rfl rfl (eq_false_of_ne_true c44) rfl rfl ?_
     refine TL.op1 (OpR.pickF rfl (eq_false_of_ne_true c44) rfl) rfl ?_
     refine aA rfl rfl ?_
     refine TL.off rfl rfl rfl rfl rfl rfl rfl ?_
     refine TL.off rfl rfl rfl rfl rfl rfl rfl ?_
     refine TL.op1 (OpR.pickF rfl rfl rfl) rfl ?_
     refine aA rfl rfl ?_
     refine TL.off rfl rfl rfl rfl rfl rfl rfl ?_
     refine TL.off rfl rfl rfl rfl rfl rfl rfl ?_
     refine TL.off rfl rfl rfl rfl rfl rfl rfl ?_
     refine TL.op1 (OpR.pickF rfl rfl rfl) rfl ?_
     refine aA rfl rfl ?_
     refine TL.off rfl rfl rfl rfl rfl rfl rfl ?_
     refine TL.off rfl rfl rfl rfl rfl rfl rfl ?_
     refine TL.op1 (OpR.pickF rfl rfl rfl) rfl ?_
     refine aA rfl rfl ?_
     refine TL.nil ?_
     obtain rfl := osi ht33
     exact ⟨_, gP [0] [] rfl rfl rfl, rfl⟩
   refine TL.on rfl rfl rfl rfl (c44) ?_
   refine aA rfl rfl ?_
   refine TL.on rfl rfl rfl rfl (c44) ?_
   refine aA rfl rfl ?_
   refine TL.op1 (OpR.pickT rfl (c44) rfl) rfl ?_
   refine aA rfl rfl ?_
   rcases ite_some ht33 with ⟨c45, ht33⟩ | ⟨c45, ht33⟩
   rotate_left
   · refine TL.off rfl rfl rfl rfl (beq_eq_false_iff_ne.2 c45) rfl rfl ?_
     refine TL.off rfl rfl rfl rfl (beq_eq_false_iff_ne.2 c45) rfl rfl ?_
     refine TL.op1 (OpR.pickF rfl (beq_eq_false_iff_ne.2 c45) rfl) rfl ?_
     refine aA rfl rfl ?_
     refine TL.off rfl rfl rfl rfl rfl rfl rfl ?_
     refine TL.off rfl rfl rfl rfl rfl rfl rfl ?_
     refine TL.off rfl rfl rfl rfl rfl rfl rfl ?_
     refine TL.op1 (OpR.pickF rfl rfl rfl) rfl ?_
     refine aA rfl rfl ?_
     refine TL.off rfl rfl rfl rfl rfl rfl rfl ?_
     refine TL.off rfl rfl rfl rfl rfl rfl rfl ?_
     refine TL.op1 (OpR.pickF rfl rfl rfl) rfl ?_
     refine aA rfl rfl ?_
     refine TL.nil ?_
     obtain rfl := osi ht33
     exact ⟨_, gP [0] [] rfl rfl rfl, rfl⟩
   refine TL.on rfl rfl rfl rfl (beq_iff_eq.2 c45) ?_
   refine aA rfl rfl ?_
   refine TL.on rfl rfl rfl rfl (beq_iff_eq.2 c45) ?_
   refine aA rfl rfl ?_
   refine TL.op1 (OpR.pickT rfl (beq_iff_eq.2 c45) rfl) rfl ?_
   refine aA rfl rfl ?_
   rcases ite_some ht33 with ⟨c46, ht33⟩ | ⟨c46, ht33⟩
   rotate_left
   · refine TL.off rfl rfl rfl rfl (beq_eq_false_iff_ne.2 c46) rfl rfl ?_
     refine TL.off rfl rfl rfl rfl (beq_eq_false_iff_ne.2 c46) rfl rfl ?_
     refine TL.off rfl rfl rfl rfl (beq_eq_false_iff_ne.2 c46) rfl rfl ?_
     refine TL.op1 (OpR.pickF rfl (beq_eq_false_iff_ne.2 c46) rfl) rfl ?_
     refine aA rfl rfl ?_
     refine TL.off rfl rfl rfl rfl rfl rfl rfl ?_
     refine TL.off rfl rfl rfl rfl rfl rfl rfl ?_
     refine TL.op1 (OpR.pickF rfl rfl rfl) rfl ?_
     refine aA rfl rfl ?_
     refine TL.nil ?_
     obtain rfl := osi ht33
     exact ⟨_, gP [0] [] rfl rfl rfl, rfl⟩
   refine TL.on rfl rfl rfl rfl (beq_iff_eq.2 c46) ?_
   refine aA rfl rfl ?_
   refine TL.on rfl rfl rfl rfl (beq_iff_eq.2 c46) ?_
   refine TL.op1 (OpR.toStr (bs := x32.1) rfl rfl rfl rfl rfl rfl rfl) rfl ?_
   refine TL.on rfl rfl rfl rfl (beq_iff_eq.2 c46) ?_
   refine TL.op1 (OpR.cast (OpR.pure rfl) (boolE (strEq _ _))) rfl ?_
   refine TL.op1 (OpR.pickT rfl (beq_iff_eq.2 c46) rfl) rfl ?_
   refine aA rfl rfl ?_
   rcases ite_some ht33 with ⟨c47, ht33⟩ | ⟨c47, ht33⟩
   rotate_left
   · refine TL.off rfl rfl rfl rfl (beq_eq_false_iff_ne.2 c47) rfl rfl ?_
     refine TL.off rfl rfl rfl rfl (beq_eq_false_iff_ne.2 c47) rfl rfl ?_
     refine TL.op1 (OpR.pickF rfl (beq_eq_false_iff_ne.2 c47) rfl) rfl ?_
     refine aA rfl rfl ?_
     refine TL.nil ?_
     obtain rfl := osi ht33
     exact ⟨_, gP [0] [] rfl rfl rfl, rfl⟩
   refine TL.on rfl rfl rfl rfl (beq_iff_eq.2 c47) ?_
   refine aA rfl rfl ?_
   refine TL.on rfl rfl rfl rfl (beq_iff_eq.2 c47) ?_
   refine aA rfl rfl ?_
   refine TL.op1 (OpR.pickT rfl (beq_iff_eq.2 c47) rfl) rfl ?_
   refine aA rfl rfl ?_
   refine TL.nil ?_
   obtain rfl := osi ht33
   exact ⟨_, gP [0] [] rfl rfl rfl, rfl⟩
 dsimp only at h0
 refine TL.op (OpR.call [] fn19 (grid_Load_cx1 hx2) rfl rfl rfl (fun _ => rfl)) rfl (fun w3 => ?_)
 iterate 4 refine aA rfl rfl ?_
 refine TL.op (OpR.alloc rfl rfl (fun _ => rfl)) rfl (fun p4 => ?_)
 refine TL.op0 (OpR.store 3 rfl rfl rfl rfl rfl rfl rfl rfl) ?_
 iterate 2 refine aA rfl rfl ?_
 refine aN rfl ?_
 refine aS ?_
 refine TL.op1 (OpR.loadPtr 3 rfl rfl rfl rfl) rfl ?_
 refine aA rfl rfl ?_
 refine TL.op (OpR.litRow rfl rfl rfl rfl rfl rfl rfl rfl (fun _ => rfl)) rfl (fun v5 => ?_)
 refine TL.op1 (OpR.markRow 4 rfl rfl rfl rfl rfl rfl rfl rfl) rfl ?_
 obtain ⟨x6, hx6, h0⟩ := bS h0
 refine TL.op1 (OpR.call [1, 2] fn7 (find_Next_c hx6) rfl rfl rfl (fun _ => rfl)) rfl ?_
 iterate 7 refine aA rfl rfl ?_
 refine aN rfl ?_
 refine aS ?_
 refine TL.op (OpR.litRow rfl rfl rfl rfl rfl rfl rfl rfl (fun _ => rfl)) rfl (fun v7 => ?_)
 refine TL.op1 (OpR.markRow 5 rfl rfl rfl rfl rfl rfl rfl rfl) rfl ?_
 refine TL.op (OpR.litRow rfl rfl rfl rfl rfl rfl rfl rfl (fun _ => rfl)) rfl (fun v8 => ?_)
 refine TL.op1 (OpR.markRow 6 rfl rfl rfl rfl rfl rfl rfl rfl) rfl ?_
 refine TL.op (OpR.litRow rfl rfl rfl rfl rfl rfl rfl rfl (fun _ => rfl)) rfl (fun v9 => ?_)
 refine TL.op1 (OpR.markRow 7 rfl rfl rfl rfl rfl rfl rfl rfl) rfl ?_
 obtain ⟨x10, hx10, h0⟩ := bS h0
 refine TL.op1 (OpR.call0 fn20 (find_Replace_c hx10) rfl) rfl ?_
 iterate 5 refine aA rfl rfl ?_
 refine aN rfl ?_
 refine T.seq ?_
 obtain ⟨t11, ht11, h0⟩ := bS h0
 refine T.cutC (fun S' => S' = ⟨[(0, (dT t11))], [], 71⟩) (fun _ h => h) ?_ ?_
 rotate_left
 · rintro _ rfl
   show T X _ _ _
   refine T.ret ?_
   obtain rfl := osi h0
   exact rO [] [0] rfl undef (cT rfl ResL.nil) rfl rfl rfl rfl
 refine T.region ?_
 refine TL.op (OpR.litRow rfl rfl rfl rfl rfl rfl rfl rfl (fun _ => rfl)) rfl (fun v12 => ?_)
 refine TL.op1 (OpR.markRow 8 rfl rfl rfl rfl rfl rfl rfl rfl) rfl ?_
 refine TL.op (OpR.litRow rfl rfl rfl rfl rfl rfl rfl rfl (fun _ => rfl)) rfl (fun v13 => ?_)
 refine TL.op1 (OpR.markRow 9 rfl rfl rfl rfl rfl rfl rfl rfl) rfl ?_
 obtain ⟨x14, hx14, ht11⟩ := bS ht11
 refine TL.op1 (OpR.call0 fn22 (find_Every_c hx14) rfl) rfl ?_
 refine TL.op1 (OpR.lit rfl rfl rfl rfl rfl rfl rfl) rfl ?_
 obtain ⟨x15, hx15, ht11⟩ := bS ht11
 refine TL.op1 (OpR.call0 fn21 (ref09_Same_c hx15) rfl) rfl ?_
 refine aA rfl rfl ?_
 rcases ite_some ht11 with ⟨c16, ht11⟩ | ⟨c16, ht11⟩
 rotate_left
 · refine TL.off rfl rfl rfl rfl (eq_false_of_ne_true c16) rfl rfl ?_
   refine TL.off rfl rfl rfl rfl (eq_false_of_ne_true c16) rfl rfl ?_
   refine TL.off rfl rfl rfl rfl (eq_false_of_ne_true c16) rfl rfl ?_
   refine TL.off rfl rfl rfl rfl (eq_false_of_ne_true c16) rfl rfl ?_
   refine TL.off rfl rfl rfl rfl (eq_false_of_ne_true c16) rfl rfl ?_
   refine TL.off rfl rfl rfl rfl (eq_false_of_ne_true c16) rfl rfl ?_
   refine TL.off rfl rfl rfl rfl (eq_false_of_ne_true c16) rfl rfl ?_
   refine TL.op1 (OpR.pickF rfl (eq_false_of_ne_true c16) rfl) rfl ?_
   refine aA rfl rfl ?_
   refine TL.off rfl rfl rfl rfl rfl rfl rfl ?_
   refine TL.op1 (OpR.pickF rfl rfl rfl) rfl ?_
   refine aA rfl rfl ?_
   refine TL.off rfl rfl rfl rfl rfl rfl rfl ?_
   refine TL.off rfl rfl rfl rfl rfl rfl rfl ?_
   refine TL.op1 (OpR.pickF rfl rfl rfl) rfl ?_
   refine aA rfl rfl ?_
   refine TL.off rfl rfl rfl rfl rfl rfl rfl ?_
   refine TL.off rfl rfl rfl rfl rfl rfl rfl ?_
   refine TL.op1 (OpR.pickF rfl rfl rfl) rfl ?_
   refine aA rfl rfl ?_
   refine TL.off rfl rfl rfl rfl rfl rfl rfl ?_
   refine TL.off rfl rfl rfl rfl rfl rfl rfl ?_
   refine TL.off rfl rfl rfl rfl rfl rfl rfl ?_
   refine TL.op1 (OpR.pickF rfl rfl rfl) rfl ?_
   refine aA rfl rfl ?_
   refine TL.off rfl rfl rfl rfl rfl rfl rfl ?_
   refine TL.off rfl rfl rfl rfl rfl rfl rfl ?_
   refine TL.op1 (OpR.pickF rfl rfl rfl) rfl ?_
   refine aA rfl rfl ?_
   refine TL.nil ?_
   obtain rfl := osi ht11
   exact ⟨_, gP [0] [] rfl rfl rfl, rfl⟩
 refine TL.on rfl rfl rfl rfl (c16) ?_
 refine TL.op (OpR.litRow rfl rfl rfl rfl rfl rfl rfl rfl (fun _ => rfl)) rfl (fun v17 => ?_)
 refine TL.on rfl rfl rfl rfl (c16) ?_
 refine TL.op1 (OpR.markRow 10 rfl rfl rfl rfl rfl rfl rfl rfl) rfl ?_
 refine TL.on rfl rfl rfl rfl (c16) ?_
 refine TL.op (OpR.litRow rfl rfl rfl rfl rfl rfl rfl rfl (fun _ => rfl)) rfl (fun v18 => ?_)
 refine TL.on rfl rfl rfl rfl (c16) ?_
 refine TL.op1 (OpR.markRow 11 rfl rfl rfl rfl rfl rfl rfl rfl) rfl ?_
 refine TL.on rfl rfl rfl rfl (c16) ?_
 obtain ⟨x19, hx19, ht11⟩ := bS ht11
 refine TL.op1 (OpR.call0 fn23 (find_Apart_c hx19) rfl) rfl ?_
 refine TL.on rfl rfl rfl rfl (c16) ?_
 refine TL.op1 (OpR.lit rfl rfl rfl rfl rfl rfl rfl) rfl ?_
 refine TL.on rfl rfl rfl rfl (c16) ?_
 obtain ⟨x20, hx20, ht11⟩ := bS ht11
 refine TL.op1 (OpR.call0 fn21 (ref09_Same_c hx20) rfl) rfl ?_
 refine TL.op1 (OpR.pickT rfl (c16) rfl) rfl ?_
 refine aA rfl rfl ?_
 rcases ite_some ht11 with ⟨c21, ht11⟩ | ⟨c21, ht11⟩
 rotate_left
 · refine TL.off rfl rfl rfl rfl (eq_false_of_ne_true c21) rfl rfl ?_
   refine TL.op1 (OpR.pickF rfl (eq_false_of_ne_true c21) rfl) rfl ?_
   refine aA rfl rfl ?_
   refine TL.off rfl rfl rfl rfl rfl rfl rfl ?_
   refine TL.off rfl rfl rfl rfl rfl rfl rfl ?_
   refine TL.op1 (OpR.pickF rfl rfl rfl) rfl ?_
   refine aA rfl rfl ?_
   refine TL.off rfl rfl rfl rfl rfl rfl rfl ?_
   refine TL.off rfl rfl rfl rfl rfl rfl rfl ?_
   refine TL.op1 (OpR.pickF rfl rfl rfl) rfl ?_
   refine aA rfl rfl ?_
   refine TL.off rfl rfl rfl rfl rfl rfl rfl ?_
   refine TL.off rfl rfl rfl rfl rfl rfl rfl ?_
   refine TL.off rfl rfl rfl rfl rfl rfl rfl ?_
   refine TL.op1 (OpR.pickF rfl rfl rfl) rfl ?_
   refine aA rfl rfl ?_
   refine TL.off rfl rfl rfl rfl rfl rfl rfl ?_
   refine TL.off rfl rfl rfl rfl rfl rfl rfl ?_
   refine TL.op1 (OpR.pickF rfl rfl rfl) rfl ?_
   refine aA rfl rfl ?_
   refine TL.nil ?_
   obtain rfl := osi ht11
   exact ⟨_, gP [0] [] rfl rfl rfl, rfl⟩
 refine TL.on rfl rfl rfl rfl (c21) ?_
 refine aA rfl rfl ?_
 refine TL.op1 (OpR.pickT rfl (c21) rfl) rfl ?_
 refine aA rfl rfl ?_
 rcases ite_some ht11 with ⟨c22, ht11⟩ | ⟨c22, ht11⟩
 rotate_left
 · refine TL.off rfl rfl rfl rfl (eq_false_of_ne_true c22) rfl rfl ?_
   refine TL.off rfl rfl rfl rfl (eq_false_of_ne_true c22) rfl rfl ?_
   refine TL.op1 (OpR.pickF rfl (eq_false_of_ne_true c22) rfl) rfl ?_
   refine aA rfl rfl ?_
   refine TL.off rfl rfl rfl rfl rfl rfl rfl ?_
   refine TL.off rfl rfl rfl rfl rfl rfl rfl ?_
   refine TL.op1 (OpR.pickF rfl rfl rfl) rfl ?_
   refine aA rfl rfl ?_
   refine TL.off rfl rfl rfl rfl rfl rfl rfl ?_
   refine TL.off rfl rfl rfl rfl rfl rfl rfl ?_
   refine TL.off rfl rfl rfl rfl rfl rfl rfl ?_
   refine TL.op1 (OpR.pickF rfl rfl rfl) rfl ?_
   refine aA rfl rfl ?_
   refine TL.off rfl rfl rfl rfl rfl rfl rfl ?_
   refine TL.off rfl rfl rfl rfl rfl rfl rfl ?_
   refine TL.op1 (OpR.pickF rfl rfl rfl) rfl ?_
   refine aA rfl rfl ?_
   refine TL.nil ?_
   obtain rfl := osi ht11
   exact ⟨_, gP [0] [] rfl rfl rfl, rfl⟩
 refine TL.on rfl rfl rfl rfl (c22) ?_
 refine aA rfl rfl ?_
 refine TL.on rfl rfl rfl rfl (c22) ?_
 refine aA rfl rfl ?_
 refine TL.op1 (OpR.pickT rfl (c22) rfl) rfl ?_
 refine aA rfl rfl ?_
 rcases ite_some ht11 with ⟨c23, ht11⟩ | ⟨c23, ht11⟩
 rotate_left
 · refine TL.off rfl rfl rfl rfl (beq_eq_false_iff_ne.2 c23) rfl rfl ?_
   refine TL.off rfl rfl rfl rfl (beq_eq_false_iff_ne.2 c23) rfl rfl ?_
   refine TL.op1 (OpR.pickF rfl (beq_eq_false_iff_ne.2 c23) rfl) rfl ?_
   refine aA rfl rfl ?_
   refine TL.off rfl rfl rfl rfl rfl rfl rfl ?_
   refine TL.off rfl rfl rfl rfl rfl rfl rfl ?_
   refine TL.off rfl rfl rfl rfl rfl rfl rfl ?_
   refine TL.op1 (OpR.pickF rfl rfl rfl) rfl ?_
   refine aA rfl rfl ?_
   refine TL.off rfl rfl rfl rfl rfl rfl rfl ?_
   refine TL.off rfl rfl rfl rfl rfl rfl rfl ?_
   refine TL.op1 (OpR.pickF rfl rfl rfl) rfl ?_
   refine aA rfl rfl ?_
   refine TL.nil ?_
   obtain rfl := osi ht11
   exact ⟨_, gP [0] [] rfl rfl rfl, rfl⟩
 refine TL.on rfl rfl rfl rfl (beq_iff_eq.2 c23) ?_
 refine aA rfl rfl ?_
 refine TL.on rfl rfl rfl rfl (beq_iff_eq.2 c23) ?_
 refine aA rfl rfl ?_
 refine TL.op1 (OpR.pickT rfl (beq_iff_eq.2 c23) rfl) rfl ?_
 refine aA rfl rfl ?_
 rcases ite_some ht11 with ⟨c24, ht11⟩ | ⟨c24, ht11⟩
 rotate_left
 · refine TL.off rfl rfl rfl rfl (beq_eq_false_iff_ne.2 c24) rfl rfl ?_
   refine TL.off rfl rfl rfl rfl (beq_eq_false_iff_ne.2 c24) rfl rfl ?_
   refine TL.off rfl rfl rfl rfl (beq_eq_false_iff_ne.2 c24) rfl rfl ?_
   refine TL.op1 (OpR.pickF rfl (beq_eq_false_iff_ne.2 c24) rfl) rfl ?_
   refine aA rfl rfl ?_
   refine TL.off rfl rfl rfl rfl rfl rfl rfl ?_
   refine TL.off rfl rfl rfl rfl rfl rfl rfl ?_
   refine TL.op1 (OpR.pickF rfl rfl rfl) rfl ?_
   refine aA rfl rfl ?_
   refine TL.nil ?_
   obtain rfl := osi ht11
   exact ⟨_, gP [0] [] rfl rfl rfl, rfl⟩
 refine TL.on rfl rfl rfl rfl (beq_iff_eq.2 c24) ?_
 refine aA rfl rfl ?_
 refine TL.on rfl rfl rfl rfl (beq_iff_eq.2 c24) ?_
 refine TL.op1 (OpR.toStr (bs := x10.1) rfl rfl rfl rfl rfl rfl rfl) rfl ?_
 refine TL.on rfl rfl rfl rfl (beq_iff_eq.2 c24) ?_
 refine TL.op1 (OpR.cast (OpR.pure rfl) (boolE (strEq _ _))) rfl ?_
 refine TL.op1 (OpR.pickT rfl (beq_iff_eq.2 c24) rfl) rfl ?_
 refine aA rfl rfl ?_
 rcases ite_some ht11 with ⟨c25, ht11⟩ | ⟨c25, ht11⟩
 rotate_left
 · refine TL.off rfl rfl rfl rfl (beq_eq_false_iff_ne.2 c25) rfl rfl ?_
   refine TL.off rfl rfl rfl rfl (beq_eq_false_iff_ne.2 c25) rfl rfl ?_
   refine TL.op1 (OpR.pickF rfl (beq_eq_false_iff_ne.2 c25) rfl) rfl ?_
   refine aA rfl rfl ?_
   refine TL.nil ?_
   obtain rfl := osi ht11
   exact ⟨_, gP [0] [] rfl rfl rfl, rfl⟩
 refine TL.on rfl rfl rfl rfl (beq_iff_eq.2 c25) ?_
 refine aA rfl rfl ?_
 refine TL.on rfl rfl rfl rfl (beq_iff_eq.2 c25) ?_
 refine aA rfl rfl ?_
 refine TL.op1 (OpR.pickT rfl (beq_iff_eq.2 c25) rfl) rfl ?_
 refine aA rfl rfl ?_
 refine TL.nil ?_
 obtain rfl := osi ht11
 exact ⟨_, gP [0] [] rfl rfl rfl, rfl⟩
noncomputable def law17_FindCells (a0 : List UInt8) (a1 : Int) (a2 : law17_Where) : Option Bool :=
  bnd (law11_Cut a0 1200) fun x1 =>
  bnd (law16_Hide x1 a1) fun x2 =>
  match x2 with
  | .inl x2 =>
      if x2.2.2.1 = true then
        bnd (law11_Cut a2.fP 30) fun x7 =>
        bnd (find_Next x2.1 x7 a2.fR a2.fC x2.2.2.2) fun x8 =>
        bnd (ref17_Next x2.2.1 x7 a2.fR a2.fC) fun x9 =>
        bnd (find_Prev x2.1 x7 a2.fR a2.fC x2.2.2.2) fun x11 =>
        bnd (ref17_Prev x2.2.1 x7 a2.fR a2.fC) fun x12 =>
        bnd (if (⟨x8.1, x8.2.1⟩ : ref17_Spot) = x9.1 then
          if (x8.2.2 == x9.2) = true then
            if (⟨x11.1, x11.2.1⟩ : ref17_Spot) = x12.1 then
              if (x11.2.2 == x12.2) = true then
                bnd (find_Count x2.1 x7 x2.2.2.2) fun x20 =>
                bnd (ref17_Having x2.2.1 x7) fun x21 =>
                if x20 = (x21.length : Int) then
                  bnd (law17_awake) fun x23 =>
                  some x23
                else
                  some false
              else
                some false
            else
              some false
          else
            some false
        else
          some false : Option Bool) fun t14 =>
        some t14
      else
        bnd (law17_awake) fun x24 =>
        some x24
  | .inr x2 =>
      some false
theorem law17_FindCells_c {a0 : List UInt8} {a1 : Int} {a2 : law17_Where} {res : Bool} (h0 : law17_FindCells a0 a1 a2 = some res) : CallF X 3 [.val (.string (bs a0)), .val (.int .u64 a1), .agg [.val (.string (bs a2.fP)), dN a2.fR, dN a2.fC]] [] (fun x => (dT res)) (fun x => []) := by
 unfold law17_FindCells at h0
 refine CallF.mkG (X := X) rfl Tryz.func3 rfl rfl Tryz.ntmps3 rfl rfl ?_
 refine aS ?_
 refine TL.op1 (OpR.boxImm rfl rfl) rfl ?_
 refine aA rfl rfl ?_
 refine aN rfl ?_
 refine aS ?_
 refine aA rfl rfl ?_
 obtain ⟨x1, hx1, h0⟩ := bS h0
 refine TL.op1 (OpR.call0 fn5 (law11_Cut_c hx1) rfl) rfl ?_
 refine aA rfl rfl ?_
 obtain ⟨x2, hx2, h0⟩ := bS h0
 rcases x2 with x2 | x2
 rotate_left
 · dsimp only at h0
   refine TL.op1 (OpR.call0 fn4 (law16_Hide_cx2 hx2) rfl) rfl ?_
   iterate 5 refine aA rfl rfl ?_
   refine TL.op (OpR.alloc rfl rfl (fun _ => rfl)) rfl (fun p25 => ?_)
   refine TL.op (OpR.alloc rfl rfl (fun _ => rfl)) rfl (fun p26 => ?_)
   refine TL.op0 (OpR.store 0 rfl rfl rfl rfl rfl rfl rfl rfl) ?_
   refine aA rfl rfl ?_
   refine TL.op0 (OpR.store 1 rfl rfl rfl rfl rfl rfl rfl rfl) ?_
   refine aA rfl rfl ?_
   refine aN rfl ?_
   refine T.seq ?_
   refine aS ?_
   iterate 2 refine aA rfl rfl ?_
   refine aN rfl ?_
   refine T.condT rfl rfl ?_
   refine aS ?_
   refine aA rfl rfl ?_
   refine TL.op1 (OpR.ptrNe (A := none) rfl rfl rfl) rfl ?_
   refine aA rfl rfl ?_
   refine TL.off rfl rfl rfl rfl rfl rfl rfl ?_
   refine TL.op1 (OpR.pickF rfl rfl rfl) rfl ?_
   refine aA rfl rfl ?_
   refine aN rfl ?_
   refine T.ret ?_
   obtain rfl := osi h0
   exact rP [] [6] [] rfl rfl rfl undef (cT rfl ResL.nil) rfl rfl rfl rfl
 dsimp only at h0
 refine TL.op (OpR.call [] fn4 (law16_Hide_cx1 hx2) rfl rfl rfl (fun _ => rfl)) rfl (fun w3 => ?_)
 iterate 5 refine aA rfl rfl ?_
 refine TL.op (OpR.alloc rfl rfl (fun _ => rfl)) rfl (fun p4 => ?_)
 refine TL.op (OpR.alloc rfl rfl (fun _ => rfl)) rfl (fun p5 => ?_)
 refine TL.op0 (OpR.store 2 rfl rfl rfl rfl rfl rfl rfl rfl) ?_
 refine aA rfl rfl ?_
 refine TL.op0 (OpR.store 3 rfl rfl rfl rfl rfl rfl rfl rfl) ?_
 refine aA rfl rfl ?_
 refine aN rfl ?_
 refine T.seq ?_
 refine aS ?_
 iterate 2 refine aA rfl rfl ?_
 refine aN rfl ?_
 rcases ite_some h0 with ⟨c6, h0⟩ | ⟨c6, h0⟩
 rotate_left
 · refine T.condT rfl (not_f (eq_false_of_ne_true c6)) ?_
   refine aS ?_
   refine aA rfl rfl ?_
   refine TL.op1 (OpR.ptrNe (A := some ⟨(blk (vn w3 0)), 0, none⟩) rfl rfl rfl) rfl ?_
   refine aA rfl rfl ?_
   refine TL.on rfl rfl rfl rfl rfl ?_
   obtain ⟨x24, hx24, h0⟩ := bS h0
   refine TL.op1 (OpR.call0 fn6 (law17_awake_c hx24) rfl) rfl ?_
   refine TL.op1 (OpR.pickT rfl rfl rfl) rfl ?_
   refine aA rfl rfl ?_
   refine aN rfl ?_
   refine T.ret ?_
   obtain rfl := osi h0
   exact rP [] [6] [] rfl rfl rfl undef (cT rfl ResL.nil) rfl rfl rfl rfl
 refine T.condF rfl (not_t (c6)) ?_
 refine aK rfl ?_
 refine aS ?_
 iterate 2 refine aA rfl rfl ?_
 obtain ⟨x7, hx7, h0⟩ := bS h0
 refine TL.op1 (OpR.call0 fn5 (law11_Cut_c hx7) rfl) rfl ?_
 refine aA rfl rfl ?_
 refine aN rfl ?_
 refine aS ?_
 refine aA rfl rfl ?_
 refine TL.op1 (OpR.toBytesM rfl rfl rfl rfl rfl rfl rfl) rfl ?_
 refine aA rfl rfl ?_
 refine aN rfl ?_
 refine aS ?_
 refine TL.op1 (OpR.loadPtr 2 rfl rfl rfl rfl) rfl ?_
 iterate 6 refine aA rfl rfl ?_
 obtain ⟨x8, hx8, h0⟩ := bS h0
 refine TL.op1 (OpR.call [0, 1] fn7 (find_Next_c hx8) rfl rfl rfl (fun _ => rfl)) rfl ?_
 iterate 7 refine aA rfl rfl ?_
 refine aN rfl ?_
 refine aS ?_
 refine TL.op1 (OpR.loadPtr 3 rfl rfl rfl rfl) rfl ?_
 iterate 5 refine aA rfl rfl ?_
 obtain ⟨x9, hx9, h0⟩ := bS h0
 refine TL.op1 (OpR.call0 fn8 (ref17_Next_c hx9) rfl) rfl ?_
 iterate 3 refine aA rfl rfl ?_
 refine TL.op (OpR.alloc rfl rfl (fun _ => rfl)) rfl (fun p10 => ?_)
 refine TL.op0 (OpR.store 4 rfl rfl rfl rfl rfl rfl rfl rfl) ?_
 refine aA rfl rfl ?_
 refine aN rfl ?_
 refine aS ?_
 refine TL.op1 (OpR.loadPtr 2 rfl rfl rfl rfl) rfl ?_
 iterate 6 refine aA rfl rfl ?_
 obtain ⟨x11, hx11, h0⟩ := bS h0
 refine TL.op1 (OpR.call [0, 1] fn9 (find_Prev_c hx11) rfl rfl rfl (fun _ => rfl)) rfl ?_
 iterate 7 refine aA rfl rfl ?_
 refine aN rfl ?_
 refine aS ?_
 refine TL.op1 (OpR.loadPtr 3 rfl rfl rfl rfl) rfl ?_
 iterate 5 refine aA rfl rfl ?_
 obtain ⟨x12, hx12, h0⟩ := bS h0
 refine TL.op1 (OpR.call0 fn10 (ref17_Prev_c hx12) rfl) rfl ?_
 iterate 3 refine aA rfl rfl ?_
 refine TL.op (OpR.alloc rfl rfl (fun _ => rfl)) rfl (fun p13 => ?_)
 refine TL.op0 (OpR.store 5 rfl rfl rfl rfl rfl rfl rfl rfl) ?_
 refine aA rfl rfl ?_
 refine aN rfl ?_
 refine T.seq ?_
 obtain ⟨t14, ht14, h0⟩ := bS h0
 refine T.cutC (fun S' => S' = ⟨[(6, (dT t14))], [], 124⟩) (fun _ h => h) ?_ ?_
 rotate_left
 · rintro _ rfl
   show T X _ _ _
   refine T.ret ?_
   obtain rfl := osi h0
   exact rO [] [6] rfl undef (cT rfl ResL.nil) rfl rfl rfl rfl
 rcases ite_some ht14 with ⟨c16, ht14⟩ | ⟨c16, ht14⟩
 rotate_left
 · refine T.drawQ drawsX [dN x8.1, dN x8.2.1, .agg [dN x8.1, dN x8.2.1], .agg [dN x9.1.fR, dN x9.1.fC], dT ((⟨x8.1, x8.2.1⟩ : ref17_Spot) == x9.1), dT ((⟨x8.1, x8.2.1⟩ : ref17_Spot) == x9.1), .tup [], .tup [], .tup [], dT false, dT false, .tup [], .tup [], .tup [], .tup [], .tup [], dT false, dT false, .tup [], .tup [], .tup [], dT false, dT false, .tup [], .tup [], .tup [], .tup [], .tup [], .tup [], .tup [], .tup [], .tup [], dT false, dT false, .tup [], dT false, dT false] [6] (by decide +kernel) rfl ?_ rfl ?_
   rotate_left
   · obtain rfl := osi ht14
     exact ⟨_, gP [6] [] rfl rfl rfl, rfl⟩
   iterate 2 refine aB rfl rfl rfl ?_
   refine OpsQ.yes (Want.plain rfl) rfl (OpR.build rfl rfl rfl rfl rfl) ?_
   refine OpsQ.yes (Want.plain rfl) rfl (OpR.loadPtr 4 rfl rfl rfl rfl) ?_
   refine OpsQ.yes (Want.plain rfl) rfl (OpR.cast (OpR.eqStruct rfl rfl rfl rfl rfl (by kernel_rfl) (by kernel_rfl)) (boolE (beq_ref17_Spot (⟨x8.1, x8.2.1⟩ : ref17_Spot) x9.1))) ?_
   refine aB rfl rfl rfl ?_
   refine OpsQ.no (Want.bool rfl rfl rfl rfl (by rw [(beq_eq_false_iff_ne.2 c16)]; rfl)) rfl ?_
   refine OpsQ.no (Want.bool rfl rfl rfl rfl (by rw [(beq_eq_false_iff_ne.2 c16)]; rfl)) rfl ?_
   refine OpsQ.no (Want.bool rfl rfl rfl rfl (by rw [(beq_eq_false_iff_ne.2 c16)]; rfl)) rfl ?_
   refine OpsQ.yes (Want.plain rfl) rfl (OpR.pickF rfl (beq_eq_false_iff_ne.2 c16) rfl) ?_
   refine aB rfl rfl rfl ?_
   refine OpsQ.no (Want.bool rfl rfl rfl rfl rfl) rfl ?_
   refine OpsQ.no (Want.bool rfl rfl rfl rfl rfl) rfl ?_
   refine OpsQ.no (Want.bool rfl rfl rfl rfl rfl) rfl ?_
   refine OpsQ.no (Want.bool rfl rfl rfl rfl rfl) rfl ?_
   refine OpsQ.no (Want.bool rfl rfl rfl rfl rfl) rfl ?_
   refine OpsQ.yes (Want.plain rfl) rfl (OpR.pickF rfl rfl rfl) ?_
   refine aB rfl rfl rfl ?_
   refine OpsQ.no (Want.bool rfl rfl rfl rfl rfl) rfl ?_
   refine OpsQ.no (Want.bool rfl rfl rfl rfl rfl) rfl ?_
   refine OpsQ.no (Want.bool rfl rfl rfl rfl rfl) rfl ?_
   refine OpsQ.yes (Want.plain rfl) rfl (OpR.pickF rfl rfl rfl) ?_
   refine aB rfl rfl rfl ?_
   refine OpsQ.no (Want.bool rfl rfl rfl rfl rfl) rfl ?_
   refine OpsQ.no (Want.bool rfl rfl rfl rfl rfl) rfl ?_
   refine OpsQ.no (Want.bool rfl rfl rfl rfl rfl) rfl ?_
   refine OpsQ.no (Want.bool rfl rfl rfl rfl rfl) rfl ?_
   refine OpsQ.no (Want.bool rfl rfl rfl rfl rfl) rfl ?_
   refine OpsQ.no (Want.bool rfl rfl rfl rfl rfl) rfl ?_
   refine OpsQ.no (Want.bool rfl rfl rfl rfl rfl) rfl ?_
   refine OpsQ.no (Want.bool rfl rfl rfl rfl rfl) rfl ?_
   refine OpsQ.no (Want.bool rfl rfl rfl rfl rfl) rfl ?_
   refine OpsQ.yes (Want.plain rfl) rfl (OpR.pickF rfl rfl rfl) ?_
   refine aB rfl rfl rfl ?_
   refine OpsQ.no (Want.bool rfl rfl rfl rfl rfl) rfl ?_
   refine OpsQ.yes (Want.plain rfl) rfl (OpR.pickF rfl rfl rfl) ?_
   refine aB rfl rfl rfl ?_
   exact OpsQ.nil
 rcases ite_some ht14 with ⟨c17, ht14⟩ | ⟨c17, ht14⟩
 rotate_left
 · refine T.drawQ drawsX [dN x8.1, dN x8.2.1, .agg [dN x8.1, dN x8.2.1], .agg [dN x9.1.fR, dN x9.1.fC], dT ((⟨x8.1, x8.2.1⟩ : ref17_Spot) == x9.1), dT ((⟨x8.1, x8.2.1⟩ : ref17_Spot) == x9.1), dT x8.2.2, dT x9.2, dT (x8.2.2 == x9.2), dT (x8.2.2 == x9.2), dT (x8.2.2 == x9.2), .tup [], .tup [], .tup [], .tup [], .tup [], dT false, dT false, .tup [], .tup [], .tup [], dT false, dT false, .tup [], .tup [], .tup [], .tup [], .tup [], .tup [], .tup [], .tup [], .tup [], dT false, dT false, .tup [], dT false, dT false] [6] (by decide +kernel) rfl ?_ rfl ?_
   rotate_left
   · obtain rfl := osi ht14
     exact ⟨_, gP [6] [] rfl rfl rfl, rfl⟩
   iterate 2 refine aB rfl rfl rfl ?_
   refine OpsQ.yes (Want.plain rfl) rfl (OpR.build rfl rfl rfl rfl rfl) ?_
   refine OpsQ.yes (Want.plain rfl) rfl (OpR.loadPtr 4 rfl rfl rfl rfl) ?_
   refine OpsQ.yes (Want.plain rfl) rfl (OpR.cast (OpR.eqStruct rfl rfl rfl rfl rfl (by kernel_rfl) (by kernel_rfl)) (boolE (beq_ref17_Spot (⟨x8.1, x8.2.1⟩ : ref17_Spot) x9.1))) ?_
   refine aB rfl rfl rfl ?_
   refine OpsQ.yes (Want.bool rfl rfl rfl rfl (by rw [(beq_iff_eq.2 c16)]; rfl)) rfl (OpR.pure rfl) ?_
   refine OpsQ.yes (Want.bool rfl rfl rfl rfl (by rw [(beq_iff_eq.2 c16)]; rfl)) rfl (OpR.pure rfl) ?_
   refine OpsQ.yes (Want.bool rfl rfl rfl rfl (by rw [(beq_iff_eq.2 c16)]; rfl)) rfl (OpR.eqBool rfl rfl rfl rfl) ?_
   refine OpsQ.yes (Want.plain rfl) rfl (OpR.pickT rfl (beq_iff_eq.2 c16) rfl) ?_
   refine aB rfl rfl rfl ?_
   refine OpsQ.no (Want.bool rfl rfl rfl rfl (by rw [(eq_false_of_ne_true c17)]; rfl)) rfl ?_
   refine OpsQ.no (Want.bool rfl rfl rfl rfl (by rw [(eq_false_of_ne_true c17)]; rfl)) rfl ?_
   refine OpsQ.no (Want.bool rfl rfl rfl rfl (by rw [(eq_false_of_ne_true c17)]; rfl)) rfl ?_
   refine OpsQ.no (Want.bool rfl rfl rfl rfl (by rw [(eq_false_of_ne_true c17)]; rfl)) rfl ?_
   refine OpsQ.no (Want.bool rfl rfl rfl rfl (by rw [(eq_false_of_ne_true c17)]; rfl)) rfl ?_
   refine OpsQ.yes (Want.plain rfl) rfl (OpR.pickF rfl (eq_false_of_ne_true c17) rfl) ?_
   refine aB rfl rfl rfl ?_
   refine OpsQ.no (Want.bool rfl rfl rfl rfl rfl) rfl ?_
   refine OpsQ.no (Want.bool rfl rfl rfl rfl rfl) rfl ?_
   refine OpsQ.no (Want.bool rfl rfl rfl rfl rfl) rfl ?_
   refine OpsQ.yes (Want.plain rfl) rfl (OpR.pickF rfl rfl rfl) ?_
   refine aB rfl rfl rfl ?_
   refine OpsQ.no (Want.bool rfl rfl rfl rfl rfl) rfl ?_
   refine OpsQ.no (Want.bool rfl rfl rfl rfl rfl) rfl ?_
   refine OpsQ.no (Want.bool rfl rfl rfl rfl rfl) rfl ?_
   refine OpsQ.no (Want.bool rfl rfl rfl rfl rfl) rfl ?_
   refine OpsQ.no (Want.bool rfl rfl rfl rfl rfl) rfl ?_
   refine OpsQ.no (Want.bool rfl rfl rfl rfl rfl) rfl ?_
   refine OpsQ.no (Want.bool rfl rfl rfl rfl rfl) rfl ?_
   refine OpsQ.no (Want.bool rfl rfl rfl rfl rfl) rfl ?_
   refine OpsQ.no (Want.bool rfl rfl rfl rfl rfl) rfl ?_
   refine OpsQ.yes (Want.plain rfl) rfl (OpR.pickF rfl rfl rfl) ?_
   refine aB rfl rfl rfl ?_
   refine OpsQ.no (Want.bool rfl rfl rfl rfl rfl) rfl ?_
   refine OpsQ.yes (Want.plain rfl) rfl (OpR.pickF rfl rfl rfl) ?_
   refine aB rfl rfl rfl ?_
   exact OpsQ.nil
 rcases ite_some ht14 with ⟨c18, ht14⟩ | ⟨c18, ht14⟩
 rotate_left
 · refine T.drawQ drawsX [dN x8.1, dN x8.2.1, .agg [dN x8.1, dN x8.2.1], .agg [dN x9.1.fR, dN x9.1.fC], dT ((⟨x8.1, x8.2.1⟩ : ref17_Spot) == x9.1), dT ((⟨x8.1, x8.2.1⟩ : ref17_Spot) == x9.1), dT x8.2.2, dT x9.2, dT (x8.2.2 == x9.2), dT (x8.2.2 == x9.2), dT (x8.2.2 == x9.2), dN x11.1, dN x11.2.1, .agg [dN x11.1, dN x11.2.1], .agg [dN x12.1.fR, dN x12.1.fC], dT ((⟨x11.1, x11.2.1⟩ : ref17_Spot) == x12.1), dT ((⟨x11.1, x11.2.1⟩ : ref17_Spot) == x12.1), dT ((⟨x11.1, x11.2.1⟩ : ref17_Spot) == x12.1), .tup [], .tup [], .tup [], dT false, dT false, .tup [], .tup [], .tup [], .tup [], .tup [], .tup [], .tup [], .tup [], .tup [], dT false, dT false, .tup [], dT false, dT false] [6] (by decide +kernel) rfl ?_ rfl ?_
   rotate_left
   · obtain rfl := osi ht14
     exact ⟨_, gP [6] [] rfl rfl rfl, rfl⟩
   iterate 2 refine aB rfl rfl rfl ?_
   refine OpsQ.yes (Want.plain rfl) rfl (OpR.build rfl rfl rfl rfl rfl) ?_
   refine OpsQ.yes (Want.plain rfl) rfl (OpR.loadPtr 4 rfl rfl rfl rfl) ?_
   refine OpsQ.yes (Want.plain rfl) rfl (OpR.cast (OpR.eqStruct rfl rfl rfl rfl rfl (by kernel_rfl) (by kernel_rfl)) (boolE (beq_ref17_Spot (⟨x8.1, x8.2.1⟩ : ref17_Spot) x9.1))) ?_
   refine aB rfl rfl rfl ?_
   refine OpsQ.yes (Want.bool rfl rfl rfl rfl (by rw [(beq_iff_eq.2 c16)]; rfl)) rfl (OpR.pure rfl) ?_
   refine OpsQ.yes (Want.bool rfl rfl rfl rfl (by rw [(beq_iff_eq.2 c16)]; rfl)) rfl (OpR.pure rfl) ?_
   refine OpsQ.yes (Want.bool rfl rfl rfl rfl (by rw [(beq_iff_eq.2 c16)]; rfl)) rfl (OpR.eqBool rfl rfl rfl rfl) ?_
   refine OpsQ.yes (Want.plain rfl) rfl (OpR.pickT rfl (beq_iff_eq.2 c16) rfl) ?_
   refine aB rfl rfl rfl ?_
   refine OpsQ.yes (Want.bool rfl rfl rfl rfl (by rw [(c17)]; rfl)) rfl (OpR.pure rfl) ?_
   refine OpsQ.yes (Want.bool rfl rfl rfl rfl (by rw [(c17)]; rfl)) rfl (OpR.pure rfl) ?_
   refine OpsQ.yes (Want.bool rfl rfl rfl rfl (by rw [(c17)]; rfl)) rfl (OpR.build rfl rfl rfl rfl rfl) ?_
   refine OpsQ.yes (Want.bool rfl rfl rfl rfl (by rw [(c17)]; rfl)) rfl (OpR.loadPtr 5 rfl rfl rfl rfl) ?_
   refine OpsQ.yes (Want.bool rfl rfl rfl rfl (by rw [(c17)]; rfl)) rfl (OpR.cast (OpR.eqStruct rfl rfl rfl rfl rfl (by kernel_rfl) (by kernel_rfl)) (boolE (beq_ref17_Spot (⟨x11.1, x11.2.1⟩ : ref17_Spot) x12.1))) ?_
   refine OpsQ.yes (Want.plain rfl) rfl (OpR.pickT rfl (c17) rfl) ?_
   refine aB rfl rfl rfl ?_
   refine OpsQ.no (Want.bool rfl rfl rfl rfl (by rw [(beq_eq_false_iff_ne.2 c18)]; rfl)) rfl ?_
   refine OpsQ.no (Want.bool rfl rfl rfl rfl (by rw [(beq_eq_false_iff_ne.2 c18)]; rfl)) rfl ?_
   refine OpsQ.no (Want.bool rfl rfl rfl rfl (by rw [(beq_eq_false_iff_ne.2 c18)]; rfl)) rfl ?_
   refine OpsQ.yes (Want.plain rfl) rfl (OpR.pickF rfl (beq_eq_false_iff_ne.2 c18) rfl) ?_
   refine aB rfl rfl rfl ?_
   refine OpsQ.no (Want.bool rfl rfl rfl rfl rfl) rfl ?_
   refine OpsQ.no (Want.bool rfl rfl rfl rfl rfl) rfl ?_
   refine OpsQ.no (Want.bool rfl rfl rfl rfl rfl) rfl ?_
   refine OpsQ.no (Want.bool rfl rfl rfl rfl rfl) rfl ?_
   refine OpsQ.no (Want.bool rfl rfl rfl rfl rfl) rfl ?_
   refine OpsQ.no (Want.bool rfl rfl rfl rfl rfl) rfl ?_
   refine OpsQ.no (Want.bool rfl rfl rfl rfl rfl) rfl ?_
   refine OpsQ.no (Want.bool rfl rfl rfl rfl rfl) rfl ?_
   refine OpsQ.no (Want.bool rfl rfl rfl rfl rfl) rfl ?_
   refine OpsQ.yes (Want.plain rfl) rfl (OpR.pickF rfl rfl rfl) ?_
   refine aB rfl rfl rfl ?_
   refine OpsQ.no (Want.bool rfl rfl rfl rfl rfl) rfl ?_
   refine OpsQ.yes (Want.plain rfl) rfl (OpR.pickF rfl rfl rfl) ?_
   refine aB rfl rfl rfl ?_
   exact OpsQ.nil
 rcases ite_some ht14 with ⟨c19, ht14⟩ | ⟨c19, ht14⟩
 rotate_left
 · refine T.drawQ drawsX [dN x8.1, dN x8.2.1, .agg [dN x8.1, dN x8.2.1], .agg [dN x9.1.fR, dN x9.1.fC], dT ((⟨x8.1, x8.2.1⟩ : ref17_Spot) == x9.1), dT ((⟨x8.1, x8.2.1⟩ : ref17_Spot) == x9.1), dT x8.2.2, dT x9.2, dT (x8.2.2 == x9.2), dT (x8.2.2 == x9.2), dT (x8.2.2 == x9.2), dN x11.1, dN x11.2.1, .agg [dN x11.1, dN x11.2.1], .agg [dN x12.1.fR, dN x12.1.fC], dT ((⟨x11.1, x11.2.1⟩ : ref17_Spot) == x12.1), dT ((⟨x11.1, x11.2.1⟩ : ref17_Spot) == x12.1), dT ((⟨x11.1, x11.2.1⟩ : ref17_Spot) == x12.1), dT x11.2.2, dT x12.2, dT (x11.2.2 == x12.2), dT (x11.2.2 == x12.2), dT (x11.2.2 == x12.2), .tup [], .tup [], .tup [], .tup [], .tup [], .tup [], .tup [], .tup [], .tup [], dT false, dT false, .tup [], dT false, dT false] [6] (by decide +kernel) rfl ?_ rfl ?_
   rotate_left
   · obtain rfl := osi ht14
     exact ⟨_, gP [6] [] rfl rfl rfl, rfl⟩
   iterate 2 refine aB rfl rfl rfl ?_
   refine OpsQ.yes (Want.plain rfl) rfl (OpR.build rfl rfl rfl rfl rfl) ?_
   refine OpsQ.yes (Want.plain rfl) rfl (OpR.loadPtr 4 rfl rfl rfl rfl) ?_
   refine OpsQ.yes (Want.plain rfl) rfl (OpR.cast (OpR.eqStruct rfl rfl rfl rfl rfl (by kernel_rfl) (by kernel_rfl)) (boolE (beq_ref17_Spot (⟨x8.1, x8.2.1⟩ : ref17_Spot) x9.1))) ?_
   refine aB rfl rfl rfl ?_
   refine OpsQ.yes (Want.bool rfl rfl rfl rfl (by rw [(beq_iff_eq.2 c16)]; rfl)) rfl (OpR.pure rfl) ?_
   refine OpsQ.yes (Want.bool rfl rfl rfl rfl (by rw [(beq_iff_eq.2 c16)]; rfl)) rfl (OpR.pure rfl) ?_
   refine OpsQ.yes (Want.bool rfl rfl rfl rfl (by rw [(beq_iff_eq.2 c16)]; rfl)) rfl (OpR.eqBool rfl rfl rfl rfl) ?_
   refine OpsQ.yes (Want.plain rfl) rfl (OpR.pickT rfl (beq_iff_eq.2 c16) rfl) ?_
   refine aB rfl rfl rfl ?_
   refine OpsQ.yes (Want.bool rfl rfl rfl rfl (by rw [(c17)]; rfl)) rfl (OpR.pure rfl) ?_
   refine OpsQ.yes (Want.bool rfl rfl rfl rfl (by rw [(c17)]; rfl)) rfl (OpR.pure rfl) ?_
   refine OpsQ.yes (Want.bool rfl rfl rfl rfl (by rw [(c17)]; rfl)) rfl (OpR.build rfl rfl rfl rfl rfl) ?_
   refine OpsQ.yes (Want.bool rfl rfl rfl rfl (by rw [(c17)]; rfl)) rfl (OpR.loadPtr 5 rfl rfl rfl rfl) ?_
   refine OpsQ.yes (Want.bool rfl rfl rfl rfl (by rw [(c17)]; rfl)) rfl (OpR.cast (OpR.eqStruct rfl rfl rfl rfl rfl (by kernel_rfl) (by kernel_rfl)) (boolE (beq_ref17_Spot (⟨x11.1, x11.2.1⟩ : ref17_Spot) x12.1))) ?_
   refine OpsQ.yes (Want.plain rfl) rfl (OpR.pickT rfl (c17) rfl) ?_
   refine aB rfl rfl rfl ?_
   refine OpsQ.yes (Want.bool rfl rfl rfl rfl (by rw [(beq_iff_eq.2 c18)]; rfl)) rfl (OpR.pure rfl) ?_
   refine OpsQ.yes (Want.bool rfl rfl rfl rfl (by rw [(beq_iff_eq.2 c18)]; rfl)) rfl (OpR.pure rfl) ?_
   refine OpsQ.yes (Want.bool rfl rfl rfl rfl (by rw [(beq_iff_eq.2 c18)]; rfl)) rfl (OpR.eqBool rfl rfl rfl rfl) ?_
   refine OpsQ.yes (Want.plain rfl) rfl (OpR.pickT rfl (beq_iff_eq.2 c18) rfl) ?_
   refine aB rfl rfl rfl ?_
   refine OpsQ.no (Want.bool rfl rfl rfl rfl (by rw [(eq_false_of_ne_true c19)]; rfl)) rfl ?_
   refine OpsQ.no (Want.bool rfl rfl rfl rfl (by rw [(eq_false_of_ne_true c19)]; rfl)) rfl ?_
   refine OpsQ.no (Want.bool rfl rfl rfl rfl (by rw [(eq_false_of_ne_true c19)]; rfl)) rfl ?_
   refine OpsQ.no (Want.bool rfl rfl rfl rfl (by rw [(eq_false_of_ne_true c19)]; rfl)) rfl ?_
   refine OpsQ.no (Want.bool rfl rfl rfl rfl (by rw [(eq_false_of_ne_true c19)]; rfl)) rfl ?_
   refine OpsQ.no (Want.bool rfl rfl rfl rfl (by rw [(eq_false_of_ne_true c19)]; rfl)) rfl ?_
   refine OpsQ.no (Want.bool rfl rfl rfl rfl (by rw [(eq_false_of_ne_true c19)]; rfl)) rfl ?_
   refine OpsQ.no (Want.bool rfl rfl rfl rfl (by rw [(eq_false_of_ne_true c19)]; rfl)) rfl ?_
   refine OpsQ.no (Want.bool rfl rfl rfl rfl (by rw [(eq_false_of_ne_true c19)]; rfl)) rfl ?_
   refine OpsQ.yes (Want.plain rfl) rfl (OpR.pickF rfl (eq_false_of_ne_true c19) rfl) ?_
   refine aB rfl rfl rfl ?_
   refine OpsQ.no (Want.bool rfl rfl rfl rfl rfl) rfl ?_
   refine OpsQ.yes (Want.plain rfl) rfl (OpR.pickF rfl rfl rfl) ?_
   refine aB rfl rfl rfl ?_
   exact OpsQ.nil
 obtain ⟨x20, hx20, ht14⟩ := bS ht14
 obtain ⟨x21, hx21, ht14⟩ := bS ht14
 rcases ite_some ht14 with ⟨c22, ht14⟩ | ⟨c22, ht14⟩
 rotate_left
 · refine T.drawQ drawsX [dN x8.1, dN x8.2.1, .agg [dN x8.1, dN x8.2.1], .agg [dN x9.1.fR, dN x9.1.fC], dT ((⟨x8.1, x8.2.1⟩ : ref17_Spot) == x9.1), dT ((⟨x8.1, x8.2.1⟩ : ref17_Spot) == x9.1), dT x8.2.2, dT x9.2, dT (x8.2.2 == x9.2), dT (x8.2.2 == x9.2), dT (x8.2.2 == x9.2), dN x11.1, dN x11.2.1, .agg [dN x11.1, dN x11.2.1], .agg [dN x12.1.fR, dN x12.1.fC], dT ((⟨x11.1, x11.2.1⟩ : ref17_Spot) == x12.1), dT ((⟨x11.1, x11.2.1⟩ : ref17_Spot) == x12.1), dT ((⟨x11.1, x11.2.1⟩ : ref17_Spot) == x12.1), dT x11.2.2, dT x12.2, dT (x11.2.2 == x12.2), dT (x11.2.2 == x12.2), dT (x11.2.2 == x12.2), .agg [(eOP x2.1.fRows.fRoot), dT x2.1.fTail, dN x2.1.fEnd], dP (blk (vn w3 0)), .sl 1 (lB x7), dN x20, .agg [.sl 3 (List.map e_ref08_Row x2.2.1.fRows), dT x2.2.1.fTail, dN x2.2.1.fEnd], .val (.string (bs x7)), .sl 2 (List.map e_ref17_Spot x21), dN (x21.length : Int), dT (x20 == (x21.length : Int)), dT (x20 == (x21.length : Int)), dT (x20 == (x21.length : Int)), .tup [], dT false, dT false] [6] (by decide +kernel) rfl ?_ rfl ?_
   rotate_left
   · obtain rfl := osi ht14
     exact ⟨_, gP [6] [] rfl rfl rfl, rfl⟩
   iterate 2 refine aB rfl rfl rfl ?_
   refine OpsQ.yes (Want.plain rfl) rfl (OpR.build rfl rfl rfl rfl rfl) ?_
   refine OpsQ.yes (Want.plain rfl) rfl (OpR.loadPtr 4 rfl rfl rfl rfl) ?_
   refine OpsQ.yes (Want.plain rfl) rfl (OpR.cast (OpR.eqStruct rfl rfl rfl rfl rfl (by kernel_rfl) (by kernel_rfl)) (boolE (beq_ref17_Spot (⟨x8.1, x8.2.1⟩ : ref17_Spot) x9.1))) ?_
   refine aB rfl rfl rfl ?_
   refine OpsQ.yes (Want.bool rfl rfl rfl rfl (by rw [(beq_iff_eq.2 c16)]; rfl)) rfl (OpR.pure rfl) ?_
   refine OpsQ.yes (Want.bool rfl rfl rfl rfl (by rw [(beq_iff_eq.2 c16)]; rfl)) rfl (OpR.pure rfl) ?_
   refine OpsQ.yes (Want.bool rfl rfl rfl rfl (by rw [(beq_iff_eq.2 c16)]; rfl)) rfl (OpR.eqBool rfl rfl rfl rfl) ?_
   refine OpsQ.yes (Want.plain rfl) rfl (OpR.pickT rfl (beq_iff_eq.2 c16) rfl) ?_
   refine aB rfl rfl rfl ?_
   refine OpsQ.yes (Want.bool rfl rfl rfl rfl (by rw [(c17)]; rfl)) rfl (OpR.pure rfl) ?_
   refine OpsQ.yes (Want.bool rfl rfl rfl rfl (by rw [(c17)]; rfl)) rfl (OpR.pure rfl) ?_
   refine OpsQ.yes (Want.bool rfl rfl rfl rfl (by rw [(c17)]; rfl)) rfl (OpR.build rfl rfl rfl rfl rfl) ?_
   refine OpsQ.yes (Want.bool rfl rfl rfl rfl (by rw [(c17)]; rfl)) rfl (OpR.loadPtr 5 rfl rfl rfl rfl) ?_
   refine OpsQ.yes (Want.bool rfl rfl rfl rfl (by rw [(c17)]; rfl)) rfl (OpR.cast (OpR.eqStruct rfl rfl rfl rfl rfl (by kernel_rfl) (by kernel_rfl)) (boolE (beq_ref17_Spot (⟨x11.1, x11.2.1⟩ : ref17_Spot) x12.1))) ?_
   refine OpsQ.yes (Want.plain rfl) rfl (OpR.pickT rfl (c17) rfl) ?_
   refine aB rfl rfl rfl ?_
   refine OpsQ.yes (Want.bool rfl rfl rfl rfl (by rw [(beq_iff_eq.2 c18)]; rfl)) rfl (OpR.pure rfl) ?_
   refine OpsQ.yes (Want.bool rfl rfl rfl rfl (by rw [(beq_iff_eq.2 c18)]; rfl)) rfl (OpR.pure rfl) ?_
   refine OpsQ.yes (Want.bool rfl rfl rfl rfl (by rw [(beq_iff_eq.2 c18)]; rfl)) rfl (OpR.eqBool rfl rfl rfl rfl) ?_
   refine OpsQ.yes (Want.plain rfl) rfl (OpR.pickT rfl (beq_iff_eq.2 c18) rfl) ?_
   refine aB rfl rfl rfl ?_
   refine OpsQ.yes (Want.bool rfl rfl rfl rfl (by rw [(c19)]; rfl)) rfl (OpR.loadPtr 2 rfl rfl rfl rfl) ?_
   refine OpsQ.yes (Want.bool rfl rfl rfl rfl (by rw [(c19)]; rfl)) rfl (OpR.pure rfl) ?_
   refine OpsQ.yes (Want.bool rfl rfl rfl rfl (by rw [(c19)]; rfl)) rfl (OpR.pure rfl) ?_
   refine OpsQ.yes (Want.bool rfl rfl rfl rfl (by rw [(c19)]; rfl)) rfl (OpR.call [0, 1] fn11 (find_Count_c hx20) rfl rfl rfl (fun _ => rfl)) ?_
   refine OpsQ.yes (Want.bool rfl rfl rfl rfl (by rw [(c19)]; rfl)) rfl (OpR.loadPtr 3 rfl rfl rfl rfl) ?_
   refine OpsQ.yes (Want.bool rfl rfl rfl rfl (by rw [(c19)]; rfl)) rfl (OpR.pure rfl) ?_
   refine OpsQ.yes (Want.bool rfl rfl rfl rfl (by rw [(c19)]; rfl)) rfl (OpR.call0 fn12 (ref17_Having_c hx21) rfl) ?_
   refine OpsQ.yes (Want.bool rfl rfl rfl rfl (by rw [(c19)]; rfl)) rfl (OpR.cast (OpR.pure rfl) (intE (lenM _ _))) ?_
   refine OpsQ.yes (Want.bool rfl rfl rfl rfl (by rw [(c19)]; rfl)) rfl (OpR.pure rfl) ?_
   refine OpsQ.yes (Want.plain rfl) rfl (OpR.pickT rfl (c19) rfl) ?_
   refine aB rfl rfl rfl ?_
   refine OpsQ.no (Want.bool rfl rfl rfl rfl (by rw [(beq_eq_false_iff_ne.2 c22)]; rfl)) rfl ?_
   refine OpsQ.yes (Want.plain rfl) rfl (OpR.pickF rfl (beq_eq_false_iff_ne.2 c22) rfl) ?_
   refine aB rfl rfl rfl ?_
   exact OpsQ.nil
 obtain ⟨x23, hx23, ht14⟩ := bS ht14
 refine T.drawQ drawsX [dN x8.1, dN x8.2.1, .agg [dN x8.1, dN x8.2.1], .agg [dN x9.1.fR, dN x9.1.fC], dT ((⟨x8.1, x8.2.1⟩ : ref17_Spot) == x9.1), dT ((⟨x8.1, x8.2.1⟩ : ref17_Spot) == x9.1), dT x8.2.2, dT x9.2, dT (x8.2.2 == x9.2), dT (x8.2.2 == x9.2), dT (x8.2.2 == x9.2), dN x11.1, dN x11.2.1, .agg [dN x11.1, dN x11.2.1], .agg [dN x12.1.fR, dN x12.1.fC], dT ((⟨x11.1, x11.2.1⟩ : ref17_Spot) == x12.1), dT ((⟨x11.1, x11.2.1⟩ : ref17_Spot) == x12.1), dT ((⟨x11.1, x11.2.1⟩ : ref17_Spot) == x12.1), dT x11.2.2, dT x12.2, dT (x11.2.2 == x12.2), dT (x11.2.2 == x12.2), dT (x11.2.2 == x12.2), .agg [(eOP x2.1.fRows.fRoot), dT x2.1.fTail, dN x2.1.fEnd], dP (blk (vn w3 0)), .sl 1 (lB x7), dN x20, .agg [.sl 3 (List.map e_ref08_Row x2.2.1.fRows), dT x2.2.1.fTail, dN x2.2.1.fEnd], .val (.string (bs x7)), .sl 2 (List.map e_ref17_Spot x21), dN (x21.length : Int), dT (x20 == (x21.length : Int)), dT (x20 == (x21.length : Int)), dT (x20 == (x21.length : Int)), dT x23, dT x23, dT x23] [6] (by decide +kernel) rfl ?_ rfl ?_
 rotate_left
 · obtain rfl := osi ht14
   exact ⟨_, gP [6] [] rfl rfl rfl, rfl⟩
 iterate 2 refine aB rfl rfl rfl ?_
 refine OpsQ.yes (Want.plain rfl) rfl (OpR.build rfl rfl rfl rfl rfl) ?_
 refine OpsQ.yes (Want.plain rfl) rfl (OpR.loadPtr 4 rfl rfl rfl rfl) ?_
 refine OpsQ.yes (Want.plain rfl) rfl (OpR.cast (OpR.eqStruct rfl rfl rfl rfl rfl (by kernel_rfl) (by kernel_rfl)) (boolE (beq_ref17_Spot (⟨x8.1, x8.2.1⟩ : ref17_Spot) x9.1))) ?_
 refine aB rfl rfl rfl ?_
 refine OpsQ.yes (Want.bool rfl rfl rfl rfl (by rw [(beq_iff_eq.2 c16)]; rfl)) rfl (OpR.pure rfl) ?_
 refine OpsQ.yes (Want.bool rfl rfl rfl rfl (by rw [(beq_iff_eq.2 c16)]; rfl)) rfl (OpR.pure rfl) ?_
 refine OpsQ.yes (Want.bool rfl rfl rfl rfl (by rw [(beq_iff_eq.2 c16)]; rfl)) rfl (OpR.eqBool rfl rfl rfl rfl) ?_
 refine OpsQ.yes (Want.plain rfl) rfl (OpR.pickT rfl (beq_iff_eq.2 c16) rfl) ?_
 refine aB rfl rfl rfl ?_
 refine OpsQ.yes (Want.bool rfl rfl rfl rfl (by rw [(c17)]; rfl)) rfl (OpR.pure rfl) ?_
 refine OpsQ.yes (Want.bool rfl rfl rfl rfl (by rw [(c17)]; rfl)) rfl (OpR.pure rfl) ?_
 refine OpsQ.yes (Want.bool rfl rfl rfl rfl (by rw [(c17)]; rfl)) rfl (OpR.build rfl rfl rfl rfl rfl) ?_
 refine OpsQ.yes (Want.bool rfl rfl rfl rfl (by rw [(c17)]; rfl)) rfl (OpR.loadPtr 5 rfl rfl rfl rfl) ?_
 refine OpsQ.yes (Want.bool rfl rfl rfl rfl (by rw [(c17)]; rfl)) rfl (OpR.cast (OpR.eqStruct rfl rfl rfl rfl rfl (by kernel_rfl) (by kernel_rfl)) (boolE (beq_ref17_Spot (⟨x11.1, x11.2.1⟩ : ref17_Spot) x12.1))) ?_
 refine OpsQ.yes (Want.plain rfl) rfl (OpR.pickT rfl (c17) rfl) ?_
 refine aB rfl rfl rfl ?_
 refine OpsQ.yes (Want.bool rfl rfl rfl rfl (by rw [(beq_iff_eq.2 c18)]; rfl)) rfl (OpR.pure rfl) ?_
 refine OpsQ.yes (Want.bool rfl rfl rfl rfl (by rw [(beq_iff_eq.2 c18)]; rfl)) rfl (OpR.pure rfl) ?_
 refine OpsQ.yes (Want.bool rfl rfl rfl rfl (by rw [(beq_iff_eq.2 c18)]; rfl)) rfl (OpR.eqBool rfl rfl rfl rfl) ?_
 refine OpsQ.yes (Want.plain rfl) rfl (OpR.pickT rfl (beq_iff_eq.2 c18) rfl) ?_
 refine aB rfl rfl rfl ?_
 refine OpsQ.yes (Want.bool rfl rfl rfl rfl (by rw [(c19)]; rfl)) rfl (OpR.loadPtr 2 rfl rfl rfl rfl) ?_
 refine OpsQ.yes (Want.bool rfl rfl rfl rfl (by rw [(c19)]; rfl)) rfl (OpR.pure rfl) ?_
 refine OpsQ.yes (Want.bool rfl rfl rfl rfl (by rw [(c19)]; rfl)) rfl (OpR.pure rfl) ?_
 refine OpsQ.yes (Want.bool rfl rfl rfl rfl (by rw [(c19)]; rfl)) rfl (OpR.call [0, 1] fn11 (find_Count_c hx20) rfl rfl rfl (fun _ => rfl)) ?_
 refine OpsQ.yes (Want.bool rfl rfl rfl rfl (by rw [(c19)]; rfl)) rfl (OpR.loadPtr 3 rfl rfl rfl rfl) ?_
 refine OpsQ.yes (Want.bool rfl rfl rfl rfl (by rw [(c19)]; rfl)) rfl (OpR.pure rfl) ?_
 refine OpsQ.yes (Want.bool rfl rfl rfl rfl (by rw [(c19)]; rfl)) rfl (OpR.call0 fn12 (ref17_Having_c hx21) rfl) ?_
 refine OpsQ.yes (Want.bool rfl rfl rfl rfl (by rw [(c19)]; rfl)) rfl (OpR.cast (OpR.pure rfl) (intE (lenM _ _))) ?_
 refine OpsQ.yes (Want.bool rfl rfl rfl rfl (by rw [(c19)]; rfl)) rfl (OpR.pure rfl) ?_
 refine OpsQ.yes (Want.plain rfl) rfl (OpR.pickT rfl (c19) rfl) ?_
 refine aB rfl rfl rfl ?_
 refine OpsQ.yes (Want.bool rfl rfl rfl rfl (by rw [(beq_iff_eq.2 c22)]; rfl)) rfl (OpR.call0 fn6 (law17_awake_c hx23) rfl) ?_
 refine OpsQ.yes (Want.plain rfl) rfl (OpR.pickT rfl (beq_iff_eq.2 c22) rfl) ?_
 refine aB rfl rfl rfl ?_
 exact OpsQ.nil
end Go.Proofs.YtbcbggdgkdfciaaGreat.S
