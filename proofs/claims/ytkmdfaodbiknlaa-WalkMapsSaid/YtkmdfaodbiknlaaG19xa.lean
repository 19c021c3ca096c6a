/- Printed by a program of this session's own (gen.py): Lean functions for Go functions, and the proofs that the Go code comes to their answers. -/
import Derived.Test.YtkmdfaodbiknlaaG14xa
import Derived.Test.YtkmdfaodbiknlaaG2xa
import Derived.Test.YtkmdfaodbiknlaaG12xa
set_option linter.unusedVariables false
set_option linter.unusedSimpArgs false
set_option maxRecDepth 20000
namespace Go.Proofs.Ytkmdfaodbiknlaa.S
open Go Go.Sm
attribute [local irreducible] T TL OpR CallT iter loop
noncomputable def law10_WalkMaps_1 (a0 : Int) (a1 : Int) (a2 : Int) : Option (Int × Int) :=
  some (w64 ((w64 (a1 * 2)) + a0), w64 (a2 + 1))
set_option maxHeartbeats 4000000 in
theorem law10_WalkMaps_1_c {a0 : Int} {a1 : Int} {a2 : Int} {b0 : Nat} {res : Int × Int} (h0 : law10_WalkMaps_1 a0 a1 a2 = some res) : CallF X 36 [.val (.int .i64 a0), .val (.int .i64 a1), .val (.pointer (some ⟨b0, 0, none⟩))] [.var b0 [.val (.int .i64 a2)] 3] (fun x => .val (.int .i64 res.1)) (fun x => [.var b0 [.val (.int .i64 res.2)] 3]) := by
 unfold law10_WalkMaps_1 at h0
 refine CallF.mkG (X := X) rfl Try.func36 rfl rfl Try.ntmps36 rfl rfl ?_
 refine T.seq ?_
 refine T.region ?_
 refine TL.op1 (OpR.pure rfl) rfl ?_
 refine TL.nil ?_
 show T X _ _ _
 refine T.seq ?_
 refine T.region ?_
 refine TL.op1 (OpR.loadPtr 0 rfl rfl rfl rfl) rfl ?_
 refine TL.op1 (OpR.pure rfl) rfl ?_
 refine TL.op0 (OpR.store 0 rfl rfl rfl rfl rfl rfl rfl rfl) ?_
 refine TL.nil ?_
 show T X _ _ _
 refine T.seq ?_
 refine T.region ?_
 refine TL.op1 (OpR.pure rfl) rfl ?_
 refine TL.op1 (OpR.pure rfl) rfl ?_
 refine TL.op1 (OpR.pure rfl) rfl ?_
 refine TL.op1 (OpR.pure rfl) rfl ?_
 refine TL.op1 (OpR.pure rfl) rfl ?_
 refine TL.nil ?_
 show T X _ _ _
 refine T.ret ?_
 obtain rfl := Option.some.inj h0
 exact PostG.retP (ks := [0]) (Gst.only [5] rfl) undef (ResL.cons (ResV.tmp rfl) ResL.nil) rfl rfl rfl rfl
noncomputable def walk_Map_int.l1 (x3 : (List Int)) (s6 : Int × Int × (List Int)) : Option (Lp (Int × Int × (List Int)) (Int × (List Int))) :=
  if s6.1 < (x3.length : Int) then
    bnd (idx s6.2.2 s6.1) fun x15 =>
    bnd (law10_WalkMaps_1 s6.1 x15 s6.2.1) fun x16 =>
    some (Lp.next (w64 (s6.1 + 1), x16.2, (s6.2.2.set s6.1.toNat x16.1)))
  else
    some (Lp.done (s6.2.1, s6.2.2))
noncomputable def walk_Map_int (a0 : tree_Tree_int) (a1 : Int) : Option (tree_Tree_int × Int) :=
  bnd (walk_All_int a0) fun x2 =>
  bnd (slices_Clone_int_int x2) fun x3 =>
  bnd (loop (walk_Map_int.l1 x3) (0, a1, x3) : Option (Int × (List Int))) fun t5 =>
  bnd (tree_Of_int t5.2) fun x17 =>
  some (x17, t5.1)
set_option maxHeartbeats 4000000 in
theorem walk_Map_int_c {a0 : tree_Tree_int} {a1 : Int} {b0 : Nat} {res : tree_Tree_int × Int} (h0 : walk_Map_int a0 a1 = some res) : CallF X 35 [.agg [(eOP a0.fRoot)], .fn (.func 36) [] [.val (.pointer (some ⟨b0, 0, none⟩))]] [.var b0 [.val (.int .i64 a1)] 3] (fun x => .agg [(eOP res.1.fRoot)]) (fun x => [.var b0 [.val (.int .i64 res.2)] 3]) := by
 unfold walk_Map_int at h0
 refine CallF.mkG (X := X) rfl Try.func35 rfl rfl Try.ntmps35 rfl rfl ?_
 refine T.seq ?_
 refine T.region ?_
 refine TL.op1 (OpR.boxImm rfl rfl) rfl ?_
 refine TL.op (OpR.alloc rfl rfl (fun _ => rfl)) rfl (fun p1 => ?_)
 refine TL.nil ?_
 show T X _ _ _
 refine T.seq ?_
 refine T.region ?_
 refine TL.op1 (OpR.pure rfl) rfl ?_
 obtain ⟨x2, hx2, h0⟩ := bnd_some h0
 refine TL.op1 (OpR.call0 fn42 (walk_All_int_c hx2) rfl) rfl ?_
 obtain ⟨x3, hx3, h0⟩ := bnd_some h0
 refine TL.op (OpR.call [] fn67 (slices_Clone_int_int_c hx3) rfl rfl rfl (fun _ => rfl)) rfl (fun w4 => ?_)
 refine TL.op1 (OpR.pure rfl) rfl ?_
 refine TL.nil ?_
 show T X _ _ _
 refine T.seq ?_
 refine T.seq ?_
 refine T.region ?_
 refine TL.op1 (OpR.pure rfl) rfl ?_
 refine TL.op1 (OpR.rowLenM (eI .i64) 2 rfl rfl rfl rfl) rfl ?_
 refine TL.op1 (OpR.pure rfl) rfl ?_
 refine TL.nil ?_
 show T X _ _ _
 obtain ⟨t5, ht5, h0⟩ := bnd_some h0
 refine T.cutC (fun S' => S' = ⟨[(5, .val (vn w4 0)), (4, .val (.pointer (some ⟨(blk p1), 0, none⟩)))], [.var b0 [.val (.int .i64 t5.1)] 3, .var (blk p1) [(eOP none)] 27, .row (vn w4 0) (List.map (eI .i64) t5.2) 1 3], 28⟩) (fun _ h => h) ?_ ?_
 rotate_left
 · rintro _ rfl
   show T X _ _ _
   refine T.seq ?_
   refine T.region ?_
   refine TL.op1 (OpR.pure rfl) rfl ?_
   refine TL.ghost (Gst.freezeRow 2 rfl rfl (ReS.cons (Re.base .all) (ReS.refl _)) (ReO.same (ReO.same (ReO.same ReO.nil)))) ?_
   obtain ⟨x17, hx17, h0⟩ := bnd_some h0
   refine TL.op1 (OpR.call0 fn12 (tree_Of_int_c hx17) rfl) rfl ?_
   refine TL.op0 (OpR.store 1 rfl rfl rfl rfl rfl rfl rfl rfl) ?_
   refine TL.nil ?_
   show T X _ _ _
   refine T.ret ?_
   obtain rfl := Option.some.inj h0
   exact PostG.retP (ks := [0]) (Gst.trans (Gst.only [4] rfl) (Gst.pick [0, 1] rfl rfl)) undef (ResL.cons (ResV.var 1 rfl rfl rfl rfl) ResL.nil) rfl rfl rfl rfl
 refine T.block ?_
 obtain ⟨n7, n12⟩ := loop_some ht5
 refine T.loop (fun n S' => ∃ S'', Gst S' S'' ∧ ∃ s6 : Int × Int × (List Int), S'' = ⟨[(13, .val (.int .i64 s6.1)), (12, .val (.int .i64 (x3.length : Int))), (11, .val (vn w4 0)), (5, .val (vn w4 0)), (4, .val (.pointer (some ⟨(blk p1), 0, none⟩))), (1, .fn (.func 36) [] [.val (.pointer (some ⟨b0, 0, none⟩))])], [.var b0 [.val (.int .i64 s6.2.1)] 3, .var (blk p1) [(eOP none)] 27, .row (vn w4 0) (List.map (eI .i64) s6.2.2) 1 3], 28⟩ ∧ iter (walk_Map_int.l1 x3) n s6 = some t5) n7 ?_ ?_
 · exact ⟨_, Gst.only [1, 4, 5, 11, 12, 13] rfl, (0, a1, x3), rfl, n12⟩
 rintro n7 _ ⟨_, g, s6, rfl, i11⟩
 refine T.ghost g ?_
 obtain ⟨m8, q9, rfl, q10, i11⟩ := iter_succ i11
 unfold walk_Map_int.l1 at q10
 refine T.seq ?_
 refine T.region ?_
 refine TL.op1 (OpR.pure rfl) rfl ?_
 refine TL.nil ?_
 show T X _ _ _
 refine T.seq ?_
 rcases ite_some q10 with ⟨c14, q10⟩ | ⟨c14, q10⟩
 rotate_left
 · refine T.condF rfl (decide_eq_false c14) ?_
   refine T.exit ?_
   obtain rfl := Option.some.inj q10
   obtain rfl : _ = _ := i11
   exact ⟨_, Gst.only [4, 5] rfl, rfl⟩
 refine T.condT rfl (decide_eq_true c14) ?_
 refine T.skip ?_
 show T X _ _ _
 refine T.seq ?_
 refine T.block ?_
 refine T.seq ?_
 refine T.region ?_
 refine TL.op1 (OpR.pure rfl) rfl ?_
 obtain ⟨x15, hx15, q10⟩ := bnd_some q10
 refine TL.op1 (OpR.rowIndexM (eI .i64) 2 hx15 rfl rfl rfl rfl rfl rfl rfl) rfl ?_
 refine TL.op1 (OpR.rowLoad0M (j := s6.1) (eI .i64) 2 hx15 rfl rfl rfl rfl) rfl ?_
 refine TL.op1 (OpR.pure rfl) rfl ?_
 refine TL.op1 (OpR.pure rfl) rfl ?_
 refine TL.nil ?_
 show T X _ _ _
 refine T.region ?_
 refine TL.op1 (OpR.pure rfl) rfl ?_
 refine TL.op1 (OpR.pure rfl) rfl ?_
 refine TL.op1 (OpR.pure rfl) rfl ?_
 refine TL.op1 (OpR.pure rfl) rfl ?_
 refine TL.op1 (OpR.pure rfl) rfl ?_
 obtain ⟨x16, hx16, q10⟩ := bnd_some q10
 refine TL.op1 (OpR.callV [0] rfl fn36 (law10_WalkMaps_1_c hx16) rfl rfl rfl (fun _ => rfl)) rfl ?_
 refine TL.op1 (OpR.rowIndexM (eI .i64) 2 hx15 rfl rfl rfl rfl rfl rfl rfl) rfl ?_
 refine TL.op0 (OpR.rowStore0M (j := s6.1) (eI .i64) x16.1 2 hx15 rfl rfl rfl rfl rfl rfl rfl rfl rfl) ?_
 refine TL.nil ?_
 show T X _ _ _
 refine T.region ?_
 refine TL.op1 (OpR.pure rfl) rfl ?_
 refine TL.op1 (OpR.pure rfl) rfl ?_
 refine TL.nil ?_
 obtain rfl := Option.some.inj q10
 exact ⟨m8, Nat.lt_succ_self _, _, Gst.only [1, 4, 5, 11, 12, 13] rfl, (w64 (s6.1 + 1), x16.2, (s6.2.2.set s6.1.toNat x16.1)), rfl, i11⟩
noncomputable def law10_WalkMaps_2 (a0 : Int) (a1 : Int) : Option Bool :=
  some ((rem a0 2) == a1)
set_option maxHeartbeats 4000000 in
theorem law10_WalkMaps_2_c {a0 : Int} {a1 : Int} {b0 : Nat} {res : Bool} (h0 : law10_WalkMaps_2 a0 a1 = some res) : CallF X 38 [.val (.int .i64 a0), .val (.pointer (some ⟨b0, 0, none⟩))] [.var b0 [.val (.int .i64 a1)] 3] (fun x => .val (.bool res)) (fun x => [.var b0 [.val (.int .i64 a1)] 3]) := by
 unfold law10_WalkMaps_2 at h0
 refine CallF.mkG (X := X) rfl Try.func38 rfl rfl Try.ntmps38 rfl rfl ?_
 refine T.seq ?_
 refine T.region ?_
 refine TL.op1 (OpR.pure rfl) rfl ?_
 refine TL.nil ?_
 show T X _ _ _
 refine T.seq ?_
 refine T.region ?_
 refine TL.op1 (OpR.pure rfl) rfl ?_
 refine TL.op1 (OpR.pure rfl) rfl ?_
 refine TL.op1 (OpR.loadPtr 0 rfl rfl rfl rfl) rfl ?_
 refine TL.op1 (OpR.pure rfl) rfl ?_
 refine TL.op1 (OpR.pure rfl) rfl ?_
 refine TL.nil ?_
 show T X _ _ _
 refine T.ret ?_
 obtain rfl := Option.some.inj h0
 exact PostG.retP (ks := [0]) (Gst.only [3] rfl) undef (ResL.cons (ResV.tmp rfl) ResL.nil) rfl rfl rfl rfl
noncomputable def walk_Index_int_r0_2 (a0 : Int) (a1 : Int) (a2 : Int) (a3 : Int) : Option (Int ⊕ Unit) :=
  bnd (law10_WalkMaps_2 a1 a2) fun x31 =>
  if x31 = true then
    some (Sum.inl a0)
  else
    some (Sum.inr ())
set_option maxHeartbeats 4000000 in
theorem walk_Index_int_r0_2_c {a0 : Int} {a1 : Int} {a2 : Int} {a3 : Int} {b0 : Nat} {b1 : Nat} {b2 : Nat} {res : Int ⊕ Unit} (h0 : walk_Index_int_r0_2 a0 a1 a2 a3 = some res) : RoundF X b0 [.val (.int .i64 a0), .val (.int .i64 a1)] [.lp b0 .ready none [14, 15] rfA37_0 rfB37_0 [(6, .val (.pointer (some ⟨b2, 0, none⟩))), (5, .nod [.fn (.func 38) [] [.val (.pointer (some ⟨b1, 0, none⟩))]])] 20, .var b1 [.val (.int .i64 a2)] 3, .var b2 [.val (.int .i64 a3)] 3] (fun x => (match res with | .inl res => .val (.bool false) | .inr res => .val (.bool true))) (fun x => (match res with | .inl res => [.lp b0 .done (some (.ret)) [14, 15] rfA37_0 rfB37_0 [(6, .val (.pointer (some ⟨b2, 0, none⟩))), (5, .nod [.fn (.func 38) [] [.val (.pointer (some ⟨b1, 0, none⟩))]])] 20, .var b1 [.val (.int .i64 a2)] 3, .var b2 [.val (.int .i64 res)] 3] | .inr res => [.lp b0 .ready none [14, 15] rfA37_0 rfB37_0 [(6, .val (.pointer (some ⟨b2, 0, none⟩))), (5, .nod [.fn (.func 38) [] [.val (.pointer (some ⟨b1, 0, none⟩))]])] 20, .var b1 [.val (.int .i64 a2)] 3, .var b2 [.val (.int .i64 a3)] 3])) := by
 unfold walk_Index_int_r0_2 at h0
 refine RoundF.mk (X := X) rfl rfl rfl ?_
 refine T.seq ?_
 refine T.region ?_
 refine TL.op1 (OpR.pure rfl) rfl ?_
 refine TL.nil ?_
 show T (X.inR b0) _ _ _
 refine T.region ?_
 refine TL.op1 (OpR.pure rfl) rfl ?_
 refine TL.nil ?_
 refine RoundA.mk ?_
 refine T.block ?_
 refine T.seq ?_
 refine T.region ?_
 refine TL.op1 (OpR.pure rfl) rfl ?_
 refine TL.op1 (OpR.pure rfl) rfl ?_
 obtain ⟨x31, hx31, h0⟩ := bnd_some h0
 refine TL.op1 (OpR.callV [1] rfl fn38 (law10_WalkMaps_2_c hx31) rfl rfl rfl (fun _ => rfl)) rfl ?_
 refine TL.nil ?_
 show T (X.inR b0) _ _ _
 rcases ite_some h0 with ⟨c32, h0⟩ | ⟨c32, h0⟩
 rotate_left
 · refine T.condF rfl (eq_false_of_ne_true c32) ?_
   refine T.skip ?_
   obtain rfl := Option.some.inj h0
   exact RoundG.mk (ks := [0, 1, 2]) (Gst.only [] rfl) undef rfl rfl rfl rfl rfl
 refine T.condT rfl (c32) ?_
 refine T.seq ?_
 refine T.region ?_
 refine TL.op1 (OpR.pure rfl) rfl ?_
 refine TL.op0 (OpR.store 2 rfl rfl rfl rfl rfl rfl rfl rfl) ?_
 refine TL.nil ?_
 show T (X.inR b0) _ _ _
 refine T.ret ?_
 obtain rfl := Option.some.inj h0
 exact RoundG.mk (ks := [0, 1, 2]) (Gst.only [] rfl) undef rfl rfl rfl rfl rfl
theorem walk_Index_int_r0_2_cx1 {a0 : Int} {a1 : Int} {a2 : Int} {a3 : Int} {b0 : Nat} {b1 : Nat} {b2 : Nat} {res : Int} (h0 : walk_Index_int_r0_2 a0 a1 a2 a3 = some (Sum.inl res)) : RoundF X b0 [.val (.int .i64 a0), .val (.int .i64 a1)] [.lp b0 .ready none [14, 15] rfA37_0 rfB37_0 [(6, .val (.pointer (some ⟨b2, 0, none⟩))), (5, .nod [.fn (.func 38) [] [.val (.pointer (some ⟨b1, 0, none⟩))]])] 20, .var b1 [.val (.int .i64 a2)] 3, .var b2 [.val (.int .i64 a3)] 3] (fun x => .val (.bool false)) (fun x => [.lp b0 .done (some (.ret)) [14, 15] rfA37_0 rfB37_0 [(6, .val (.pointer (some ⟨b2, 0, none⟩))), (5, .nod [.fn (.func 38) [] [.val (.pointer (some ⟨b1, 0, none⟩))]])] 20, .var b1 [.val (.int .i64 a2)] 3, .var b2 [.val (.int .i64 res)] 3]) := walk_Index_int_r0_2_c h0
theorem walk_Index_int_r0_2_cx2 {a0 : Int} {a1 : Int} {a2 : Int} {a3 : Int} {b0 : Nat} {b1 : Nat} {b2 : Nat} {res : Unit} (h0 : walk_Index_int_r0_2 a0 a1 a2 a3 = some (Sum.inr res)) : RoundF X b0 [.val (.int .i64 a0), .val (.int .i64 a1)] [.lp b0 .ready none [14, 15] rfA37_0 rfB37_0 [(6, .val (.pointer (some ⟨b2, 0, none⟩))), (5, .nod [.fn (.func 38) [] [.val (.pointer (some ⟨b1, 0, none⟩))]])] 20, .var b1 [.val (.int .i64 a2)] 3, .var b2 [.val (.int .i64 a3)] 3] (fun x => .val (.bool true)) (fun x => [.lp b0 .ready none [14, 15] rfA37_0 rfB37_0 [(6, .val (.pointer (some ⟨b2, 0, none⟩))), (5, .nod [.fn (.func 38) [] [.val (.pointer (some ⟨b1, 0, none⟩))]])] 20, .var b1 [.val (.int .i64 a2)] 3, .var b2 [.val (.int .i64 a3)] 3]) := walk_Index_int_r0_2_c h0
noncomputable def walk_Range_int_1_3.l1 (a1 : Int) (a3 : Int) (a4 : Int) (s9 : Int × (List walk_frame_int)) : Option (Lp (Int × (List walk_frame_int)) (Ex Unit (Unit ⊕ Int))) :=
  if s9.1 < a1 then
    bnd (walk_stack_int_top s9.2) fun x18 =>
    bnd (idx s9.2 x18) fun x19 =>
    bnd (some x19.fN) fun q20 => match q20 with
      | none =>
        none
      | some z21 =>
        bnd (o_tree_Node_int z21) fun x23 =>
        bnd (if x19.fNext = (x23.fItems.length : Int) then
          bnd (walk_stack_int_forth s9.2) fun x28 =>
          some x28.2
        else
          some s9.2 : Option (List walk_frame_int)) fun t25 =>
        bnd (walk_stack_int_top t25) fun x30 =>
        bnd (idx t25 x30) fun x31 =>
        bnd (some x31.fN) fun q32 => match q32 with
          | none =>
            none
          | some z33 =>
            bnd (o_tree_Node_int z33) fun x35 =>
            bnd (idx x35.fItems x31.fNext) fun x37 =>
            bnd (walk_Index_int_r0_2 s9.1 x37 a3 a4) fun x38 =>
            match x38 with
            | .inl x38 =>
                some (Lp.done (Ex.ret (Sum.inr x38)))
            | .inr x38 =>
                some (Lp.next (w64 (s9.1 + 1), (t25.set x30.toNat (⟨x31.fN, x31.fFirst, w64 (x31.fNext + 1)⟩ : walk_frame_int))))
  else
    some (Lp.done (Ex.brk ()))
noncomputable def walk_Range_int_1_3 (a0 : Int) (a1 : Int) (a2 : Option NP) (a3 : Int) (a4 : Int) : Option (Unit ⊕ Int) :=
  if a0 = a1 then
    some (Sum.inl ())
  else
    bnd (tree_Tree_int_Root (⟨a2⟩ : tree_Tree_int)) fun x4 =>
    match x4 with
    | .inl x4 =>
        none
    | .inr x4 =>
        bnd (walk_stack_int_down x4.1 x4.2.1 x4.2.2 0 a0) fun x5 =>
        bnd (loop (walk_Range_int_1_3.l1 a1 a3 a4) (a0, x5) : Option (Ex Unit (Unit ⊕ Int))) fun t6 => match t6 with
          | .brk u7 =>
            some (Sum.inl ())
          | .ret u7 => some u7
set_option maxHeartbeats 4000000 in
theorem walk_Range_int_1_3_c {a0 : Int} {a1 : Int} {a2 : Option NP} {a3 : Int} {a4 : Int} {b0 : Nat} {b1 : Nat} {b2 : Nat} {b3 : Nat} {b4 : Nat} {b5 : Nat} {res : Unit ⊕ Int} (h0 : walk_Range_int_1_3 a0 a1 a2 a3 a4 = some res) : CallF X 68 [.fn (.yield b0) [] [], .val (.pointer (some ⟨b1, 0, none⟩)), .val (.pointer (some ⟨b2, 0, none⟩)), .val (.pointer (some ⟨b3, 0, none⟩))] [.lp b0 .ready none [14, 15] rfA37_0 rfB37_0 [(6, .val (.pointer (some ⟨b5, 0, none⟩))), (5, .nod [.fn (.func 38) [] [.val (.pointer (some ⟨b4, 0, none⟩))]])] 20, .var b1 [.val (.int .i64 a0)] 3, .var b2 [.val (.int .i64 a1)] 3, .var b3 [(eOP a2)] 27, .var b4 [.val (.int .i64 a3)] 3, .var b5 [.val (.int .i64 a4)] 3] (fun x => (match res with | .inl res => .tup [] | .inr res => .tup [])) (fun x => (match res with | .inl res => [.lp b0 .ready none [14, 15] rfA37_0 rfB37_0 [(6, .val (.pointer (some ⟨b5, 0, none⟩))), (5, .nod [.fn (.func 38) [] [.val (.pointer (some ⟨b4, 0, none⟩))]])] 20, .var b1 [.val (.int .i64 a0)] 3, .var b2 [.val (.int .i64 a1)] 3, .var b3 [(eOP a2)] 27, .var b4 [.val (.int .i64 a3)] 3, .var b5 [.val (.int .i64 a4)] 3] | .inr res => [.lp b0 .done (some (.ret)) [14, 15] rfA37_0 rfB37_0 [(6, .val (.pointer (some ⟨b5, 0, none⟩))), (5, .nod [.fn (.func 38) [] [.val (.pointer (some ⟨b4, 0, none⟩))]])] 20, .var b1 [.val (.int .i64 a0)] 3, .var b2 [.val (.int .i64 a1)] 3, .var b3 [(eOP a2)] 27, .var b4 [.val (.int .i64 a3)] 3, .var b5 [.val (.int .i64 res)] 3])) := by
 unfold walk_Range_int_1_3 at h0
 refine CallF.mkG (X := X) rfl Try.func68 rfl rfl Try.ntmps68 rfl rfl ?_
 refine T.seq ?_
 refine T.seq ?_
 refine T.region ?_
 refine TL.op1 (OpR.loadPtr 1 rfl rfl rfl rfl) rfl ?_
 refine TL.op1 (OpR.loadPtr 2 rfl rfl rfl rfl) rfl ?_
 refine TL.op1 (OpR.pure rfl) rfl ?_
 refine TL.nil ?_
 show T X _ _ _
 rcases ite_some h0 with ⟨c1, h0⟩ | ⟨c1, h0⟩
 · refine T.condT rfl (beq_iff_eq.2 c1) ?_
   refine T.ret ?_
   obtain rfl := Option.some.inj h0
   exact PostG.retP (ks := [0, 1, 2, 3, 4, 5]) (Gst.only [] rfl) undef ResL.nil rfl rfl rfl rfl
 refine T.condF rfl (beq_eq_false_iff_ne.2 c1) ?_
 refine T.skip ?_
 show T X _ _ _
 refine T.seq ?_
 refine T.region ?_
 refine TL.op (OpR.alloc rfl rfl (fun _ => rfl)) rfl (fun p2 => ?_)
 refine TL.nil ?_
 show T X _ _ _
 refine T.seq ?_
 obtain ⟨x4, hx4, h0⟩ := bnd_some h0
 rcases x4 with x4 | x4
 · dsimp only at h0
   exact (by cases h0)
 dsimp only at h0
 obtain ⟨x5, hx5, h0⟩ := bnd_some h0
 refine T.drawS drawsX (fun env3 => [.agg [(eOP a2)], .nod [.sl 1 (List.map eNP x4.1), .sl 1 (List.map (eI .i64) x4.2.1), .val (.int .i64 x4.2.2)], .val (.int .i64 a0), .tup []]) (fun D env3 => [.lp b0 .ready none [14, 15] rfA37_0 rfB37_0 [(6, .val (.pointer (some ⟨b5, 0, none⟩))), (5, .nod [.fn (.func 38) [] [.val (.pointer (some ⟨b4, 0, none⟩))]])] 20, .var b1 [.val (.int .i64 a0)] 3, .var b2 [.val (.int .i64 a1)] 3, .var b3 [(eOP a2)] 27, .var b4 [.val (.int .i64 a3)] 3, .var b5 [.val (.int .i64 a4)] 3, (bif D 3 then .var (blk p2) [.val (vn (env3 3) 0)] 109 else .var (blk p2) [.val (.slice none 0 0)] 109)] ++ (bif D 3 then [.row (vn (env3 3) 0) (List.map e_walk_frame_int x5) 3 114] else [])) [0, 1, 0, 7] [0, 1, 2, 3, 5, 9, 10, 11, 12, 13, 14, 15] (fun env3 => [.lp b0 .ready none [14, 15] rfA37_0 rfB37_0 [(6, .val (.pointer (some ⟨b5, 0, none⟩))), (5, .nod [.fn (.func 38) [] [.val (.pointer (some ⟨b4, 0, none⟩))]])] 20, .var b1 [.val (.int .i64 a0)] 3, .var b2 [.val (.int .i64 a1)] 3, .var b3 [(eOP a2)] 27, .var b4 [.val (.int .i64 a3)] 3, .var b5 [.val (.int .i64 a4)] 3, .var (blk p2) [.val (vn (env3 3) 0)] 109, .row (vn (env3 3) 0) (List.map e_walk_frame_int x5) 3 114]) (by decide +kernel) (by decide +kernel) (fun _ => rfl) (fun _ => rfl) ?_ (fun _ => rfl) (fun _ => rfl) ?_
 · refine oS (d := .agg [(eOP a2)]) (fun _ => Want.plain rfl) (fun _ => rfl) (fun _ _ _ => rfl) (fun _ _ => OpR.loadPtr 3 rfl rfl rfl rfl) (fun _ _ _ _ _ _ _ => rfl) ?_
   refine oS (d := .nod [.sl 1 (List.map eNP x4.1), .sl 1 (List.map (eI .i64) x4.2.1), .val (.int .i64 x4.2.2)]) (fun _ => Want.plain rfl) (fun _ => rfl) (fun _ _ _ => rfl) (fun _ _ => OpR.call0 fn46 (tree_Tree_int_Root_cx2 hx4) rfl) (fun _ _ _ _ _ _ _ => rfl) ?_
   refine oS (d := .val (.int .i64 a0)) (fun _ => Want.plain rfl) (fun _ => rfl) (fun _ _ _ => rfl) (fun _ _ => OpR.loadPtr 1 rfl rfl rfl rfl) (fun _ _ _ _ _ _ _ => rfl) ?_
   refine OpsS.cons' true ?_ (fun D hA env3 x j hj hD => match j, hj, hD with | 0, _, _ => rfl | 1, _, _ => rfl | 2, _, _ => rfl | 3, hj, _ => absurd rfl hj | _ + 4, _, _ => rfl) ?_
   · intro D env3 hA
     exact OpS.yes (o0 := [.lp b0 .ready none [14, 15] rfA37_0 rfB37_0 [(6, .val (.pointer (some ⟨b5, 0, none⟩))), (5, .nod [.fn (.func 38) [] [.val (.pointer (some ⟨b4, 0, none⟩))]])] 20, .var b1 [.val (.int .i64 a0)] 3, .var b2 [.val (.int .i64 a1)] 3, .var b3 [(eOP a2)] 27, .var b4 [.val (.int .i64 a3)] 3, .var b5 [.val (.int .i64 a4)] 3, .var (blk p2) [.val (.slice none 0 0)] 109]) (o1 := fun x => [.lp b0 .ready none [14, 15] rfA37_0 rfB37_0 [(6, .val (.pointer (some ⟨b5, 0, none⟩))), (5, .nod [.fn (.func 38) [] [.val (.pointer (some ⟨b4, 0, none⟩))]])] 20, .var b1 [.val (.int .i64 a0)] 3, .var b2 [.val (.int .i64 a1)] 3, .var b3 [(eOP a2)] 27, .var b4 [.val (.int .i64 a3)] 3, .var b5 [.val (.int .i64 a4)] 3, .var (blk p2) [.val (vn x 0)] 109, .row (vn x 0) (List.map e_walk_frame_int x5) 3 114]) (d := fun x => .tup []) (Want.plain rfl) (by first | rfl | simp only [hA.me, cond_true, cond_false, List.cons_append, List.nil_append, List.append_nil]) (fun x => by first | rfl | simp only [ins_self, upd_self, hA.me, cond_true, cond_false, List.cons_append, List.nil_append, List.append_nil]) (fun x => rfl) (OpR.call [6] fn69 (walk_stack_int_down_c hx5) rfl rfl rfl (fun _ => rfl))
   exact trivial
 intro env3
 show T X _ _ _
 refine T.seq ?_
 refine T.region ?_
 refine TL.op1 (OpR.loadPtr 1 rfl rfl rfl rfl) rfl ?_
 refine TL.op1 (OpR.pure rfl) rfl ?_
 refine TL.nil ?_
 show T X _ _ _
 obtain ⟨t6, ht6, h0⟩ := bnd_some h0
 refine T.cutN (fun S' => ∃ u7, t6 = Ex.brk u7 ∧ S' = ⟨[], [.lp b0 .ready none [14, 15] rfA37_0 rfB37_0 [(6, .val (.pointer (some ⟨b5, 0, none⟩))), (5, .nod [.fn (.func 38) [] [.val (.pointer (some ⟨b4, 0, none⟩))]])] 20, .var b1 [.val (.int .i64 a0)] 3, .var b2 [.val (.int .i64 a1)] 3, .var b3 [(eOP a2)] 27, .var b4 [.val (.int .i64 a3)] 3, .var b5 [.val (.int .i64 a4)] 3], 62⟩) (fun _ _ g ⟨h, S', ds, g', r⟩ => ⟨h, S', ds, Gst.trans g g', r⟩) ?_ ?_
 rotate_left
 · rintro _ ⟨u7, rfl, rfl⟩
   obtain rfl := Option.some.inj h0
   exact PostG.finP (ks := [0, 1, 2, 3, 4, 5]) (Gst.only [] rfl) undef ResL.nil rfl rfl rfl rfl
 refine T.block ?_
 obtain ⟨n10, n15⟩ := loop_some ht6
 refine T.loop (fun n S' => ∃ S'', Gst S' S'' ∧ ∃ y8 : Value, ∃ s9 : Int × (List walk_frame_int), S'' = ⟨[(6, .val (.int .i64 s9.1)), (5, .val (.pointer (some ⟨(blk p2), 0, none⟩))), (2, .val (.pointer (some ⟨b2, 0, none⟩))), (0, .fn (.yield b0) [] [])], [.lp b0 .ready none [14, 15] rfA37_0 rfB37_0 [(6, .val (.pointer (some ⟨b5, 0, none⟩))), (5, .nod [.fn (.func 38) [] [.val (.pointer (some ⟨b4, 0, none⟩))]])] 20, .var b1 [.val (.int .i64 a0)] 3, .var b2 [.val (.int .i64 a1)] 3, .var b3 [(eOP a2)] 27, .var b4 [.val (.int .i64 a3)] 3, .var b5 [.val (.int .i64 a4)] 3, .var (blk p2) [.val y8] 109, .row y8 (List.map e_walk_frame_int s9.2) 3 114], 62⟩ ∧ iter (walk_Range_int_1_3.l1 a1 a3 a4) n s9 = some t6) n10 ?_ ?_
 · exact ⟨_, Gst.only [0, 2, 5, 6] rfl, (vn (env3 3) 0), (a0, x5), rfl, n15⟩
 rintro n10 _ ⟨_, g, y8, s9, rfl, i14⟩
 refine T.ghost g ?_
 obtain ⟨m11, q12, rfl, q13, i14⟩ := iter_succ i14
 unfold walk_Range_int_1_3.l1 at q13
 refine T.seq ?_
 refine T.seq ?_
 refine T.region ?_
 refine TL.op1 (OpR.pure rfl) rfl ?_
 refine TL.op1 (OpR.loadPtr 2 rfl rfl rfl rfl) rfl ?_
 refine TL.op1 (OpR.pure rfl) rfl ?_
 refine TL.nil ?_
 show T X _ _ _
 rcases ite_some q13 with ⟨c17, q13⟩ | ⟨c17, q13⟩
 rotate_left
 · refine T.condF rfl (decide_eq_false c17) ?_
   refine T.exit ?_
   obtain rfl := Option.some.inj q13
   obtain rfl : _ = _ := i14
   exact ⟨_, Gst.trans (Gst.only [] rfl) (Gst.pick [0, 1, 2, 3, 4, 5] rfl rfl), _, rfl, rfl⟩
 refine T.condT rfl (decide_eq_true c17) ?_
 refine T.skip ?_
 show T X _ _ _
 refine T.seq ?_
 refine T.block ?_
 refine T.seq ?_
 refine T.seq ?_
 refine T.region ?_
 obtain ⟨x18, hx18, q13⟩ := bnd_some q13
 refine TL.op1 (OpR.call [6, 7] fn70 (walk_stack_int_top_c hx18) rfl rfl rfl (fun _ => rfl)) rfl ?_
 refine TL.op1 (OpR.pure rfl) rfl ?_
 refine TL.nil ?_
 show T X _ _ _
 refine T.seq ?_
 obtain ⟨x19, hx19, q13⟩ := bnd_some q13
 obtain ⟨q20, hq20, q13⟩ := bnd_some q13
 rcases q20 with _ | z21
 · dsimp only at q13
   exact (by cases q13)
 dsimp only at q13
 obtain ⟨x23, hx23, q13⟩ := bnd_some q13
 rw [o_tree_Node_int_eq hx23] at hq20
 refine T.drawQ drawsX [.val (.pointer (some ⟨blk y8, x18.toNat * 3, none⟩)), .val (.pointer (some ⟨blk y8, x18.toNat * 3, none⟩)), .val (.pointer (some ⟨blk y8, x18.toNat * 3 + 2, none⟩)), .val (.int .i64 x19.fNext), .val (.pointer (some ⟨blk y8, x18.toNat * 3, none⟩)), .val (.pointer (some ⟨blk y8, x18.toNat * 3, none⟩)), .val (.pointer (some ⟨blk y8, x18.toNat * 3, none⟩)), .nod [.sl 1 (List.map eNP x23.fKids), .sl 1 (List.map (eI .i64) x23.fItems), .val (.int .i64 x23.fN)], .nod [.sl 1 (List.map eNP x23.fKids), .sl 1 (List.map (eI .i64) x23.fItems), .val (.int .i64 x23.fN)], .nod [.sl 1 (List.map (eI .i64) x23.fItems), .val (.int .i64 x23.fN)], .sl 1 (List.map (eI .i64) x23.fItems), .val (.int .i64 (x23.fItems.length : Int)), .val (.bool (x19.fNext == (x23.fItems.length : Int)))] [0, 2, 5, 6, 7, 17, 18, 19, 22, 23, 24, 25, 26, 27, 28, 29, 30, 31, 32, 33, 34, 35] (by decide +kernel) rfl ?_ rfl ?_
 · refine OpsQ.yes (Want.plain rfl) rfl (OpR.pure rfl) ?_
   refine OpsQ.yes (Want.plain rfl) rfl (OpR.pure rfl) ?_
   refine OpsQ.yes (Want.plain rfl) rfl (OpR.pure rfl) ?_
   refine OpsQ.yes (Want.plain rfl) rfl (OpR.rowLoadM (j := x18) e_walk_frame_int 7 hx19 rfl rfl rfl rfl) ?_
   refine OpsQ.yes (Want.plain rfl) rfl (OpR.pure rfl) ?_
   refine OpsQ.yes (Want.plain rfl) rfl (OpR.pure rfl) ?_
   refine OpsQ.yes (Want.plain rfl) rfl (OpR.pure rfl) ?_
   refine OpsQ.yes (Want.plain rfl) rfl (OpR.cast (OpR.rowLoad0M (j := x18) e_walk_frame_int 7 hx19 rfl rfl rfl rfl) (congrArg eOP (Option.some.inj hq20))) ?_
   refine OpsQ.yes (Want.plain rfl) rfl (OpR.pure rfl) ?_
   refine OpsQ.yes (Want.plain rfl) rfl (OpR.pure rfl) ?_
   refine OpsQ.yes (Want.plain rfl) rfl (OpR.pure rfl) ?_
   refine OpsQ.yes (Want.plain rfl) rfl (OpR.cast (OpR.pure rfl) (intE (lenM _ _))) ?_
   refine OpsQ.yes (Want.plain rfl) rfl (OpR.pure rfl) ?_
   exact OpsQ.nil
 show T X _ _ _
 obtain ⟨t25, ht25, q13⟩ := bnd_some q13
 refine T.cutC (fun S' => ∃ y26 : Value, S' = ⟨[(6, .val (.int .i64 s9.1)), (5, .val (.pointer (some ⟨(blk p2), 0, none⟩))), (2, .val (.pointer (some ⟨b2, 0, none⟩))), (0, .fn (.yield b0) [] [])], [.lp b0 .ready none [14, 15] rfA37_0 rfB37_0 [(6, .val (.pointer (some ⟨b5, 0, none⟩))), (5, .nod [.fn (.func 38) [] [.val (.pointer (some ⟨b4, 0, none⟩))]])] 20, .var b1 [.val (.int .i64 a0)] 3, .var b2 [.val (.int .i64 a1)] 3, .var b3 [(eOP a2)] 27, .var b4 [.val (.int .i64 a3)] 3, .var b5 [.val (.int .i64 a4)] 3, .var (blk p2) [.val y26] 109, .row y26 (List.map e_walk_frame_int t25) 3 114], 62⟩) (fun _ h => h) ?_ ?_
 · rcases ite_some ht25 with ⟨c27, ht25⟩ | ⟨c27, ht25⟩
   rotate_left
   · refine T.condF rfl (beq_eq_false_iff_ne.2 c27) ?_
     refine T.skip ?_
     obtain rfl := Option.some.inj ht25
     exact ⟨_, Gst.only [0, 2, 5, 6] rfl, y8, rfl⟩
   refine T.condT rfl (beq_iff_eq.2 c27) ?_
   refine T.region ?_
   obtain ⟨x28, hx28, ht25⟩ := bnd_some ht25
   refine TL.op (OpR.call [6, 7] fn71 (walk_stack_int_forth_c hx28) rfl rfl rfl (fun _ => rfl)) rfl (fun w29 => ?_)
   refine TL.nil ?_
   obtain rfl := Option.some.inj ht25
   exact ⟨_, Gst.only [0, 2, 5, 6] rfl, (vn w29 0), rfl⟩
 rintro _ ⟨y26, rfl⟩
 show T X _ _ _
 refine T.seq ?_
 refine T.region ?_
 obtain ⟨x30, hx30, q13⟩ := bnd_some q13
 refine TL.op1 (OpR.call [6, 7] fn70 (walk_stack_int_top_c hx30) rfl rfl rfl (fun _ => rfl)) rfl ?_
 refine TL.op1 (OpR.pure rfl) rfl ?_
 refine TL.nil ?_
 show T X _ _ _
 refine T.seq ?_
 refine T.seq ?_
 obtain ⟨x31, hx31, q13⟩ := bnd_some q13
 obtain ⟨q32, hq32, q13⟩ := bnd_some q13
 rcases q32 with _ | z33
 · dsimp only at q13
   exact (by cases q13)
 dsimp only at q13
 obtain ⟨x35, hx35, q13⟩ := bnd_some q13
 rw [o_tree_Node_int_eq hx35] at hq32
 obtain ⟨x37, hx37, q13⟩ := bnd_some q13
 obtain ⟨x38, hx38, q13⟩ := bnd_some q13
 rcases x38 with x38 | x38
 rotate_left
 · dsimp only at q13
   refine T.drawQ drawsX [.fn (.yield b0) [] [], .val (.int .i64 s9.1), .val (.pointer (some ⟨blk y26, x30.toNat * 3, none⟩)), .val (.pointer (some ⟨blk y26, x30.toNat * 3, none⟩)), .val (.pointer (some ⟨blk y26, x30.toNat * 3, none⟩)), .nod [.sl 1 (List.map eNP x35.fKids), .sl 1 (List.map (eI .i64) x35.fItems), .val (.int .i64 x35.fN)], .nod [.sl 1 (List.map eNP x35.fKids), .sl 1 (List.map (eI .i64) x35.fItems), .val (.int .i64 x35.fN)], .nod [.sl 1 (List.map (eI .i64) x35.fItems), .val (.int .i64 x35.fN)], .sl 1 (List.map (eI .i64) x35.fItems), .val (.pointer (some ⟨blk y26, x30.toNat * 3, none⟩)), .val (.pointer (some ⟨blk y26, x30.toNat * 3, none⟩)), .val (.pointer (some ⟨blk y26, x30.toNat * 3 + 2, none⟩)), .val (.int .i64 x31.fNext), .nod [.val (.int .i64 x37)], .val (.int .i64 x37), .val (.bool true), .val (.bool false)] [0, 2, 5, 6, 8, 37, 38, 39, 40, 41, 42, 43, 44, 45, 46, 47, 48, 49, 50, 51, 52, 53, 54] (by decide +kernel) rfl ?_ rfl ?_
   rotate_left
   · show T X _ _ _
     refine T.condF rfl rfl ?_
     refine T.skip ?_
     show T X _ _ _
     refine T.region ?_
     refine TL.op1 (OpR.pure rfl) rfl ?_
     refine TL.op1 (OpR.pure rfl) rfl ?_
     refine TL.op1 (OpR.pure rfl) rfl ?_
     refine TL.op1 (OpR.rowLoadM (j := x30) e_walk_frame_int 7 hx31 rfl rfl rfl rfl) rfl ?_
     refine TL.op1 (OpR.pure rfl) rfl ?_
     refine TL.op1 (OpR.pure rfl) rfl ?_
     refine TL.op1 (OpR.pure rfl) rfl ?_
     refine TL.op0 (OpR.rowStoreM (j := x30) e_walk_frame_int (⟨x31.fN, x31.fFirst, w64 (x31.fNext + 1)⟩ : walk_frame_int) 7 hx31 rfl rfl rfl rfl rfl rfl rfl rfl rfl) ?_
     refine TL.nil ?_
     show T X _ _ _
     refine T.region ?_
     refine TL.op1 (OpR.pure rfl) rfl ?_
     refine TL.op1 (OpR.pure rfl) rfl ?_
     refine TL.op1 (OpR.pure rfl) rfl ?_
     refine TL.nil ?_
     obtain rfl := Option.some.inj q13
     exact ⟨m11, Nat.lt_succ_self _, _, Gst.only [0, 2, 5, 6] rfl, y26, (w64 (s9.1 + 1), (t25.set x30.toNat (⟨x31.fN, x31.fFirst, w64 (x31.fNext + 1)⟩ : walk_frame_int))), rfl, i14⟩
   refine OpsQ.yes (Want.plain rfl) rfl (OpR.pure rfl) ?_
   refine OpsQ.yes (Want.plain rfl) rfl (OpR.pure rfl) ?_
   refine OpsQ.yes (Want.plain rfl) rfl (OpR.pure rfl) ?_
   refine OpsQ.yes (Want.plain rfl) rfl (OpR.pure rfl) ?_
   refine OpsQ.yes (Want.plain rfl) rfl (OpR.pure rfl) ?_
   refine OpsQ.yes (Want.plain rfl) rfl (OpR.cast (OpR.rowLoad0M (j := x30) e_walk_frame_int 7 hx31 rfl rfl rfl rfl) (congrArg eOP (Option.some.inj hq32))) ?_
   refine OpsQ.yes (Want.plain rfl) rfl (OpR.pure rfl) ?_
   refine OpsQ.yes (Want.plain rfl) rfl (OpR.pure rfl) ?_
   refine OpsQ.yes (Want.plain rfl) rfl (OpR.pure rfl) ?_
   refine OpsQ.yes (Want.plain rfl) rfl (OpR.pure rfl) ?_
   refine OpsQ.yes (Want.plain rfl) rfl (OpR.pure rfl) ?_
   refine OpsQ.yes (Want.plain rfl) rfl (OpR.pure rfl) ?_
   refine OpsQ.yes (Want.plain rfl) rfl (OpR.rowLoadM (j := x30) e_walk_frame_int 7 hx31 rfl rfl rfl rfl) ?_
   refine OpsQ.yes (Want.plain rfl) rfl (OpR.indexM (eI .i64) hx37 rfl rfl rfl rfl rfl) ?_
   refine OpsQ.yes (Want.plain rfl) rfl (OpR.pure rfl) ?_
   refine OpsQ.yes (Want.plain rfl) rfl (OpR.callY [0, 4, 5] rfl (walk_Index_int_r0_2_cx2 hx38) rfl rfl rfl (fun _ => rfl)) ?_
   refine OpsQ.yes (Want.plain rfl) rfl (OpR.pure rfl) ?_
   exact OpsQ.nil
 dsimp only at q13
 refine T.drawS drawsX (fun env36 => [.fn (.yield b0) [] [], .val (.int .i64 s9.1), .val (.pointer (some ⟨blk y26, x30.toNat * 3, none⟩)), .val (.pointer (some ⟨blk y26, x30.toNat * 3, none⟩)), .val (.pointer (some ⟨blk y26, x30.toNat * 3, none⟩)), .nod [.sl 1 (List.map eNP x35.fKids), .sl 1 (List.map (eI .i64) x35.fItems), .val (.int .i64 x35.fN)], .nod [.sl 1 (List.map eNP x35.fKids), .sl 1 (List.map (eI .i64) x35.fItems), .val (.int .i64 x35.fN)], .nod [.sl 1 (List.map (eI .i64) x35.fItems), .val (.int .i64 x35.fN)], .sl 1 (List.map (eI .i64) x35.fItems), .val (.pointer (some ⟨blk y26, x30.toNat * 3, none⟩)), .val (.pointer (some ⟨blk y26, x30.toNat * 3, none⟩)), .val (.pointer (some ⟨blk y26, x30.toNat * 3 + 2, none⟩)), .val (.int .i64 x31.fNext), .nod [.val (.int .i64 x37)], .val (.int .i64 x37), .val (.bool false), .val (.bool true)]) (fun D env36 => [(bif D 15 then .lp b0 .done (some (.ret)) [14, 15] rfA37_0 rfB37_0 [(6, .val (.pointer (some ⟨b5, 0, none⟩))), (5, .nod [.fn (.func 38) [] [.val (.pointer (some ⟨b4, 0, none⟩))]])] 20 else .lp b0 .ready none [14, 15] rfA37_0 rfB37_0 [(6, .val (.pointer (some ⟨b5, 0, none⟩))), (5, .nod [.fn (.func 38) [] [.val (.pointer (some ⟨b4, 0, none⟩))]])] 20), .var b1 [.val (.int .i64 a0)] 3, .var b2 [.val (.int .i64 a1)] 3, .var b3 [(eOP a2)] 27, .var b4 [.val (.int .i64 a3)] 3, (bif D 15 then .var b5 [.val (.int .i64 x38)] 3 else .var b5 [.val (.int .i64 a4)] 3), .var (blk p2) [.val y26] 109, .row y26 (List.map e_walk_frame_int t25) 3 114]) [0, 0, 0, 4, 12, 28, 60, 124, 252, 0, 512, 1536, 3584, 8188, 16380, 32767, 65535] [0, 2, 5, 6, 8, 37, 38, 39, 40, 41, 42, 43, 44, 45, 46, 47, 48, 49, 50, 51, 52, 53, 54] (fun env36 => [.lp b0 .done (some (.ret)) [14, 15] rfA37_0 rfB37_0 [(6, .val (.pointer (some ⟨b5, 0, none⟩))), (5, .nod [.fn (.func 38) [] [.val (.pointer (some ⟨b4, 0, none⟩))]])] 20, .var b1 [.val (.int .i64 a0)] 3, .var b2 [.val (.int .i64 a1)] 3, .var b3 [(eOP a2)] 27, .var b4 [.val (.int .i64 a3)] 3, .var b5 [.val (.int .i64 x38)] 3, .var (blk p2) [.val y26] 109, .row y26 (List.map e_walk_frame_int t25) 3 114]) (by decide +kernel) (by decide +kernel) (fun _ => rfl) (fun _ => rfl) ?_ (fun _ => rfl) (fun _ => rfl) ?_
 rotate_left
 · intro env36
   show T X _ _ _
   refine T.condT rfl rfl ?_
   refine T.ret ?_
   obtain rfl := Option.some.inj q13
   obtain rfl : _ = _ := i14
   obtain rfl := Option.some.inj h0
   exact PostG.retP (ks := [0, 1, 2, 3, 4, 5]) (Gst.trans (Gst.only [] rfl) (Gst.pick [0, 1, 2, 3, 4, 5] rfl rfl)) undef ResL.nil rfl rfl rfl rfl
 refine oS (d := .fn (.yield b0) [] []) (fun _ => Want.plain rfl) (fun _ => rfl) (fun _ _ _ => rfl) (fun _ _ => OpR.pure rfl) (fun _ _ _ _ _ _ _ => rfl) ?_
 refine oS (d := .val (.int .i64 s9.1)) (fun _ => Want.plain rfl) (fun _ => rfl) (fun _ _ _ => rfl) (fun _ _ => OpR.pure rfl) (fun _ _ _ _ _ _ _ => rfl) ?_
 refine oS (d := .val (.pointer (some ⟨blk y26, x30.toNat * 3, none⟩))) (fun _ => Want.plain rfl) (fun _ => rfl) (fun _ _ _ => rfl) (fun _ _ => OpR.pure rfl) (fun _ _ _ _ _ _ _ => rfl) ?_
 refine oS (d := .val (.pointer (some ⟨blk y26, x30.toNat * 3, none⟩))) (fun _ => Want.plain rfl) (fun _ => rfl) (fun _ _ _ => rfl) (fun _ _ => OpR.pure rfl) (fun _ _ _ _ _ _ _ => rfl) ?_
 refine oS (d := .val (.pointer (some ⟨blk y26, x30.toNat * 3, none⟩))) (fun _ => Want.plain rfl) (fun _ => rfl) (fun _ _ _ => rfl) (fun _ _ => OpR.pure rfl) (fun _ _ _ _ _ _ _ => rfl) ?_
 refine oS (d := .nod [.sl 1 (List.map eNP x35.fKids), .sl 1 (List.map (eI .i64) x35.fItems), .val (.int .i64 x35.fN)]) (fun _ => Want.plain rfl) (fun _ => rfl) (fun _ _ _ => rfl) (fun _ _ => OpR.cast (OpR.rowLoad0M (j := x30) e_walk_frame_int 7 hx31 rfl rfl rfl rfl) (congrArg eOP (Option.some.inj hq32))) (fun _ _ _ _ _ _ _ => rfl) ?_
 refine oS (d := .nod [.sl 1 (List.map eNP x35.fKids), .sl 1 (List.map (eI .i64) x35.fItems), .val (.int .i64 x35.fN)]) (fun _ => Want.plain rfl) (fun _ => rfl) (fun _ _ _ => rfl) (fun _ _ => OpR.pure rfl) (fun _ _ _ _ _ _ _ => rfl) ?_
 refine oS (d := .nod [.sl 1 (List.map (eI .i64) x35.fItems), .val (.int .i64 x35.fN)]) (fun _ => Want.plain rfl) (fun _ => rfl) (fun _ _ _ => rfl) (fun _ _ => OpR.pure rfl) (fun _ _ _ _ _ _ _ => rfl) ?_
 refine oS (d := .sl 1 (List.map (eI .i64) x35.fItems)) (fun _ => Want.plain rfl) (fun _ => rfl) (fun _ _ _ => rfl) (fun _ _ => OpR.pure rfl) (fun _ _ _ _ _ _ _ => rfl) ?_
 refine oS (d := .val (.pointer (some ⟨blk y26, x30.toNat * 3, none⟩))) (fun _ => Want.plain rfl) (fun _ => rfl) (fun _ _ _ => rfl) (fun _ _ => OpR.pure rfl) (fun _ _ _ _ _ _ _ => rfl) ?_
 refine oS (d := .val (.pointer (some ⟨blk y26, x30.toNat * 3, none⟩))) (fun _ => Want.plain rfl) (fun _ => rfl) (fun _ _ _ => rfl) (fun _ _ => OpR.pure rfl) (fun _ _ _ _ _ _ _ => rfl) ?_
 refine oS (d := .val (.pointer (some ⟨blk y26, x30.toNat * 3 + 2, none⟩))) (fun _ => Want.plain rfl) (fun _ => rfl) (fun _ _ _ => rfl) (fun _ _ => OpR.pure rfl) (fun _ _ _ _ _ _ _ => rfl) ?_
 refine oS (d := .val (.int .i64 x31.fNext)) (fun _ => Want.plain rfl) (fun _ => rfl) (fun _ _ _ => rfl) (fun _ _ => OpR.rowLoadM (j := x30) e_walk_frame_int 7 hx31 rfl rfl rfl rfl) (fun _ _ _ _ _ _ _ => rfl) ?_
 refine oS (d := .nod [.val (.int .i64 x37)]) (fun _ => Want.plain rfl) (fun _ => rfl) (fun _ _ _ => rfl) (fun _ _ => OpR.indexM (eI .i64) hx37 rfl rfl rfl rfl rfl) (fun _ _ _ _ _ _ _ => rfl) ?_
 refine oS (d := .val (.int .i64 x37)) (fun _ => Want.plain rfl) (fun _ => rfl) (fun _ _ _ => rfl) (fun _ _ => OpR.pure rfl) (fun _ _ _ _ _ _ _ => rfl) ?_
 refine OpsS.cons' true ?_ (fun _ _ _ _ _ _ _ => rfl) ?_
 · intro D env36 hA
   exact OpS.yes (o0 := [.lp b0 .ready none [14, 15] rfA37_0 rfB37_0 [(6, .val (.pointer (some ⟨b5, 0, none⟩))), (5, .nod [.fn (.func 38) [] [.val (.pointer (some ⟨b4, 0, none⟩))]])] 20, .var b1 [.val (.int .i64 a0)] 3, .var b2 [.val (.int .i64 a1)] 3, .var b3 [(eOP a2)] 27, .var b4 [.val (.int .i64 a3)] 3, .var b5 [.val (.int .i64 a4)] 3, .var (blk p2) [.val y26] 109, .row y26 (List.map e_walk_frame_int t25) 3 114]) (o1 := fun x => [.lp b0 .done (some (.ret)) [14, 15] rfA37_0 rfB37_0 [(6, .val (.pointer (some ⟨b5, 0, none⟩))), (5, .nod [.fn (.func 38) [] [.val (.pointer (some ⟨b4, 0, none⟩))]])] 20, .var b1 [.val (.int .i64 a0)] 3, .var b2 [.val (.int .i64 a1)] 3, .var b3 [(eOP a2)] 27, .var b4 [.val (.int .i64 a3)] 3, .var b5 [.val (.int .i64 x38)] 3, .var (blk p2) [.val y26] 109, .row y26 (List.map e_walk_frame_int t25) 3 114]) (d := fun x => .val (.bool false)) (Want.plain rfl) (by first | rfl | simp only [hA.me, cond_true, cond_false, List.cons_append, List.nil_append, List.append_nil]) (fun x => by first | rfl | simp only [ins_self, upd_self, hA.me, cond_true, cond_false, List.cons_append, List.nil_append, List.append_nil]) (fun x => rfl) (OpR.callY [0, 4, 5] rfl (walk_Index_int_r0_2_cx1 hx38) rfl rfl rfl (fun _ => rfl))
 refine oS (d := .val (.bool true)) (fun _ => Want.plain rfl) (fun _ => rfl) (fun _ _ _ => rfl) (fun _ _ => OpR.pure rfl) (fun _ _ _ _ _ _ _ => rfl) ?_
 exact trivial
theorem walk_Range_int_1_3_cx1 {a0 : Int} {a1 : Int} {a2 : Option NP} {a3 : Int} {a4 : Int} {b0 : Nat} {b1 : Nat} {b2 : Nat} {b3 : Nat} {b4 : Nat} {b5 : Nat} {res : Unit} (h0 : walk_Range_int_1_3 a0 a1 a2 a3 a4 = some (Sum.inl res)) : CallF X 68 [.fn (.yield b0) [] [], .val (.pointer (some ⟨b1, 0, none⟩)), .val (.pointer (some ⟨b2, 0, none⟩)), .val (.pointer (some ⟨b3, 0, none⟩))] [.lp b0 .ready none [14, 15] rfA37_0 rfB37_0 [(6, .val (.pointer (some ⟨b5, 0, none⟩))), (5, .nod [.fn (.func 38) [] [.val (.pointer (some ⟨b4, 0, none⟩))]])] 20, .var b1 [.val (.int .i64 a0)] 3, .var b2 [.val (.int .i64 a1)] 3, .var b3 [(eOP a2)] 27, .var b4 [.val (.int .i64 a3)] 3, .var b5 [.val (.int .i64 a4)] 3] (fun x => .tup []) (fun x => [.lp b0 .ready none [14, 15] rfA37_0 rfB37_0 [(6, .val (.pointer (some ⟨b5, 0, none⟩))), (5, .nod [.fn (.func 38) [] [.val (.pointer (some ⟨b4, 0, none⟩))]])] 20, .var b1 [.val (.int .i64 a0)] 3, .var b2 [.val (.int .i64 a1)] 3, .var b3 [(eOP a2)] 27, .var b4 [.val (.int .i64 a3)] 3, .var b5 [.val (.int .i64 a4)] 3]) := walk_Range_int_1_3_c h0
theorem walk_Range_int_1_3_cx2 {a0 : Int} {a1 : Int} {a2 : Option NP} {a3 : Int} {a4 : Int} {b0 : Nat} {b1 : Nat} {b2 : Nat} {b3 : Nat} {b4 : Nat} {b5 : Nat} {res : Int} (h0 : walk_Range_int_1_3 a0 a1 a2 a3 a4 = some (Sum.inr res)) : CallF X 68 [.fn (.yield b0) [] [], .val (.pointer (some ⟨b1, 0, none⟩)), .val (.pointer (some ⟨b2, 0, none⟩)), .val (.pointer (some ⟨b3, 0, none⟩))] [.lp b0 .ready none [14, 15] rfA37_0 rfB37_0 [(6, .val (.pointer (some ⟨b5, 0, none⟩))), (5, .nod [.fn (.func 38) [] [.val (.pointer (some ⟨b4, 0, none⟩))]])] 20, .var b1 [.val (.int .i64 a0)] 3, .var b2 [.val (.int .i64 a1)] 3, .var b3 [(eOP a2)] 27, .var b4 [.val (.int .i64 a3)] 3, .var b5 [.val (.int .i64 a4)] 3] (fun x => .tup []) (fun x => [.lp b0 .done (some (.ret)) [14, 15] rfA37_0 rfB37_0 [(6, .val (.pointer (some ⟨b5, 0, none⟩))), (5, .nod [.fn (.func 38) [] [.val (.pointer (some ⟨b4, 0, none⟩))]])] 20, .var b1 [.val (.int .i64 a0)] 3, .var b2 [.val (.int .i64 a1)] 3, .var b3 [(eOP a2)] 27, .var b4 [.val (.int .i64 a3)] 3, .var b5 [.val (.int .i64 res)] 3]) := walk_Range_int_1_3_c h0
noncomputable def walk_Index_int_2 (a0 : tree_Tree_int) (a1 : Int) (a2 : Int) : Option Int :=
  bnd (tree_Tree_int_Len a0) fun x3 =>
  bnd (walk_Range_int a0 a1 x3) fun x4 =>
  bnd (walk_Range_int_1_3 x4.1 x4.2.1 x4.2.2 a2 0) fun x6 =>
  match x6 with
  | .inl x6 =>
      some (-1)
  | .inr x6 =>
      some x6
set_option maxHeartbeats 4000000 in
theorem walk_Index_int_2_c {a0 : tree_Tree_int} {a1 : Int} {a2 : Int} {b0 : Nat} {res : Int} (h0 : walk_Index_int_2 a0 a1 a2 = some res) : CallF X 37 [.agg [(eOP a0.fRoot)], .val (.int .i64 a1), .fn (.func 38) [] [.val (.pointer (some ⟨b0, 0, none⟩))]] [.var b0 [.val (.int .i64 a2)] 3] (fun x => .val (.int .i64 res)) (fun x => [.var b0 [.val (.int .i64 a2)] 3]) := by
 unfold walk_Index_int_2 at h0
 refine CallF.mkG (X := X) rfl Try.func37 rfl rfl Try.ntmps37 rfl rfl ?_
 refine T.seq ?_
 refine T.region ?_
 refine TL.op1 (OpR.boxImm rfl rfl) rfl ?_
 refine TL.op1 (OpR.boxImm rfl rfl) rfl ?_
 refine TL.op (OpR.alloc rfl rfl (fun _ => rfl)) rfl (fun p1 => ?_)
 refine TL.nil ?_
 show T X _ _ _
 refine T.seq ?_
 refine T.seq ?_
 obtain ⟨x3, hx3, h0⟩ := bnd_some h0
 obtain ⟨x4, hx4, h0⟩ := bnd_some h0
 refine T.drawS drawsX (fun env2 => [.agg [(eOP a0.fRoot)], .val (.int .i64 a1), .agg [(eOP a0.fRoot)], .val (.int .i64 x3), .fn (.func 68) [] [.val (.pointer (some ⟨(blk (vn (env2 4) 0)), 0, none⟩)), .val (.pointer (some ⟨(blk (vn (env2 4) 1)), 0, none⟩)), .val (.pointer (some ⟨(blk (vn (env2 4) 2)), 0, none⟩))]]) (fun D env2 => [.var b0 [.val (.int .i64 a2)] 3, .var (blk p1) [.val (.int .i64 0)] 3] ++ (bif D 4 then [.var (blk (vn (env2 4) 0)) [.val (.int .i64 x4.1)] 3] else []) ++ (bif D 4 then [.var (blk (vn (env2 4) 1)) [.val (.int .i64 x4.2.1)] 3] else []) ++ (bif D 4 then [.var (blk (vn (env2 4) 2)) [(eOP x4.2.2)] 27] else [])) [0, 0, 0, 4, 15] [0, 1, 2, 3, 5, 6, 9, 10, 11, 12, 13] (fun env2 => [.var b0 [.val (.int .i64 a2)] 3, .var (blk p1) [.val (.int .i64 0)] 3, .var (blk (vn (env2 4) 0)) [.val (.int .i64 x4.1)] 3, .var (blk (vn (env2 4) 1)) [.val (.int .i64 x4.2.1)] 3, .var (blk (vn (env2 4) 2)) [(eOP x4.2.2)] 27]) (by decide +kernel) (by decide +kernel) (fun _ => rfl) (fun _ => rfl) ?_ (fun _ => rfl) (fun _ => rfl) ?_
 rotate_left
 · intro env2
   show T X _ _ _
   refine T.block ?_
   obtain ⟨x6, hx6, h0⟩ := bnd_some h0
   rcases x6 with x6 | x6
   rotate_left
   · dsimp only at h0
     refine T.rangeJ (A := rfA37_0) (B := rfB37_0) (.ret) [5, 6] [2, 3, 4, 0, 1] (.inl rfl) rfl rfl rfl rfl rfl fn68 rfl rfl (fun l5 => (walk_Range_int_1_3_cx2 hx6)) (fun _ => rfl) (fun w8 => ?_)
     refine T.ret ?_
     obtain rfl := Option.some.inj h0
     exact PostG.retP (ks := [0]) (Gst.trans (Gst.only [6] rfl) (Gst.pick [0, 1] rfl rfl)) undef (ResL.cons (ResV.var 1 rfl rfl rfl rfl) ResL.nil) rfl rfl rfl rfl
   dsimp only at h0
   refine T.rangeN (A := rfA37_0) (B := rfB37_0) [5, 6] [2, 3, 4, 0, 1] (.inl rfl) rfl rfl rfl rfl rfl fn68 rfl rfl (fun l5 => (walk_Range_int_1_3_cx1 hx6)) (fun _ => rfl) (fun w7 => ?_)
   show T X _ _ _
   refine T.seq ?_
   refine T.region ?_
   refine TL.op0 (OpR.store 1 rfl rfl rfl rfl rfl rfl rfl rfl) ?_
   refine TL.nil ?_
   show T X _ _ _
   refine T.ret ?_
   obtain rfl := Option.some.inj h0
   exact PostG.retP (ks := [0]) (Gst.trans (Gst.only [6] rfl) (Gst.pick [0, 1] rfl rfl)) undef (ResL.cons (ResV.var 1 rfl rfl rfl rfl) ResL.nil) rfl rfl rfl rfl
 refine oS (d := .agg [(eOP a0.fRoot)]) (fun _ => Want.plain rfl) (fun _ => rfl) (fun _ _ _ => rfl) (fun _ _ => OpR.pure rfl) (fun _ _ _ _ _ _ _ => rfl) ?_
 refine oS (d := .val (.int .i64 a1)) (fun _ => Want.plain rfl) (fun _ => rfl) (fun _ _ _ => rfl) (fun _ _ => OpR.pure rfl) (fun _ _ _ _ _ _ _ => rfl) ?_
 refine oS (d := .agg [(eOP a0.fRoot)]) (fun _ => Want.plain rfl) (fun _ => rfl) (fun _ _ _ => rfl) (fun _ _ => OpR.pure rfl) (fun _ _ _ _ _ _ _ => rfl) ?_
 refine oS (d := .val (.int .i64 x3)) (fun _ => Want.plain rfl) (fun _ => rfl) (fun _ _ _ => rfl) (fun _ _ => OpR.call0 fn45 (tree_Tree_int_Len_c hx3) rfl) (fun _ _ _ _ _ _ _ => rfl) ?_
 refine OpsS.cons' true ?_ (fun D hA env2 x j hj hD => match j, hj, hD with | 0, _, _ => rfl | 1, _, _ => rfl | 2, _, _ => rfl | 3, _, _ => rfl | 4, hj, _ => absurd rfl hj | _ + 5, _, _ => rfl) ?_
 · intro D env2 hA
   exact OpS.yes (o0 := [.var b0 [.val (.int .i64 a2)] 3, .var (blk p1) [.val (.int .i64 0)] 3]) (o1 := fun x => [.var b0 [.val (.int .i64 a2)] 3, .var (blk p1) [.val (.int .i64 0)] 3, .var (blk (vn x 0)) [.val (.int .i64 x4.1)] 3, .var (blk (vn x 1)) [.val (.int .i64 x4.2.1)] 3, .var (blk (vn x 2)) [(eOP x4.2.2)] 27]) (d := fun x => .fn (.func 68) [] [.val (.pointer (some ⟨(blk (vn x 0)), 0, none⟩)), .val (.pointer (some ⟨(blk (vn x 1)), 0, none⟩)), .val (.pointer (some ⟨(blk (vn x 2)), 0, none⟩))]) (Want.plain rfl) (by first | rfl | simp only [hA.me, cond_true, cond_false, List.cons_append, List.nil_append, List.append_nil]) (fun x => by first | rfl | simp only [ins_self, upd_self, hA.me, cond_true, cond_false, List.cons_append, List.nil_append, List.append_nil]) (fun x => rfl) (OpR.call [] fn40 (walk_Range_int_c hx4) rfl rfl rfl (fun _ => rfl))
 exact trivial
noncomputable def ref10_Index.l1 (a0 : List Int) (a1 : Int) (a2 : Int) (s3 : Int) : Option (Lp Int (Ex Unit Int)) :=
  if s3 < (a0.length : Int) then
    bnd (idx a0 s3) fun x12 =>
    bnd (if s3 ≥ a1 then
      some ((rem x12 2) == a2)
    else
      some false : Option Bool) fun t13 =>
    if t13 = true then
      some (Lp.done (Ex.ret s3))
    else
      some (Lp.next (w64 (s3 + 1)))
  else
    some (Lp.done (Ex.brk ()))
noncomputable def ref10_Index (a0 : List Int) (a1 : Int) (a2 : Int) : Option Int :=
  bnd (loop (ref10_Index.l1 a0 a1 a2) 0 : Option (Ex Unit Int)) fun t1 => match t1 with
    | .brk u2 =>
      some (-1)
    | .ret u2 => some u2
set_option maxHeartbeats 4000000 in
theorem ref10_Index_c {a0 : List Int} {a1 : Int} {a2 : Int} {res : Int} (h0 : ref10_Index a0 a1 a2 = some res) : CallF X 39 [.sl 1 (List.map (eI .i64) a0), .val (.int .i64 a1), .val (.int .i64 a2)] [] (fun x => .val (.int .i64 res)) (fun x => []) := by
 unfold ref10_Index at h0
 refine CallF.mkG (X := X) rfl Try.func39 rfl rfl Try.ntmps39 rfl rfl ?_
 refine T.seq ?_
 refine T.region ?_
 refine TL.op1 (OpR.pure rfl) rfl ?_
 refine TL.nil ?_
 show T X _ _ _
 refine T.seq ?_
 refine T.seq ?_
 refine T.region ?_
 refine TL.op1 (OpR.pure rfl) rfl ?_
 refine TL.op1 (OpR.cast (OpR.pure rfl) (intE (lenM _ _))) rfl ?_
 refine TL.op1 (OpR.pure rfl) rfl ?_
 refine TL.nil ?_
 show T X _ _ _
 obtain ⟨t1, ht1, h0⟩ := bnd_some h0
 refine T.cutC (fun S' => ∃ u2, t1 = Ex.brk u2 ∧ S' = ⟨[(6, .val (.int .i64 0))], [], 27⟩) (fun _ h => h) ?_ ?_
 rotate_left
 · rintro _ ⟨u2, rfl, rfl⟩
   show T X _ _ _
   refine T.seq ?_
   refine T.region ?_
   refine TL.op1 (OpR.pure rfl) rfl ?_
   refine TL.nil ?_
   show T X _ _ _
   refine T.ret ?_
   obtain rfl := Option.some.inj h0
   exact PostG.retP (ks := []) (Gst.only [6] rfl) undef (ResL.cons (ResV.tmp rfl) ResL.nil) rfl rfl rfl rfl
 refine T.block ?_
 obtain ⟨n4, n9⟩ := loop_some ht1
 refine T.loop (fun n S' => ∃ S'', Gst S' S'' ∧ ∃ s3 : Int, S'' = ⟨[(11, .val (.int .i64 s3)), (10, .val (.int .i64 (a0.length : Int))), (9, .sl 1 (List.map (eI .i64) a0)), (6, .val (.int .i64 0)), (2, .val (.int .i64 a2)), (1, .val (.int .i64 a1))], [], 27⟩ ∧ iter (ref10_Index.l1 a0 a1 a2) n s3 = some t1) n4 ?_ ?_
 · exact ⟨_, Gst.only [1, 2, 6, 9, 10, 11] rfl, 0, rfl, n9⟩
 rintro n4 _ ⟨_, g, s3, rfl, i8⟩
 refine T.ghost g ?_
 obtain ⟨m5, q6, rfl, q7, i8⟩ := iter_succ i8
 unfold ref10_Index.l1 at q7
 refine T.seq ?_
 refine T.region ?_
 refine TL.op1 (OpR.pure rfl) rfl ?_
 refine TL.nil ?_
 show T X _ _ _
 refine T.seq ?_
 rcases ite_some q7 with ⟨c11, q7⟩ | ⟨c11, q7⟩
 rotate_left
 · refine T.condF rfl (decide_eq_false c11) ?_
   refine T.exit ?_
   obtain rfl := Option.some.inj q7
   obtain rfl : _ = _ := i8
   exact ⟨_, Gst.only [6] rfl, _, rfl, rfl⟩
 refine T.condT rfl (decide_eq_true c11) ?_
 refine T.skip ?_
 show T X _ _ _
 refine T.seq ?_
 refine T.block ?_
 refine T.seq ?_
 refine T.region ?_
 refine TL.op1 (OpR.pure rfl) rfl ?_
 obtain ⟨x12, hx12, q7⟩ := bnd_some q7
 refine TL.op1 (OpR.indexM (eI .i64) hx12 rfl rfl rfl rfl rfl) rfl ?_
 refine TL.op1 (OpR.pure rfl) rfl ?_
 refine TL.op1 (OpR.pure rfl) rfl ?_
 refine TL.op1 (OpR.pure rfl) rfl ?_
 refine TL.nil ?_
 show T X _ _ _
 refine T.seq ?_
 obtain ⟨t13, ht13, q7⟩ := bnd_some q7
 refine T.cutC (fun S' => S' = ⟨[(24, .val (.bool t13)), (11, .val (.int .i64 s3)), (10, .val (.int .i64 (a0.length : Int))), (9, .sl 1 (List.map (eI .i64) a0)), (7, .val (.int .i64 s3)), (6, .val (.int .i64 0)), (2, .val (.int .i64 a2)), (1, .val (.int .i64 a1))], [], 27⟩) (fun _ h => h) ?_ ?_
 rotate_left
 · rintro _ rfl
   show T X _ _ _
   rcases ite_some q7 with ⟨c15, q7⟩ | ⟨c15, q7⟩
   rotate_left
   · refine T.condF rfl (eq_false_of_ne_true c15) ?_
     refine T.skip ?_
     show T X _ _ _
     refine T.region ?_
     refine TL.op1 (OpR.pure rfl) rfl ?_
     refine TL.op1 (OpR.pure rfl) rfl ?_
     refine TL.nil ?_
     obtain rfl := Option.some.inj q7
     exact ⟨m5, Nat.lt_succ_self _, _, Gst.only [1, 2, 6, 9, 10, 11] rfl, w64 (s3 + 1), rfl, i8⟩
   refine T.condT rfl (c15) ?_
   refine T.seq ?_
   refine T.region ?_
   refine TL.op1 (OpR.pure rfl) rfl ?_
   refine TL.op1 (OpR.pure rfl) rfl ?_
   refine TL.nil ?_
   show T X _ _ _
   refine T.ret ?_
   obtain rfl := Option.some.inj q7
   obtain rfl : _ = _ := i8
   obtain rfl := Option.some.inj h0
   exact PostG.retP (ks := []) (Gst.only [6] rfl) undef (ResL.cons (ResV.tmp rfl) ResL.nil) rfl rfl rfl rfl
 refine T.region ?_
 refine TL.op1 (OpR.pure rfl) rfl ?_
 refine TL.op1 (OpR.pure rfl) rfl ?_
 refine TL.op1 (OpR.pure rfl) rfl ?_
 refine TL.op1 (OpR.pure rfl) rfl ?_
 rcases ite_some ht13 with ⟨c14, ht13⟩ | ⟨c14, ht13⟩
 rotate_left
 · refine TL.off rfl rfl rfl rfl (decide_eq_false c14) rfl rfl ?_
   refine TL.off rfl rfl rfl rfl (decide_eq_false c14) rfl rfl ?_
   refine TL.off rfl rfl rfl rfl (decide_eq_false c14) rfl rfl ?_
   refine TL.off rfl rfl rfl rfl (decide_eq_false c14) rfl rfl ?_
   refine TL.op1 (OpR.pickF rfl (decide_eq_false c14) rfl) rfl ?_
   refine TL.nil ?_
   obtain rfl := Option.some.inj ht13
   exact ⟨_, Gst.only [1, 2, 6, 7, 9, 10, 11, 24] rfl, rfl⟩
 refine TL.on rfl rfl rfl rfl (decide_eq_true c14) ?_
 refine TL.op1 (OpR.pure rfl) rfl ?_
 refine TL.on rfl rfl rfl rfl (decide_eq_true c14) ?_
 refine TL.op1 (OpR.pure rfl) rfl ?_
 refine TL.on rfl rfl rfl rfl (decide_eq_true c14) ?_
 refine TL.op1 (OpR.pure rfl) rfl ?_
 refine TL.on rfl rfl rfl rfl (decide_eq_true c14) ?_
 refine TL.op1 (OpR.pure rfl) rfl ?_
 refine TL.op1 (OpR.pickT rfl (decide_eq_true c14) rfl) rfl ?_
 refine TL.nil ?_
 obtain rfl := Option.some.inj ht13
 exact ⟨_, Gst.only [1, 2, 6, 7, 9, 10, 11, 24] rfl, rfl⟩
noncomputable def law10_WalkMaps.l1 (x1 : (List Int)) (s7 : Int × (List Int)) : Option (Lp (Int × (List Int)) (List Int)) :=
  if s7.1 < (x1.length : Int) then
    bnd (idx x1 s7.1) fun x16 =>
    bnd (app 8 s7.2 [w64 ((w64 (x16 * 2)) + s7.1)]) fun x17 =>
    some (Lp.next (w64 (s7.1 + 1), x17))
  else
    some (Lp.done s7.2)
noncomputable def law10_WalkMaps (a0 : List Int) (a1 : Int) (a2 : UInt8) : Option Bool :=
  bnd (law10_few a0) fun x1 =>
  bnd (tree_Of_int x1) fun x2 =>
  bnd (loop (law10_WalkMaps.l1 x1) (0, []) : Option (List Int)) fun t4 =>
  bnd (walk_Map_int x2 0) fun x20 =>
  bnd (bnd (law09_Fits x20.1 t4) fun x25 =>
  if x25 = true then
    if x20.2 = (x1.length : Int) then
      bnd (walk_Index_int_2 x2 a1 ((ub (rem (a2.toNat : Int) 2)).toNat : Int)) fun x28 =>
      bnd (ref10_Index x1 a1 ((ub (rem (a2.toNat : Int) 2)).toNat : Int)) fun x29 =>
      if x28 = x29 then
        bnd (law10_awake) fun x31 =>
        some x31
      else
        some false
    else
      some false
  else
    some false : Option Bool) fun t23 =>
  some t23
set_option maxHeartbeats 4000000 in
theorem law10_WalkMaps_c {a0 : List Int} {a1 : Int} {a2 : UInt8} {res : Bool} (h0 : law10_WalkMaps a0 a1 a2 = some res) : CallF X 9 [.sl 1 (List.map (eI .i64) a0), .val (.int .i64 a1), .val (.int .u8 (a2.toNat : Int))] [] (fun x => .val (.bool res)) (fun x => []) := by
 unfold law10_WalkMaps at h0
 refine CallF.mkG (X := X) rfl Try.func9 rfl rfl Try.ntmps9 rfl rfl ?_
 refine T.seq ?_
 refine T.region ?_
 refine TL.op1 (OpR.pure rfl) rfl ?_
 refine TL.nil ?_
 show T X _ _ _
 refine T.seq ?_
 refine T.region ?_
 refine TL.op1 (OpR.pure rfl) rfl ?_
 obtain ⟨x1, hx1, h0⟩ := bnd_some h0
 refine TL.op1 (OpR.call0 fn26 (law10_few_c hx1) rfl) rfl ?_
 refine TL.op1 (OpR.pure rfl) rfl ?_
 refine TL.nil ?_
 show T X _ _ _
 refine T.seq ?_
 refine T.region ?_
 refine TL.op1 (OpR.pure rfl) rfl ?_
 obtain ⟨x2, hx2, h0⟩ := bnd_some h0
 refine TL.op1 (OpR.call0 fn12 (tree_Of_int_c hx2) rfl) rfl ?_
 refine TL.op (OpR.alloc rfl rfl (fun _ => rfl)) rfl (fun p3 => ?_)
 refine TL.op0 (OpR.store 0 rfl rfl rfl rfl rfl rfl rfl rfl) ?_
 refine TL.nil ?_
 show T X _ _ _
 refine T.seq ?_
 refine T.region ?_
 refine TL.op1 (OpR.pure rfl) rfl ?_
 refine TL.nil ?_
 show T X _ _ _
 refine T.seq ?_
 refine T.seq ?_
 refine T.region ?_
 refine TL.op1 (OpR.pure rfl) rfl ?_
 refine TL.op1 (OpR.cast (OpR.pure rfl) (intE (lenM _ _))) rfl ?_
 refine TL.op1 (OpR.pure rfl) rfl ?_
 refine TL.nil ?_
 show T X _ _ _
 obtain ⟨t4, ht4, h0⟩ := bnd_some h0
 refine T.cutC (fun S' => ∃ y5 : Value, S' = ⟨[(8, .val y5), (7, .val (.pointer (some ⟨(blk p3), 0, none⟩))), (6, .val (.bool false)), (2, .val (.int .u8 (a2.toNat : Int))), (1, .val (.int .i64 a1)), (0, .sl 1 (List.map (eI .i64) x1))], [.var (blk p3) [(eOP x2.fRoot)] 27, .row y5 (List.map (eI .i64) t4) 1 3], 62⟩) (fun _ h => h) ?_ ?_
 · refine T.block ?_
   obtain ⟨n8, n13⟩ := loop_some ht4
   refine T.loop (fun n S' => ∃ S'', Gst S' S'' ∧ ∃ y6 : Value, ∃ s7 : Int × (List Int), S'' = ⟨[(20, .val (.int .i64 s7.1)), (19, .val (.int .i64 (x1.length : Int))), (18, .sl 1 (List.map (eI .i64) x1)), (8, .val y6), (7, .val (.pointer (some ⟨(blk p3), 0, none⟩))), (6, .val (.bool false)), (2, .val (.int .u8 (a2.toNat : Int))), (1, .val (.int .i64 a1)), (0, .sl 1 (List.map (eI .i64) x1))], [.var (blk p3) [(eOP x2.fRoot)] 27, .row y6 (List.map (eI .i64) s7.2) 1 3], 62⟩ ∧ iter (law10_WalkMaps.l1 x1) n s7 = some t4) n8 ?_ ?_
   · exact ⟨_, Gst.trans (Gst.only [0, 1, 2, 6, 7, 8, 18, 19, 20] rfl) (Gst.nilRow (ow := [.var (blk p3) [(eOP x2.fRoot)] 27]) 1 3 rfl), (.slice none 0 0), (0, []), rfl, n13⟩
   rintro n8 _ ⟨_, g, y6, s7, rfl, i12⟩
   refine T.ghost g ?_
   obtain ⟨m9, q10, rfl, q11, i12⟩ := iter_succ i12
   unfold law10_WalkMaps.l1 at q11
   refine T.seq ?_
   refine T.region ?_
   refine TL.op1 (OpR.pure rfl) rfl ?_
   refine TL.nil ?_
   show T X _ _ _
   refine T.seq ?_
   rcases ite_some q11 with ⟨c15, q11⟩ | ⟨c15, q11⟩
   rotate_left
   · refine T.condF rfl (decide_eq_false c15) ?_
     refine T.exit ?_
     obtain rfl := Option.some.inj q11
     obtain rfl : _ = _ := i12
     exact ⟨_, Gst.only [0, 1, 2, 6, 7, 8] rfl, y6, rfl⟩
   refine T.condT rfl (decide_eq_true c15) ?_
   refine T.skip ?_
   show T X _ _ _
   refine T.seq ?_
   refine T.block ?_
   refine T.seq ?_
   refine T.region ?_
   refine TL.op1 (OpR.pure rfl) rfl ?_
   obtain ⟨x16, hx16, q11⟩ := bnd_some q11
   refine TL.op1 (OpR.indexM (eI .i64) hx16 rfl rfl rfl rfl rfl) rfl ?_
   refine TL.op1 (OpR.pure rfl) rfl ?_
   refine TL.op1 (OpR.pure rfl) rfl ?_
   refine TL.op1 (OpR.pure rfl) rfl ?_
   refine TL.nil ?_
   show T X _ _ _
   refine T.region ?_
   refine TL.op1 (OpR.pure rfl) rfl ?_
   refine TL.op1 (OpR.pure rfl) rfl ?_
   refine TL.op1 (OpR.pure rfl) rfl ?_
   refine TL.op1 (OpR.pure rfl) rfl ?_
   refine TL.op1 (OpR.pure rfl) rfl ?_
   refine TL.op1 (OpR.lit rfl rfl rfl rfl rfl rfl rfl) rfl ?_
   obtain ⟨x17, hx17, q11⟩ := bnd_some q11
   refine TL.op (OpR.appendM (m := [w64 ((w64 (x16 * 2)) + s7.1)]) (eI .i64) 1 hx17 rfl rfl rfl rfl rfl rfl rfl rfl rfl (fun _ => rfl)) rfl (fun v18 => ?_)
   refine TL.op1 (OpR.pure rfl) rfl ?_
   refine TL.nil ?_
   show T X _ _ _
   refine T.region ?_
   refine TL.op1 (OpR.pure rfl) rfl ?_
   refine TL.op1 (OpR.pure rfl) rfl ?_
   refine TL.nil ?_
   obtain rfl := Option.some.inj q11
   exact ⟨m9, Nat.lt_succ_self _, _, Gst.only [0, 1, 2, 6, 7, 8, 18, 19, 20] rfl, v18, (w64 (s7.1 + 1), x17), rfl, i12⟩
 rintro _ ⟨y5, rfl⟩
 show T X _ _ _
 refine T.seq ?_
 refine T.region ?_
 refine TL.op (OpR.alloc rfl rfl (fun _ => rfl)) rfl (fun p19 => ?_)
 refine TL.op0 (OpR.store 2 rfl rfl rfl rfl rfl rfl rfl rfl) ?_
 refine TL.nil ?_
 show T X _ _ _
 refine T.seq ?_
 refine T.region ?_
 refine TL.op1 (OpR.loadPtr 0 rfl rfl rfl rfl) rfl ?_
 refine TL.op1 (OpR.pure rfl) rfl ?_
 obtain ⟨x20, hx20, h0⟩ := bnd_some h0
 refine TL.op1 (OpR.call [2] fn35 (walk_Map_int_c hx20) rfl rfl rfl (fun _ => rfl)) rfl ?_
 refine TL.op (OpR.alloc rfl rfl (fun _ => rfl)) rfl (fun p21 => ?_)
 refine TL.op0 (OpR.store 3 rfl rfl rfl rfl rfl rfl rfl rfl) ?_
 refine TL.nil ?_
 show T X _ _ _
 refine T.seq ?_
 refine T.region ?_
 refine TL.op1 (OpR.pure rfl) rfl ?_
 refine TL.op1 (OpR.cast (OpR.pure rfl) (intE (u8_rem _ _))) rfl ?_
 refine TL.op1 (OpR.cast (OpR.pure rfl) (intE (w64_u8 _))) rfl ?_
 refine TL.op (OpR.alloc rfl rfl (fun _ => rfl)) rfl (fun p22 => ?_)
 refine TL.op0 (OpR.store 4 rfl rfl rfl rfl rfl rfl rfl rfl) ?_
 refine TL.nil ?_
 show T X _ _ _
 refine T.seq ?_
 obtain ⟨t23, ht23, h0⟩ := bnd_some h0
 refine T.cutC (fun S' => S' = ⟨[(6, .val (.bool t23))], [], 62⟩) (fun _ h => h) ?_ ?_
 rotate_left
 · rintro _ rfl
   show T X _ _ _
   refine T.ret ?_
   obtain rfl := Option.some.inj h0
   exact PostG.retP (ks := []) (Gst.only [6] rfl) undef (ResL.cons (ResV.tmp rfl) ResL.nil) rfl rfl rfl rfl
 obtain ⟨x25, hx25, ht23⟩ := bnd_some ht23
 rcases ite_some ht23 with ⟨c26, ht23⟩ | ⟨c26, ht23⟩
 rotate_left
 · refine T.drawQ drawsX [.agg [(eOP x20.1.fRoot)], .val y5, .val (.bool x25), .val (.bool x25), .tup [], .tup [], .tup [], .tup [], .val (.bool false), .val (.bool false), .tup [], .tup [], .tup [], .tup [], .tup [], .tup [], .tup [], .tup [], .tup [], .val (.bool false), .val (.bool false), .tup [], .val (.bool false), .val (.bool false)] [0, 1, 2, 6, 7, 8, 11, 12, 13, 33, 34, 35, 36, 37, 38, 39, 40, 41, 42, 43, 44, 45, 46, 47, 48, 49, 50, 51, 52, 53, 54, 55, 56, 57, 58, 59, 60, 61] (by decide +kernel) rfl ?_ rfl ?_
   rotate_left
   · obtain rfl := Option.some.inj ht23
     exact ⟨_, Gst.trans (Gst.only [6] rfl) (Gst.pick [] rfl rfl), rfl⟩
   refine OpsQ.yes (Want.plain rfl) rfl (OpR.loadPtr 3 rfl rfl rfl rfl) ?_
   refine OpsQ.yes (Want.plain rfl) rfl (OpR.pure rfl) ?_
   refine OpsQ.yes (Want.plain rfl) rfl (OpR.call [1] fn13 (law09_Fits_c_2 hx25) rfl rfl rfl (fun _ => rfl)) ?_
   refine OpsQ.yes (Want.plain rfl) rfl (OpR.pure rfl) ?_
   refine OpsQ.no (Want.bool rfl rfl rfl rfl (by rw [(eq_false_of_ne_true c26)]; rfl)) rfl ?_
   refine OpsQ.no (Want.bool rfl rfl rfl rfl (by rw [(eq_false_of_ne_true c26)]; rfl)) rfl ?_
   refine OpsQ.no (Want.bool rfl rfl rfl rfl (by rw [(eq_false_of_ne_true c26)]; rfl)) rfl ?_
   refine OpsQ.no (Want.bool rfl rfl rfl rfl (by rw [(eq_false_of_ne_true c26)]; rfl)) rfl ?_
   refine OpsQ.yes (Want.plain rfl) rfl (OpR.pickF rfl (eq_false_of_ne_true c26) rfl) ?_
   refine OpsQ.yes (Want.plain rfl) rfl (OpR.pure rfl) ?_
   refine OpsQ.no (Want.bool rfl rfl rfl rfl rfl) rfl ?_
   refine OpsQ.no (Want.bool rfl rfl rfl rfl rfl) rfl ?_
   refine OpsQ.no (Want.bool rfl rfl rfl rfl rfl) rfl ?_
   refine OpsQ.no (Want.bool rfl rfl rfl rfl rfl) rfl ?_
   refine OpsQ.no (Want.bool rfl rfl rfl rfl rfl) rfl ?_
   refine OpsQ.no (Want.bool rfl rfl rfl rfl rfl) rfl ?_
   refine OpsQ.no (Want.bool rfl rfl rfl rfl rfl) rfl ?_
   refine OpsQ.no (Want.bool rfl rfl rfl rfl rfl) rfl ?_
   refine OpsQ.no (Want.bool rfl rfl rfl rfl rfl) rfl ?_
   refine OpsQ.yes (Want.plain rfl) rfl (OpR.pickF rfl rfl rfl) ?_
   refine OpsQ.yes (Want.plain rfl) rfl (OpR.pure rfl) ?_
   refine OpsQ.no (Want.bool rfl rfl rfl rfl rfl) rfl ?_
   refine OpsQ.yes (Want.plain rfl) rfl (OpR.pickF rfl rfl rfl) ?_
   refine OpsQ.yes (Want.plain rfl) rfl (OpR.pure rfl) ?_
   exact OpsQ.nil
 rcases ite_some ht23 with ⟨c27, ht23⟩ | ⟨c27, ht23⟩
 rotate_left
 · refine T.drawQ drawsX [.agg [(eOP x20.1.fRoot)], .val y5, .val (.bool x25), .val (.bool x25), .val (.int .i64 x20.2), .sl 1 (List.map (eI .i64) x1), .val (.int .i64 (x1.length : Int)), .val (.bool (x20.2 == (x1.length : Int))), .val (.bool (x20.2 == (x1.length : Int))), .val (.bool (x20.2 == (x1.length : Int))), .tup [], .tup [], .tup [], .tup [], .tup [], .tup [], .tup [], .tup [], .tup [], .val (.bool false), .val (.bool false), .tup [], .val (.bool false), .val (.bool false)] [0, 1, 2, 6, 7, 8, 11, 12, 13, 33, 34, 35, 36, 37, 38, 39, 40, 41, 42, 43, 44, 45, 46, 47, 48, 49, 50, 51, 52, 53, 54, 55, 56, 57, 58, 59, 60, 61] (by decide +kernel) rfl ?_ rfl ?_
   rotate_left
   · obtain rfl := Option.some.inj ht23
     exact ⟨_, Gst.trans (Gst.only [6] rfl) (Gst.pick [] rfl rfl), rfl⟩
   refine OpsQ.yes (Want.plain rfl) rfl (OpR.loadPtr 3 rfl rfl rfl rfl) ?_
   refine OpsQ.yes (Want.plain rfl) rfl (OpR.pure rfl) ?_
   refine OpsQ.yes (Want.plain rfl) rfl (OpR.call [1] fn13 (law09_Fits_c_2 hx25) rfl rfl rfl (fun _ => rfl)) ?_
   refine OpsQ.yes (Want.plain rfl) rfl (OpR.pure rfl) ?_
   refine OpsQ.yes (Want.bool rfl rfl rfl rfl (by rw [(c26)]; rfl)) rfl (OpR.loadPtr 2 rfl rfl rfl rfl) ?_
   refine OpsQ.yes (Want.bool rfl rfl rfl rfl (by rw [(c26)]; rfl)) rfl (OpR.pure rfl) ?_
   refine OpsQ.yes (Want.bool rfl rfl rfl rfl (by rw [(c26)]; rfl)) rfl (OpR.cast (OpR.pure rfl) (intE (lenM _ _))) ?_
   refine OpsQ.yes (Want.bool rfl rfl rfl rfl (by rw [(c26)]; rfl)) rfl (OpR.pure rfl) ?_
   refine OpsQ.yes (Want.plain rfl) rfl (OpR.pickT rfl (c26) rfl) ?_
   refine OpsQ.yes (Want.plain rfl) rfl (OpR.pure rfl) ?_
   refine OpsQ.no (Want.bool rfl rfl rfl rfl (by rw [(beq_eq_false_iff_ne.2 c27)]; rfl)) rfl ?_
   refine OpsQ.no (Want.bool rfl rfl rfl rfl (by rw [(beq_eq_false_iff_ne.2 c27)]; rfl)) rfl ?_
   refine OpsQ.no (Want.bool rfl rfl rfl rfl (by rw [(beq_eq_false_iff_ne.2 c27)]; rfl)) rfl ?_
   refine OpsQ.no (Want.bool rfl rfl rfl rfl (by rw [(beq_eq_false_iff_ne.2 c27)]; rfl)) rfl ?_
   refine OpsQ.no (Want.bool rfl rfl rfl rfl (by rw [(beq_eq_false_iff_ne.2 c27)]; rfl)) rfl ?_
   refine OpsQ.no (Want.bool rfl rfl rfl rfl (by rw [(beq_eq_false_iff_ne.2 c27)]; rfl)) rfl ?_
   refine OpsQ.no (Want.bool rfl rfl rfl rfl (by rw [(beq_eq_false_iff_ne.2 c27)]; rfl)) rfl ?_
   refine OpsQ.no (Want.bool rfl rfl rfl rfl (by rw [(beq_eq_false_iff_ne.2 c27)]; rfl)) rfl ?_
   refine OpsQ.no (Want.bool rfl rfl rfl rfl (by rw [(beq_eq_false_iff_ne.2 c27)]; rfl)) rfl ?_
   refine OpsQ.yes (Want.plain rfl) rfl (OpR.pickF rfl (beq_eq_false_iff_ne.2 c27) rfl) ?_
   refine OpsQ.yes (Want.plain rfl) rfl (OpR.pure rfl) ?_
   refine OpsQ.no (Want.bool rfl rfl rfl rfl rfl) rfl ?_
   refine OpsQ.yes (Want.plain rfl) rfl (OpR.pickF rfl rfl rfl) ?_
   refine OpsQ.yes (Want.plain rfl) rfl (OpR.pure rfl) ?_
   exact OpsQ.nil
 obtain ⟨x28, hx28, ht23⟩ := bnd_some ht23
 obtain ⟨x29, hx29, ht23⟩ := bnd_some ht23
 rcases ite_some ht23 with ⟨c30, ht23⟩ | ⟨c30, ht23⟩
 rotate_left
 · refine T.drawQ drawsX [.agg [(eOP x20.1.fRoot)], .val y5, .val (.bool x25), .val (.bool x25), .val (.int .i64 x20.2), .sl 1 (List.map (eI .i64) x1), .val (.int .i64 (x1.length : Int)), .val (.bool (x20.2 == (x1.length : Int))), .val (.bool (x20.2 == (x1.length : Int))), .val (.bool (x20.2 == (x1.length : Int))), .agg [(eOP x2.fRoot)], .val (.int .i64 a1), .fn (.func 38) [] [.val (.pointer (some ⟨(blk p22), 0, none⟩))], .val (.int .i64 x28), .sl 1 (List.map (eI .i64) x1), .val (.int .i64 a1), .val (.int .i64 ((ub (rem (a2.toNat : Int) 2)).toNat : Int)), .val (.int .i64 x29), .val (.bool (x28 == x29)), .val (.bool (x28 == x29)), .val (.bool (x28 == x29)), .tup [], .val (.bool false), .val (.bool false)] [0, 1, 2, 6, 7, 8, 11, 12, 13, 33, 34, 35, 36, 37, 38, 39, 40, 41, 42, 43, 44, 45, 46, 47, 48, 49, 50, 51, 52, 53, 54, 55, 56, 57, 58, 59, 60, 61] (by decide +kernel) rfl ?_ rfl ?_
   rotate_left
   · obtain rfl := Option.some.inj ht23
     exact ⟨_, Gst.trans (Gst.only [6] rfl) (Gst.pick [] rfl rfl), rfl⟩
   refine OpsQ.yes (Want.plain rfl) rfl (OpR.loadPtr 3 rfl rfl rfl rfl) ?_
   refine OpsQ.yes (Want.plain rfl) rfl (OpR.pure rfl) ?_
   refine OpsQ.yes (Want.plain rfl) rfl (OpR.call [1] fn13 (law09_Fits_c_2 hx25) rfl rfl rfl (fun _ => rfl)) ?_
   refine OpsQ.yes (Want.plain rfl) rfl (OpR.pure rfl) ?_
   refine OpsQ.yes (Want.bool rfl rfl rfl rfl (by rw [(c26)]; rfl)) rfl (OpR.loadPtr 2 rfl rfl rfl rfl) ?_
   refine OpsQ.yes (Want.bool rfl rfl rfl rfl (by rw [(c26)]; rfl)) rfl (OpR.pure rfl) ?_
   refine OpsQ.yes (Want.bool rfl rfl rfl rfl (by rw [(c26)]; rfl)) rfl (OpR.cast (OpR.pure rfl) (intE (lenM _ _))) ?_
   refine OpsQ.yes (Want.bool rfl rfl rfl rfl (by rw [(c26)]; rfl)) rfl (OpR.pure rfl) ?_
   refine OpsQ.yes (Want.plain rfl) rfl (OpR.pickT rfl (c26) rfl) ?_
   refine OpsQ.yes (Want.plain rfl) rfl (OpR.pure rfl) ?_
   refine OpsQ.yes (Want.bool rfl rfl rfl rfl (by rw [(beq_iff_eq.2 c27)]; rfl)) rfl (OpR.loadPtr 0 rfl rfl rfl rfl) ?_
   refine OpsQ.yes (Want.bool rfl rfl rfl rfl (by rw [(beq_iff_eq.2 c27)]; rfl)) rfl (OpR.pure rfl) ?_
   refine OpsQ.yes (Want.bool rfl rfl rfl rfl (by rw [(beq_iff_eq.2 c27)]; rfl)) rfl (OpR.pure rfl) ?_
   refine OpsQ.yes (Want.bool rfl rfl rfl rfl (by rw [(beq_iff_eq.2 c27)]; rfl)) rfl (OpR.call [4] fn37 (walk_Index_int_2_c hx28) rfl rfl rfl (fun _ => rfl)) ?_
   refine OpsQ.yes (Want.bool rfl rfl rfl rfl (by rw [(beq_iff_eq.2 c27)]; rfl)) rfl (OpR.pure rfl) ?_
   refine OpsQ.yes (Want.bool rfl rfl rfl rfl (by rw [(beq_iff_eq.2 c27)]; rfl)) rfl (OpR.pure rfl) ?_
   refine OpsQ.yes (Want.bool rfl rfl rfl rfl (by rw [(beq_iff_eq.2 c27)]; rfl)) rfl (OpR.loadPtr 4 rfl rfl rfl rfl) ?_
   refine OpsQ.yes (Want.bool rfl rfl rfl rfl (by rw [(beq_iff_eq.2 c27)]; rfl)) rfl (OpR.call0 fn39 (ref10_Index_c hx29) rfl) ?_
   refine OpsQ.yes (Want.bool rfl rfl rfl rfl (by rw [(beq_iff_eq.2 c27)]; rfl)) rfl (OpR.pure rfl) ?_
   refine OpsQ.yes (Want.plain rfl) rfl (OpR.pickT rfl (beq_iff_eq.2 c27) rfl) ?_
   refine OpsQ.yes (Want.plain rfl) rfl (OpR.pure rfl) ?_
   refine OpsQ.no (Want.bool rfl rfl rfl rfl (by rw [(beq_eq_false_iff_ne.2 c30)]; rfl)) rfl ?_
   refine OpsQ.yes (Want.plain rfl) rfl (OpR.pickF rfl (beq_eq_false_iff_ne.2 c30) rfl) ?_
   refine OpsQ.yes (Want.plain rfl) rfl (OpR.pure rfl) ?_
   exact OpsQ.nil
 obtain ⟨x31, hx31, ht23⟩ := bnd_some ht23
 refine T.drawQ drawsX [.agg [(eOP x20.1.fRoot)], .val y5, .val (.bool x25), .val (.bool x25), .val (.int .i64 x20.2), .sl 1 (List.map (eI .i64) x1), .val (.int .i64 (x1.length : Int)), .val (.bool (x20.2 == (x1.length : Int))), .val (.bool (x20.2 == (x1.length : Int))), .val (.bool (x20.2 == (x1.length : Int))), .agg [(eOP x2.fRoot)], .val (.int .i64 a1), .fn (.func 38) [] [.val (.pointer (some ⟨(blk p22), 0, none⟩))], .val (.int .i64 x28), .sl 1 (List.map (eI .i64) x1), .val (.int .i64 a1), .val (.int .i64 ((ub (rem (a2.toNat : Int) 2)).toNat : Int)), .val (.int .i64 x29), .val (.bool (x28 == x29)), .val (.bool (x28 == x29)), .val (.bool (x28 == x29)), .val (.bool x31), .val (.bool x31), .val (.bool x31)] [0, 1, 2, 6, 7, 8, 11, 12, 13, 33, 34, 35, 36, 37, 38, 39, 40, 41, 42, 43, 44, 45, 46, 47, 48, 49, 50, 51, 52, 53, 54, 55, 56, 57, 58, 59, 60, 61] (by decide +kernel) rfl ?_ rfl ?_
 rotate_left
 · obtain rfl := Option.some.inj ht23
   exact ⟨_, Gst.trans (Gst.only [6] rfl) (Gst.pick [] rfl rfl), rfl⟩
 refine OpsQ.yes (Want.plain rfl) rfl (OpR.loadPtr 3 rfl rfl rfl rfl) ?_
 refine OpsQ.yes (Want.plain rfl) rfl (OpR.pure rfl) ?_
 refine OpsQ.yes (Want.plain rfl) rfl (OpR.call [1] fn13 (law09_Fits_c_2 hx25) rfl rfl rfl (fun _ => rfl)) ?_
 refine OpsQ.yes (Want.plain rfl) rfl (OpR.pure rfl) ?_
 refine OpsQ.yes (Want.bool rfl rfl rfl rfl (by rw [(c26)]; rfl)) rfl (OpR.loadPtr 2 rfl rfl rfl rfl) ?_
 refine OpsQ.yes (Want.bool rfl rfl rfl rfl (by rw [(c26)]; rfl)) rfl (OpR.pure rfl) ?_
 refine OpsQ.yes (Want.bool rfl rfl rfl rfl (by rw [(c26)]; rfl)) rfl (OpR.cast (OpR.pure rfl) (intE (lenM _ _))) ?_
 refine OpsQ.yes (Want.bool rfl rfl rfl rfl (by rw [(c26)]; rfl)) rfl (OpR.pure rfl) ?_
 refine OpsQ.yes (Want.plain rfl) rfl (OpR.pickT rfl (c26) rfl) ?_
 refine OpsQ.yes (Want.plain rfl) rfl (OpR.pure rfl) ?_
 refine OpsQ.yes (Want.bool rfl rfl rfl rfl (by rw [(beq_iff_eq.2 c27)]; rfl)) rfl (OpR.loadPtr 0 rfl rfl rfl rfl) ?_
 refine OpsQ.yes (Want.bool rfl rfl rfl rfl (by rw [(beq_iff_eq.2 c27)]; rfl)) rfl (OpR.pure rfl) ?_
 refine OpsQ.yes (Want.bool rfl rfl rfl rfl (by rw [(beq_iff_eq.2 c27)]; rfl)) rfl (OpR.pure rfl) ?_
 refine OpsQ.yes (Want.bool rfl rfl rfl rfl (by rw [(beq_iff_eq.2 c27)]; rfl)) rfl (OpR.call [4] fn37 (walk_Index_int_2_c hx28) rfl rfl rfl (fun _ => rfl)) ?_
 refine OpsQ.yes (Want.bool rfl rfl rfl rfl (by rw [(beq_iff_eq.2 c27)]; rfl)) rfl (OpR.pure rfl) ?_
 refine OpsQ.yes (Want.bool rfl rfl rfl rfl (by rw [(beq_iff_eq.2 c27)]; rfl)) rfl (OpR.pure rfl) ?_
 refine OpsQ.yes (Want.bool rfl rfl rfl rfl (by rw [(beq_iff_eq.2 c27)]; rfl)) rfl (OpR.loadPtr 4 rfl rfl rfl rfl) ?_
 refine OpsQ.yes (Want.bool rfl rfl rfl rfl (by rw [(beq_iff_eq.2 c27)]; rfl)) rfl (OpR.call0 fn39 (ref10_Index_c hx29) rfl) ?_
 refine OpsQ.yes (Want.bool rfl rfl rfl rfl (by rw [(beq_iff_eq.2 c27)]; rfl)) rfl (OpR.pure rfl) ?_
 refine OpsQ.yes (Want.plain rfl) rfl (OpR.pickT rfl (beq_iff_eq.2 c27) rfl) ?_
 refine OpsQ.yes (Want.plain rfl) rfl (OpR.pure rfl) ?_
 refine OpsQ.yes (Want.bool rfl rfl rfl rfl (by rw [(beq_iff_eq.2 c30)]; rfl)) rfl (OpR.call0 fn33 (law10_awake_c hx31) rfl) ?_
 refine OpsQ.yes (Want.plain rfl) rfl (OpR.pickT rfl (beq_iff_eq.2 c30) rfl) ?_
 refine OpsQ.yes (Want.plain rfl) rfl (OpR.pure rfl) ?_
 exact OpsQ.nil
end Go.Proofs.Ytkmdfaodbiknlaa.S
