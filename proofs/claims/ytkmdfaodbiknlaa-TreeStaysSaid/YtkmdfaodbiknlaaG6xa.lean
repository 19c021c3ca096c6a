/- Printed by a program of this session's own (gen.py): Lean functions for Go functions, and the proofs that the Go code comes to their answers. -/
import Derived.Test.YtkmdfaodbiknlaaG1xa
import Derived.Test.YtkmdfaodbiknlaaG2xa
import Derived.Test.YtkmdfaodbiknlaaG4xa
set_option linter.unusedVariables false
set_option linter.unusedSimpArgs false
set_option maxRecDepth 20000
namespace Go.Proofs.Ytkmdfaodbiknlaa.S
open Go Go.Sm
attribute [local irreducible] T TL OpR CallT iter loop
noncomputable def law09_TreeStays.l1 (a1 : List law09_Op) (s11 : (List Int) × Int × (Option NP) × (List tree_Tree_int) × (List (List Int))) : Option (Lp ((List Int) × Int × (Option NP) × (List tree_Tree_int) × (List (List Int))) ((List tree_Tree_int) × (List (List Int)))) :=
  if s11.2.1 < (a1.length : Int) then
    bnd (idx a1 s11.2.1) fun x20 =>
    if s11.2.1 ≥ 40 then
      some (Lp.done (s11.2.2.2.1, s11.2.2.2.2))
    else
      bnd (law09_step (⟨s11.2.2.1⟩ : tree_Tree_int) s11.1 x20) fun x23 =>
      bnd (app 8 s11.2.2.2.1 [x23.1]) fun x24 =>
      bnd (app 24 s11.2.2.2.2 [x23.2.1]) fun x26 =>
      some (Lp.next (x23.2.1, w64 (s11.2.1 + 1), x23.1.fRoot, x24, x26))
  else
    some (Lp.done (s11.2.2.2.1, s11.2.2.2.2))
noncomputable def law09_TreeStays.l2 (t6 : (List tree_Tree_int) × (List (List Int))) (s30 : Int) : Option (Lp Int (Ex Unit Bool)) :=
  if s30 < (t6.1.length : Int) then
    bnd (idx t6.1 s30) fun x40 =>
    bnd (law09_All x40) fun x41 =>
    bnd (idx t6.2 s30) fun x42 =>
    bnd (ref09_Same x41 x42) fun x43 =>
    if x43 = true then
      some (Lp.next (w64 (s30 + 1)))
    else
      some (Lp.done (Ex.ret false))
  else
    some (Lp.done (Ex.brk ()))
noncomputable def law09_TreeStays (a0 : List Int) (a1 : List law09_Op) : Option Bool :=
  bnd (law09_few a0) fun x1 =>
  bnd (tree_Of_int x1) fun x2 =>
  bnd (loop (law09_TreeStays.l1 a1) (x1, 0, x2.fRoot, [x2], [x1]) : Option ((List tree_Tree_int) × (List (List Int)))) fun t6 =>
  bnd (loop (law09_TreeStays.l2 t6) 0 : Option (Ex Unit Bool)) fun t28 => match t28 with
    | .brk u29 =>
      bnd (law09_awake) fun x45 =>
      some x45
    | .ret u29 => some u29
set_option maxHeartbeats 4000000 in
theorem law09_TreeStays_c {a0 : List Int} {a1 : List law09_Op} {res : Bool} (h0 : law09_TreeStays a0 a1 = some res) : CallF X 4 [.sl 1 (List.map (eI .i64) a0), .sl 4 (List.map e_law09_Op a1)] [] (fun x => .val (.bool res)) (fun x => []) := by
 unfold law09_TreeStays at h0
 refine CallF.mkG (X := X) Try.func4 rfl rfl Try.ntmps4 rfl rfl ?_
 refine T.seq ?_
 refine T.region ?_
 refine TL.op1 (OpR.pure rfl) rfl ?_
 refine TL.nil ?_
 show T X _ _ _
 refine T.seq ?_
 refine T.region ?_
 refine TL.op1 (OpR.pure rfl) rfl ?_
 obtain ⟨x1, hx1, h0⟩ := bnd_some h0
 refine TL.op1 (OpR.call0 fn11 (law09_few_c hx1) rfl) rfl ?_
 refine TL.op1 (OpR.pure rfl) rfl ?_
 refine TL.nil ?_
 show T X _ _ _
 refine T.seq ?_
 refine T.region ?_
 refine TL.op1 (OpR.pure rfl) rfl ?_
 obtain ⟨x2, hx2, h0⟩ := bnd_some h0
 refine TL.op1 (OpR.call0 fn12 (tree_Of_int_c hx2) rfl) rfl ?_
 refine TL.op (OpR.alloc rfl rfl (fun _ => rfl)) rfl (fun p3 => ?_)
 refine TL.op0 (OpR.store 0 rfl rfl rfl rfl rfl rfl rfl rfl) ?_
 refine TL.nil ?_
 show T X _ _ _
 refine T.seq ?_
 refine T.region ?_
 refine TL.op1 (OpR.loadPtr 0 rfl rfl rfl rfl) rfl ?_
 refine TL.op (OpR.litRow rfl rfl rfl rfl rfl rfl rfl rfl (fun _ => rfl)) rfl (fun v4 => ?_)
 refine TL.op1 (OpR.pure rfl) rfl ?_
 refine TL.nil ?_
 show T X _ _ _
 refine T.seq ?_
 refine T.region ?_
 refine TL.op1 (OpR.pure rfl) rfl ?_
 refine TL.op (OpR.litRow rfl rfl rfl rfl rfl rfl rfl rfl (fun _ => rfl)) rfl (fun v5 => ?_)
 refine TL.op1 (OpR.pure rfl) rfl ?_
 refine TL.nil ?_
 show T X _ _ _
 refine T.seq ?_
 refine T.seq ?_
 refine T.region ?_
 refine TL.op1 (OpR.pure rfl) rfl ?_
 refine TL.op1 (OpR.cast (OpR.pure rfl) (intE (lenM _ _))) rfl ?_
 refine TL.op1 (OpR.pure rfl) rfl ?_
 refine TL.nil ?_
 show T X _ _ _
 obtain ⟨t6, ht6, h0⟩ := bnd_some h0
 refine T.cutC (fun S' => ∃ y7 : Value, ∃ y8 : Value, S' = ⟨[(7, .val y8), (6, .val y7), (4, .val (.bool false))], [.row y7 (List.map e_tree_Tree_int t6.1) 1 27, .row y8 (List.map e_sl22 t6.2) 1 22], 63⟩) (fun _ h => h) ?_ ?_
 · refine T.block ?_
   obtain ⟨n12, n17⟩ := loop_some ht6
   refine T.loop (fun n S' => ∃ S'', Gst S' S'' ∧ ∃ y9 : Value, ∃ y10 : Value, ∃ s11 : (List Int) × Int × (Option NP) × (List tree_Tree_int) × (List (List Int)), S'' = ⟨[(21, .val (.int .i64 s11.2.1)), (20, .val (.int .i64 (a1.length : Int))), (19, .sl 4 (List.map e_law09_Op a1)), (7, .val y10), (6, .val y9), (5, .val (.pointer (some ⟨(blk p3), 0, none⟩))), (4, .val (.bool false)), (0, .sl 1 (List.map (eI .i64) s11.1))], [.var (blk p3) [(eOP s11.2.2.1)] 27, .row y9 (List.map e_tree_Tree_int s11.2.2.2.1) 1 27, .row y10 (List.map e_sl22 s11.2.2.2.2) 1 22], 63⟩ ∧ iter (law09_TreeStays.l1 a1) n s11 = some t6) n12 ?_ ?_
   · exact ⟨_, Gst.only [0, 4, 5, 6, 7, 19, 20, 21] rfl, v4, v5, (x1, 0, x2.fRoot, [x2], [x1]), rfl, n17⟩
   rintro n12 _ ⟨_, g, y9, y10, s11, rfl, i16⟩
   refine T.ghost g ?_
   obtain ⟨m13, q14, rfl, q15, i16⟩ := iter_succ i16
   unfold law09_TreeStays.l1 at q15
   refine T.seq ?_
   refine T.region ?_
   refine TL.op1 (OpR.pure rfl) rfl ?_
   refine TL.nil ?_
   show T X _ _ _
   refine T.seq ?_
   rcases ite_some q15 with ⟨c19, q15⟩ | ⟨c19, q15⟩
   rotate_left
   · refine T.condF rfl (decide_eq_false c19) ?_
     refine T.exit ?_
     obtain rfl := Option.some.inj q15
     obtain rfl : _ = _ := i16
     exact ⟨_, Gst.trans (Gst.only [4, 6, 7] rfl) (Gst.pick [1, 2] rfl rfl), y9, y10, rfl⟩
   refine T.condT rfl (decide_eq_true c19) ?_
   refine T.skip ?_
   show T X _ _ _
   refine T.seq ?_
   refine T.block ?_
   refine T.seq ?_
   refine T.region ?_
   refine TL.op1 (OpR.pure rfl) rfl ?_
   obtain ⟨x20, hx20, q15⟩ := bnd_some q15
   refine TL.op1 (OpR.indexM e_law09_Op hx20 rfl rfl rfl rfl rfl) rfl ?_
   refine TL.op1 (OpR.pure rfl) rfl ?_
   refine TL.op (OpR.alloc rfl rfl (fun _ => rfl)) rfl (fun p21 => ?_)
   refine TL.op1 (OpR.pure rfl) rfl ?_
   refine TL.op0 (OpR.store 3 rfl rfl rfl rfl rfl rfl rfl rfl) ?_
   refine TL.nil ?_
   show T X _ _ _
   refine T.seq ?_
   refine T.seq ?_
   refine T.region ?_
   refine TL.op1 (OpR.pure rfl) rfl ?_
   refine TL.op1 (OpR.pure rfl) rfl ?_
   refine TL.nil ?_
   show T X _ _ _
   rcases ite_some q15 with ⟨c22, q15⟩ | ⟨c22, q15⟩
   · refine T.condT rfl (decide_eq_true c22) ?_
     refine T.exit ?_
     obtain rfl := Option.some.inj q15
     obtain rfl : _ = _ := i16
     exact ⟨_, Gst.trans (Gst.only [4, 6, 7] rfl) (Gst.pick [1, 2] rfl rfl), y9, y10, rfl⟩
   refine T.condF rfl (decide_eq_false c22) ?_
   refine T.skip ?_
   show T X _ _ _
   refine T.seq ?_
   refine T.region ?_
   refine TL.op1 (OpR.loadPtr 0 rfl rfl rfl rfl) rfl ?_
   refine TL.op1 (OpR.pure rfl) rfl ?_
   refine TL.op1 (OpR.loadPtr 3 rfl rfl rfl rfl) rfl ?_
   obtain ⟨x23, hx23, q15⟩ := bnd_some q15
   refine TL.op1 (OpR.call0 fn14 (law09_step_c hx23) rfl) rfl ?_
   refine TL.op1 (OpR.pure rfl) rfl ?_
   refine TL.op1 (OpR.pure rfl) rfl ?_
   refine TL.op1 (OpR.pure rfl) rfl ?_
   refine TL.op1 (OpR.pure rfl) rfl ?_
   refine TL.op0 (OpR.store 0 rfl rfl rfl rfl rfl rfl rfl rfl) ?_
   refine TL.op1 (OpR.pure rfl) rfl ?_
   refine TL.nil ?_
   show T X _ _ _
   refine T.seq ?_
   refine T.region ?_
   refine TL.op1 (OpR.pure rfl) rfl ?_
   refine TL.op1 (OpR.loadPtr 0 rfl rfl rfl rfl) rfl ?_
   refine TL.op1 (OpR.lit rfl rfl rfl rfl rfl rfl rfl) rfl ?_
   obtain ⟨x24, hx24, q15⟩ := bnd_some q15
   refine TL.op (OpR.appendM (m := [x23.1]) e_tree_Tree_int 1 hx24 rfl rfl rfl rfl rfl rfl rfl rfl rfl (fun _ => rfl)) rfl (fun v25 => ?_)
   refine TL.op1 (OpR.pure rfl) rfl ?_
   refine TL.nil ?_
   show T X _ _ _
   refine T.region ?_
   refine TL.op1 (OpR.pure rfl) rfl ?_
   refine TL.op1 (OpR.pure rfl) rfl ?_
   refine TL.op1 (OpR.lit rfl rfl rfl rfl rfl rfl rfl) rfl ?_
   obtain ⟨x26, hx26, q15⟩ := bnd_some q15
   refine TL.op (OpR.appendM (m := [x23.2.1]) e_sl22 2 hx26 rfl rfl rfl rfl rfl rfl rfl rfl rfl (fun _ => rfl)) rfl (fun v27 => ?_)
   refine TL.op1 (OpR.pure rfl) rfl ?_
   refine TL.nil ?_
   show T X _ _ _
   refine T.region ?_
   refine TL.op1 (OpR.pure rfl) rfl ?_
   refine TL.op1 (OpR.pure rfl) rfl ?_
   refine TL.nil ?_
   obtain rfl := Option.some.inj q15
   exact ⟨m13, Nat.lt_succ_self _, _, Gst.trans (Gst.only [0, 4, 5, 6, 7, 19, 20, 21] rfl) (Gst.pick [0, 1, 2] rfl rfl), v25, v27, (x23.2.1, w64 (s11.2.1 + 1), x23.1.fRoot, x24, x26), rfl, i16⟩
 rintro _ ⟨y7, y8, rfl⟩
 show T X _ _ _
 refine T.seq ?_
 refine T.seq ?_
 refine T.region ?_
 refine TL.op1 (OpR.pure rfl) rfl ?_
 refine TL.op1 (OpR.rowLenM e_tree_Tree_int 0 rfl rfl rfl rfl) rfl ?_
 refine TL.op1 (OpR.pure rfl) rfl ?_
 refine TL.nil ?_
 show T X _ _ _
 obtain ⟨t28, ht28, h0⟩ := bnd_some h0
 refine T.cutC (fun S' => ∃ u29, t28 = Ex.brk u29 ∧ S' = ⟨[(4, .val (.bool false))], [], 63⟩) (fun _ h => h) ?_ ?_
 rotate_left
 · rintro _ ⟨u29, rfl, rfl⟩
   show T X _ _ _
   refine T.seq ?_
   refine T.region ?_
   obtain ⟨x45, hx45, h0⟩ := bnd_some h0
   refine TL.op1 (OpR.call0 fn17 (law09_awake_c hx45) rfl) rfl ?_
   refine TL.op1 (OpR.pure rfl) rfl ?_
   refine TL.nil ?_
   show T X _ _ _
   refine T.ret ?_
   obtain rfl := Option.some.inj h0
   exact PostG.retP (ks := []) (Gst.only [4] rfl) undef (ResL.cons (ResV.tmp rfl) ResL.nil) rfl rfl rfl rfl
 refine T.block ?_
 obtain ⟨n31, n36⟩ := loop_some ht28
 refine T.loop (fun n S' => ∃ S'', Gst S' S'' ∧ ∃ s30 : Int, S'' = ⟨[(47, .val (.int .i64 s30)), (46, .val (.int .i64 (t6.1.length : Int))), (7, .val y8), (6, .val y7), (4, .val (.bool false))], [.row y7 (List.map e_tree_Tree_int t6.1) 1 27, .row y8 (List.map e_sl22 t6.2) 1 22], 63⟩ ∧ iter (law09_TreeStays.l2 t6) n s30 = some t28) n31 ?_ ?_
 · exact ⟨_, Gst.only [4, 6, 7, 46, 47] rfl, 0, rfl, n36⟩
 rintro n31 _ ⟨_, g, s30, rfl, i35⟩
 refine T.ghost g ?_
 obtain ⟨m32, q33, rfl, q34, i35⟩ := iter_succ i35
 unfold law09_TreeStays.l2 at q34
 refine T.seq ?_
 refine T.region ?_
 refine TL.op1 (OpR.pure rfl) rfl ?_
 refine TL.nil ?_
 show T X _ _ _
 refine T.seq ?_
 rcases ite_some q34 with ⟨c38, q34⟩ | ⟨c38, q34⟩
 rotate_left
 · refine T.condF rfl (decide_eq_false c38) ?_
   refine T.exit ?_
   obtain rfl := Option.some.inj q34
   obtain rfl : _ = _ := i35
   exact ⟨_, Gst.trans (Gst.only [4] rfl) (Gst.pick [] rfl rfl), _, rfl, rfl⟩
 refine T.condT rfl (decide_eq_true c38) ?_
 refine T.skip ?_
 show T X _ _ _
 refine T.seq ?_
 refine T.block ?_
 refine T.seq ?_
 refine T.region ?_
 refine TL.op1 (OpR.pure rfl) rfl ?_
 refine TL.op1 (OpR.pure rfl) rfl ?_
 refine TL.nil ?_
 show T X _ _ _
 refine T.seq ?_
 obtain ⟨x40, hx40, q34⟩ := bnd_some q34
 obtain ⟨x41, hx41, q34⟩ := bnd_some q34
 obtain ⟨x42, hx42, q34⟩ := bnd_some q34
 obtain ⟨x43, hx43, q34⟩ := bnd_some q34
 refine T.drawQ drawsX [.val y7, .val (.int .i64 s30), .val (.pointer (some ⟨blk y7, s30.toNat * 1, none⟩)), .agg [(eOP x40.fRoot)], .sl 1 (List.map (eI .i64) x41), .val y8, .val (.int .i64 s30), .val (.pointer (some ⟨blk y8, s30.toNat * 1, none⟩)), .sl 1 (List.map (eI .i64) x42), .val (.bool x43), .val (.bool (!x43))] [4, 6, 7, 10, 46, 47, 48, 49, 50, 51, 53, 54, 55, 56, 58, 59, 60] (by decide +kernel) rfl ?_ rfl ?_
 rotate_left
 · show T X _ _ _
   rcases ite_some q34 with ⟨c44, q34⟩ | ⟨c44, q34⟩
   · refine T.condF rfl (not_t (c44)) ?_
     refine T.skip ?_
     show T X _ _ _
     refine T.region ?_
     refine TL.op1 (OpR.pure rfl) rfl ?_
     refine TL.op1 (OpR.pure rfl) rfl ?_
     refine TL.nil ?_
     obtain rfl := Option.some.inj q34
     exact ⟨m32, Nat.lt_succ_self _, _, Gst.only [4, 6, 7, 46, 47] rfl, w64 (s30 + 1), rfl, i35⟩
   refine T.condT rfl (not_f (eq_false_of_ne_true c44)) ?_
   refine T.seq ?_
   refine T.region ?_
   refine TL.op1 (OpR.pure rfl) rfl ?_
   refine TL.nil ?_
   show T X _ _ _
   refine T.ret ?_
   obtain rfl := Option.some.inj q34
   obtain rfl : _ = _ := i35
   obtain rfl := Option.some.inj h0
   exact PostG.retP (ks := []) (Gst.trans (Gst.only [4] rfl) (Gst.pick [] rfl rfl)) undef (ResL.cons (ResV.tmp rfl) ResL.nil) rfl rfl rfl rfl
 refine OpsQ.yes (Want.plain rfl) rfl (OpR.pure rfl) ?_
 refine OpsQ.yes (Want.plain rfl) rfl (OpR.pure rfl) ?_
 refine OpsQ.yes (Want.plain rfl) rfl (OpR.rowIndexM e_tree_Tree_int 0 hx40 rfl rfl rfl rfl rfl rfl rfl) ?_
 refine OpsQ.yes (Want.plain rfl) rfl (OpR.rowLoad0M (j := s30) e_tree_Tree_int 0 hx40 rfl rfl rfl rfl) ?_
 refine OpsQ.yes (Want.plain rfl) rfl (OpR.call0 fn16 (law09_All_c hx41) rfl) ?_
 refine OpsQ.yes (Want.plain rfl) rfl (OpR.pure rfl) ?_
 refine OpsQ.yes (Want.plain rfl) rfl (OpR.pure rfl) ?_
 refine OpsQ.yes (Want.plain rfl) rfl (OpR.rowIndexM e_sl22 1 hx42 rfl rfl rfl rfl rfl rfl rfl) ?_
 refine OpsQ.yes (Want.plain rfl) rfl (OpR.rowLoad0M (j := s30) e_sl22 1 hx42 rfl rfl rfl rfl) ?_
 refine OpsQ.yes (Want.plain rfl) rfl (OpR.call0 fn15 (ref09_Same_c hx43) rfl) ?_
 refine OpsQ.yes (Want.plain rfl) rfl (OpR.pure rfl) ?_
 exact OpsQ.nil
end Go.Proofs.Ytkmdfaodbiknlaa.S
