/- Printed by a program of this session's own (gen.py): Lean functions for Go functions, and the proofs that the Go code comes to their answers. -/
import Derived.Test.YtkmdfaodbiknlaaG2xa
set_option linter.unusedVariables false
set_option linter.unusedSimpArgs false
set_option maxRecDepth 20000
namespace Go.Proofs.Ytkmdfaodbiknlaa.S
open Go Go.Sm
attribute [local irreducible] T TL OpR CallT iter loop
noncomputable def ref09_Same.l1 (a0 : List Int) (a1 : List Int) (s4 : Int) : Option (Lp Int (Ex Unit Bool)) :=
  if s4 < (a0.length : Int) then
    bnd (idx a0 s4) fun x14 =>
    bnd (idx a1 s4) fun x15 =>
    if x14 = x15 then
      some (Lp.next (w64 (s4 + 1)))
    else
      some (Lp.done (Ex.ret false))
  else
    some (Lp.done (Ex.brk ()))
noncomputable def ref09_Same (a0 : List Int) (a1 : List Int) : Option Bool :=
  if (a0.length : Int) = (a1.length : Int) then
    bnd (loop (ref09_Same.l1 a0 a1) 0 : Option (Ex Unit Bool)) fun t2 => match t2 with
      | .brk u3 =>
        some true
      | .ret u3 => some u3
  else
    some false
set_option maxHeartbeats 4000000 in
theorem ref09_Same_c {a0 : List Int} {a1 : List Int} {res : Bool} (h0 : ref09_Same a0 a1 = some res) : CallF X 15 [.sl 1 (List.map (eI .i64) a0), .sl 1 (List.map (eI .i64) a1)] [] (fun x => .val (.bool res)) (fun x => []) := by
 unfold ref09_Same at h0
 refine CallF.mkG (X := X) rfl Try.func15 rfl rfl Try.ntmps15 rfl rfl ?_
 refine T.seq ?_
 refine T.region ?_
 refine TL.op1 (OpR.pure rfl) rfl ?_
 refine TL.nil ?_
 show T X _ _ _
 refine T.seq ?_
 refine T.seq ?_
 refine T.region ?_
 refine TL.op1 (OpR.pure rfl) rfl ?_
 refine TL.op1 (OpR.cast (OpR.pure rfl) (intE (lenM _ _))) rfl ?_
 refine TL.op1 (OpR.pure rfl) rfl ?_
 refine TL.op1 (OpR.cast (OpR.pure rfl) (intE (lenM _ _))) rfl ?_
 refine TL.op1 (OpR.pure rfl) rfl ?_
 refine TL.nil ?_
 show T X _ _ _
 rcases ite_some h0 with ⟨c1, h0⟩ | ⟨c1, h0⟩
 rotate_left
 · refine T.condT rfl (not_f (beq_eq_false_iff_ne.2 c1)) ?_
   refine T.seq ?_
   refine T.region ?_
   refine TL.op1 (OpR.pure rfl) rfl ?_
   refine TL.nil ?_
   show T X _ _ _
   refine T.ret ?_
   obtain rfl := Option.some.inj h0
   exact PostG.retP (ks := []) (Gst.only [4] rfl) undef (ResL.cons (ResV.tmp rfl) ResL.nil) rfl rfl rfl rfl
 refine T.condF rfl (not_t (beq_iff_eq.2 c1)) ?_
 refine T.skip ?_
 show T X _ _ _
 refine T.seq ?_
 refine T.seq ?_
 refine T.region ?_
 refine TL.op1 (OpR.pure rfl) rfl ?_
 refine TL.op1 (OpR.cast (OpR.pure rfl) (intE (lenM _ _))) rfl ?_
 refine TL.op1 (OpR.pure rfl) rfl ?_
 refine TL.nil ?_
 show T X _ _ _
 obtain ⟨t2, ht2, h0⟩ := bnd_some h0
 refine T.cutC (fun S' => ∃ u3, t2 = Ex.brk u3 ∧ S' = ⟨[(4, .val (.bool false))], [], 26⟩) (fun _ h => h) ?_ ?_
 rotate_left
 · rintro _ ⟨u3, rfl, rfl⟩
   show T X _ _ _
   refine T.seq ?_
   refine T.region ?_
   refine TL.op1 (OpR.pure rfl) rfl ?_
   refine TL.nil ?_
   show T X _ _ _
   refine T.ret ?_
   obtain rfl := Option.some.inj h0
   exact PostG.retP (ks := []) (Gst.only [4] rfl) undef (ResL.cons (ResV.tmp rfl) ResL.nil) rfl rfl rfl rfl
 refine T.block ?_
 obtain ⟨n5, n10⟩ := loop_some ht2
 refine T.loop (fun n S' => ∃ S'', Gst S' S'' ∧ ∃ s4 : Int, S'' = ⟨[(13, .val (.int .i64 s4)), (12, .val (.int .i64 (a0.length : Int))), (4, .val (.bool false)), (1, .sl 1 (List.map (eI .i64) a1)), (0, .sl 1 (List.map (eI .i64) a0))], [], 26⟩ ∧ iter (ref09_Same.l1 a0 a1) n s4 = some t2) n5 ?_ ?_
 · exact ⟨_, Gst.only [0, 1, 4, 12, 13] rfl, 0, rfl, n10⟩
 rintro n5 _ ⟨_, g, s4, rfl, i9⟩
 refine T.ghost g ?_
 obtain ⟨m6, q7, rfl, q8, i9⟩ := iter_succ i9
 unfold ref09_Same.l1 at q8
 refine T.seq ?_
 refine T.region ?_
 refine TL.op1 (OpR.pure rfl) rfl ?_
 refine TL.nil ?_
 show T X _ _ _
 refine T.seq ?_
 rcases ite_some q8 with ⟨c12, q8⟩ | ⟨c12, q8⟩
 rotate_left
 · refine T.condF rfl (decide_eq_false c12) ?_
   refine T.exit ?_
   obtain rfl := Option.some.inj q8
   obtain rfl : _ = _ := i9
   exact ⟨_, Gst.only [4] rfl, _, rfl, rfl⟩
 refine T.condT rfl (decide_eq_true c12) ?_
 refine T.skip ?_
 show T X _ _ _
 refine T.seq ?_
 refine T.block ?_
 refine T.seq ?_
 refine T.region ?_
 refine TL.op1 (OpR.pure rfl) rfl ?_
 refine TL.op1 (OpR.pure rfl) rfl ?_
 refine TL.nil ?_
 show T X _ _ _
 refine T.seq ?_
 obtain ⟨x14, hx14, q8⟩ := bnd_some q8
 obtain ⟨x15, hx15, q8⟩ := bnd_some q8
 refine T.drawQ drawsX [.sl 1 (List.map (eI .i64) a0), .val (.int .i64 s4), .nod [.val (.int .i64 x14)], .val (.int .i64 x14), .sl 1 (List.map (eI .i64) a1), .val (.int .i64 s4), .nod [.val (.int .i64 x15)], .val (.int .i64 x15), .val (.bool (!(x14 == x15)))] [0, 1, 4, 5, 12, 13, 14, 15, 16, 17, 18, 19, 20, 21, 22, 23, 24] (by decide +kernel) rfl ?_ rfl ?_
 · refine OpsQ.yes (Want.plain rfl) rfl (OpR.pure rfl) ?_
   refine OpsQ.yes (Want.plain rfl) rfl (OpR.pure rfl) ?_
   refine OpsQ.yes (Want.plain rfl) rfl (OpR.indexM (eI .i64) hx14 rfl rfl rfl rfl rfl) ?_
   refine OpsQ.yes (Want.plain rfl) rfl (OpR.pure rfl) ?_
   refine OpsQ.yes (Want.plain rfl) rfl (OpR.pure rfl) ?_
   refine OpsQ.yes (Want.plain rfl) rfl (OpR.pure rfl) ?_
   refine OpsQ.yes (Want.plain rfl) rfl (OpR.indexM (eI .i64) hx15 rfl rfl rfl rfl rfl) ?_
   refine OpsQ.yes (Want.plain rfl) rfl (OpR.pure rfl) ?_
   refine OpsQ.yes (Want.plain rfl) rfl (OpR.pure rfl) ?_
   exact OpsQ.nil
 show T X _ _ _
 rcases ite_some q8 with ⟨c16, q8⟩ | ⟨c16, q8⟩
 · refine T.condF rfl (not_t (beq_iff_eq.2 c16)) ?_
   refine T.skip ?_
   show T X _ _ _
   refine T.region ?_
   refine TL.op1 (OpR.pure rfl) rfl ?_
   refine TL.op1 (OpR.pure rfl) rfl ?_
   refine TL.nil ?_
   obtain rfl := Option.some.inj q8
   exact ⟨m6, Nat.lt_succ_self _, _, Gst.only [0, 1, 4, 12, 13] rfl, w64 (s4 + 1), rfl, i9⟩
 refine T.condT rfl (not_f (beq_eq_false_iff_ne.2 c16)) ?_
 refine T.seq ?_
 refine T.region ?_
 refine TL.op1 (OpR.pure rfl) rfl ?_
 refine TL.nil ?_
 show T X _ _ _
 refine T.ret ?_
 obtain rfl := Option.some.inj q8
 obtain rfl : _ = _ := i9
 obtain rfl := Option.some.inj h0
 exact PostG.retP (ks := []) (Gst.only [4] rfl) undef (ResL.cons (ResV.tmp rfl) ResL.nil) rfl rfl rfl rfl
noncomputable def tree_glue_int (a0 : List NP) (a1 : List Int) (a2 : Int) (a3 : List NP) (a4 : List Int) (a5 : Int) : Option (List NP) :=
  bnd (bnd (tree_Node_int_flat a0 a1 a2) fun x2 =>
  if x2 = true then
    bnd (tree_Node_int_flat a3 a4 a5) fun x4 =>
    some x4
  else
    some false : Option Bool) fun t1 =>
  if t1 = true then
    bnd (slices_Concat_int_int [a1, a4]) fun x7 =>
    bnd (tree_leaves_int x7) fun x8 =>
    some x8
  else
    bnd (slices_Concat_tree_Node_int_tree_Node_int [a0, a3]) fun x10 =>
    bnd (tree_inners_int x10) fun x11 =>
    some x11
set_option maxHeartbeats 4000000 in
theorem tree_glue_int_c {a0 : List NP} {a1 : List Int} {a2 : Int} {a3 : List NP} {a4 : List Int} {a5 : Int} {res : (List NP)} (h0 : tree_glue_int a0 a1 a2 a3 a4 a5 = some res) : CallF X 93 [.nod [.sl 1 (List.map eNP a0), .sl 1 (List.map (eI .i64) a1), .val (.int .i64 a2)], .nod [.sl 1 (List.map eNP a3), .sl 1 (List.map (eI .i64) a4), .val (.int .i64 a5)]] [] (fun x => .sl 1 (List.map eNP res)) (fun x => []) := by
 unfold tree_glue_int at h0
 refine CallF.mkG (X := X) rfl Try.func93 rfl rfl Try.ntmps93 rfl rfl ?_
 refine T.seq ?_
 refine T.region ?_
 refine TL.op1 (OpR.pure rfl) rfl ?_
 refine TL.nil ?_
 show T X _ _ _
 refine T.seq ?_
 refine T.seq ?_
 obtain ⟨t1, ht1, h0⟩ := bnd_some h0
 refine T.cutC (fun S' => S' = ⟨[(10, .val (.bool t1)), (4, .val (.slice none 0 0)), (1, .nod [.sl 1 (List.map eNP a3), .sl 1 (List.map (eI .i64) a4), .val (.int .i64 a5)]), (0, .nod [.sl 1 (List.map eNP a0), .sl 1 (List.map (eI .i64) a1), .val (.int .i64 a2)])], [], 33⟩) (fun _ h => h) ?_ ?_
 · refine T.region ?_
   refine TL.op1 (OpR.pure rfl) rfl ?_
   obtain ⟨x2, hx2, ht1⟩ := bnd_some ht1
   refine TL.op1 (OpR.call0 fn82 (tree_Node_int_flat_c hx2) rfl) rfl ?_
   refine TL.op1 (OpR.pure rfl) rfl ?_
   rcases ite_some ht1 with ⟨c3, ht1⟩ | ⟨c3, ht1⟩
   rotate_left
   · refine TL.off rfl rfl rfl rfl (eq_false_of_ne_true c3) rfl rfl ?_
     refine TL.off rfl rfl rfl rfl (eq_false_of_ne_true c3) rfl rfl ?_
     refine TL.op1 (OpR.pickF rfl (eq_false_of_ne_true c3) rfl) rfl ?_
     refine TL.nil ?_
     obtain rfl := Option.some.inj ht1
     exact ⟨_, Gst.only [0, 1, 4, 10] rfl, rfl⟩
   refine TL.on rfl rfl rfl rfl (c3) ?_
   refine TL.op1 (OpR.pure rfl) rfl ?_
   refine TL.on rfl rfl rfl rfl (c3) ?_
   obtain ⟨x4, hx4, ht1⟩ := bnd_some ht1
   refine TL.op1 (OpR.call0 fn82 (tree_Node_int_flat_c hx4) rfl) rfl ?_
   refine TL.op1 (OpR.pickT rfl (c3) rfl) rfl ?_
   refine TL.nil ?_
   obtain rfl := Option.some.inj ht1
   exact ⟨_, Gst.only [0, 1, 4, 10] rfl, rfl⟩
 rintro _ rfl
 show T X _ _ _
 rcases ite_some h0 with ⟨c5, h0⟩ | ⟨c5, h0⟩
 · refine T.condT rfl (c5) ?_
   refine T.seq ?_
   obtain ⟨x7, hx7, h0⟩ := bnd_some h0
   obtain ⟨x8, hx8, h0⟩ := bnd_some h0
   refine T.drawQ drawsX [.nod [.sl 1 (List.map eNP a0), .sl 1 (List.map (eI .i64) a1), .val (.int .i64 a2)], .nod [.sl 1 (List.map eNP a0), .sl 1 (List.map (eI .i64) a1), .val (.int .i64 a2)], .nod [.sl 1 (List.map (eI .i64) a1), .val (.int .i64 a2)], .sl 1 (List.map (eI .i64) a1), .nod [.sl 1 (List.map eNP a3), .sl 1 (List.map (eI .i64) a4), .val (.int .i64 a5)], .nod [.sl 1 (List.map eNP a3), .sl 1 (List.map (eI .i64) a4), .val (.int .i64 a5)], .nod [.sl 1 (List.map (eI .i64) a4), .val (.int .i64 a5)], .sl 1 (List.map (eI .i64) a4), .sl 1 (List.map e_sl22 [a1, a4]), .sl 1 (List.map (eI .i64) x7), .sl 1 (List.map eNP x8), .sl 1 (List.map eNP x8)] [0, 1, 4, 10, 11, 12, 13, 14, 15, 16, 17, 18, 19, 20, 21] (by decide +kernel) rfl ?_ rfl ?_
   rotate_left
   · show T X _ _ _
     refine T.ret ?_
     obtain rfl := Option.some.inj h0
     exact PostG.retP (ks := []) (Gst.only [4] rfl) undef (ResL.cons (ResV.tmp rfl) ResL.nil) rfl rfl rfl rfl
   refine OpsQ.yes (Want.plain rfl) rfl (OpR.pure rfl) ?_
   refine OpsQ.yes (Want.plain rfl) rfl (OpR.pure rfl) ?_
   refine OpsQ.yes (Want.plain rfl) rfl (OpR.pure rfl) ?_
   refine OpsQ.yes (Want.plain rfl) rfl (OpR.pure rfl) ?_
   refine OpsQ.yes (Want.plain rfl) rfl (OpR.pure rfl) ?_
   refine OpsQ.yes (Want.plain rfl) rfl (OpR.pure rfl) ?_
   refine OpsQ.yes (Want.plain rfl) rfl (OpR.pure rfl) ?_
   refine OpsQ.yes (Want.plain rfl) rfl (OpR.pure rfl) ?_
   refine OpsQ.yes (Want.plain rfl) rfl (OpR.lit rfl rfl rfl rfl rfl rfl rfl) ?_
   refine OpsQ.yes (Want.plain rfl) rfl (OpR.call0 fn103 (slices_Concat_int_int_c hx7) rfl) ?_
   refine OpsQ.yes (Want.plain rfl) rfl (OpR.call0 fn44 (tree_leaves_int_c hx8) rfl) ?_
   refine OpsQ.yes (Want.plain rfl) rfl (OpR.pure rfl) ?_
   exact OpsQ.nil
 refine T.condF rfl (eq_false_of_ne_true c5) ?_
 refine T.skip ?_
 show T X _ _ _
 refine T.seq ?_
 obtain ⟨x10, hx10, h0⟩ := bnd_some h0
 obtain ⟨x11, hx11, h0⟩ := bnd_some h0
 refine T.drawQ drawsX [.nod [.sl 1 (List.map eNP a0), .sl 1 (List.map (eI .i64) a1), .val (.int .i64 a2)], .nod [.sl 1 (List.map eNP a0), .sl 1 (List.map (eI .i64) a1), .val (.int .i64 a2)], .nod [.sl 1 (List.map eNP a0), .sl 1 (List.map (eI .i64) a1), .val (.int .i64 a2)], .sl 1 (List.map eNP a0), .nod [.sl 1 (List.map eNP a3), .sl 1 (List.map (eI .i64) a4), .val (.int .i64 a5)], .nod [.sl 1 (List.map eNP a3), .sl 1 (List.map (eI .i64) a4), .val (.int .i64 a5)], .nod [.sl 1 (List.map eNP a3), .sl 1 (List.map (eI .i64) a4), .val (.int .i64 a5)], .sl 1 (List.map eNP a3), .sl 1 (List.map e_sl80 [a0, a3]), .sl 1 (List.map eNP x10), .sl 1 (List.map eNP x11), .sl 1 (List.map eNP x11)] [0, 1, 4, 10, 22, 23, 24, 25, 26, 27, 28, 29, 30, 31, 32] (by decide +kernel) rfl ?_ rfl ?_
 rotate_left
 · show T X _ _ _
   refine T.ret ?_
   obtain rfl := Option.some.inj h0
   exact PostG.retP (ks := []) (Gst.only [4] rfl) undef (ResL.cons (ResV.tmp rfl) ResL.nil) rfl rfl rfl rfl
 refine OpsQ.yes (Want.plain rfl) rfl (OpR.pure rfl) ?_
 refine OpsQ.yes (Want.plain rfl) rfl (OpR.pure rfl) ?_
 refine OpsQ.yes (Want.plain rfl) rfl (OpR.pure rfl) ?_
 refine OpsQ.yes (Want.plain rfl) rfl (OpR.pure rfl) ?_
 refine OpsQ.yes (Want.plain rfl) rfl (OpR.pure rfl) ?_
 refine OpsQ.yes (Want.plain rfl) rfl (OpR.pure rfl) ?_
 refine OpsQ.yes (Want.plain rfl) rfl (OpR.pure rfl) ?_
 refine OpsQ.yes (Want.plain rfl) rfl (OpR.pure rfl) ?_
 refine OpsQ.yes (Want.plain rfl) rfl (OpR.lit rfl rfl rfl rfl rfl rfl rfl) ?_
 refine OpsQ.yes (Want.plain rfl) rfl (OpR.call0 fn102 (slices_Concat_tree_Node_int_tree_Node_int_c hx10) rfl) ?_
 refine OpsQ.yes (Want.plain rfl) rfl (OpR.call0 fn74 (tree_inners_int_c hx11) rfl) ?_
 refine OpsQ.yes (Want.plain rfl) rfl (OpR.pure rfl) ?_
 exact OpsQ.nil
end Go.Proofs.Ytkmdfaodbiknlaa.S
