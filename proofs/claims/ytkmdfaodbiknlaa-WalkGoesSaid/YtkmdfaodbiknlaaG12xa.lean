/- Printed by a program of this session's own (gen.py): Lean functions for Go functions, and the proofs that the Go code comes to their answers. -/
import Derived.Test.YtkmdfaodbiknlaaG4xa
import Derived.Test.YtkmdfaodbiknlaaG2xa
import Derived.Test.YtkmdfaodbiknlaaG3xa
set_option linter.unusedVariables false
set_option linter.unusedSimpArgs false
set_option maxRecDepth 20000
namespace Go.Proofs.Ytkmdfaodbiknlaa.S
open Go Go.Sm
attribute [local irreducible] T TL OpR CallT iter loop
set_option maxHeartbeats 4000000 in
theorem ref09_Same_c_2 {a0 : List Int} {a1 : List Int} {v0 : Value} {res : Bool} (h0 : ref09_Same a0 a1 = some res) : CallF X 15 [.sl 1 (List.map (eI .i64) a0), .val v0] [.row v0 (List.map (eI .i64) a1) 1 3] (fun x => .val (.bool res)) (fun x => [.row v0 (List.map (eI .i64) a1) 1 3]) := by
 unfold ref09_Same at h0
 refine CallF.mkG (X := X) rfl Try.func15 rfl rfl Try.ntmps15 rfl rfl ?_
 refine T.seq ?_
 refine T.region ?_
 refine TL.op1 (OpR.pure rfl) rfl ?_
 refine TL.nil ?_
 show T X _ _ _
 refine T.seq ?_
 refine T.seq ?_
 refine T.region ?_
 refine TL.op1 (OpR.pure rfl) rfl ?_
 refine TL.op1 (OpR.cast (OpR.pure rfl) (intE (lenM _ _))) rfl ?_
 refine TL.op1 (OpR.pure rfl) rfl ?_
 refine TL.op1 (OpR.rowLenM (eI .i64) 0 rfl rfl rfl rfl) rfl ?_
 refine TL.op1 (OpR.pure rfl) rfl ?_
 refine TL.nil ?_
 show T X _ _ _
 rcases ite_some h0 with ⟨c1, h0⟩ | ⟨c1, h0⟩
 rotate_left
 · refine T.condT rfl (not_f (beq_eq_false_iff_ne.2 c1)) ?_
   refine T.seq ?_
   refine T.region ?_
   refine TL.op1 (OpR.pure rfl) rfl ?_
   refine TL.nil ?_
   show T X _ _ _
   refine T.ret ?_
   obtain rfl := Option.some.inj h0
   exact PostG.retP (ks := [0]) (Gst.only [4] rfl) undef (ResL.cons (ResV.tmp rfl) ResL.nil) rfl rfl rfl rfl
 refine T.condF rfl (not_t (beq_iff_eq.2 c1)) ?_
 refine T.skip ?_
 show T X _ _ _
 refine T.seq ?_
 refine T.seq ?_
 refine T.region ?_
 refine TL.op1 (OpR.pure rfl) rfl ?_
 refine TL.op1 (OpR.cast (OpR.pure rfl) (intE (lenM _ _))) rfl ?_
 refine TL.op1 (OpR.pure rfl) rfl ?_
 refine TL.nil ?_
 show T X _ _ _
 obtain ⟨t2, ht2, h0⟩ := bnd_some h0
 refine T.cutC (fun S' => ∃ u3, t2 = Ex.brk u3 ∧ S' = ⟨[(4, .val (.bool false))], [.row v0 (List.map (eI .i64) a1) 1 3], 26⟩) (fun _ h => h) ?_ ?_
 rotate_left
 · rintro _ ⟨u3, rfl, rfl⟩
   show T X _ _ _
   refine T.seq ?_
   refine T.region ?_
   refine TL.op1 (OpR.pure rfl) rfl ?_
   refine TL.nil ?_
   show T X _ _ _
   refine T.ret ?_
   obtain rfl := Option.some.inj h0
   exact PostG.retP (ks := [0]) (Gst.only [4] rfl) undef (ResL.cons (ResV.tmp rfl) ResL.nil) rfl rfl rfl rfl
 refine T.block ?_
 obtain ⟨n5, n10⟩ := loop_some ht2
 refine T.loop (fun n S' => ∃ S'', Gst S' S'' ∧ ∃ s4 : Int, S'' = ⟨[(13, .val (.int .i64 s4)), (12, .val (.int .i64 (a0.length : Int))), (4, .val (.bool false)), (1, .val v0), (0, .sl 1 (List.map (eI .i64) a0))], [.row v0 (List.map (eI .i64) a1) 1 3], 26⟩ ∧ iter (ref09_Same.l1 a0 a1) n s4 = some t2) n5 ?_ ?_
 · exact ⟨_, Gst.only [0, 1, 4, 12, 13] rfl, 0, rfl, n10⟩
 rintro n5 _ ⟨_, g, s4, rfl, i9⟩
 refine T.ghost g ?_
 obtain ⟨m6, q7, rfl, q8, i9⟩ := iter_succ i9
 unfold ref09_Same.l1 at q8
 refine T.seq ?_
 refine T.region ?_
 refine TL.op1 (OpR.pure rfl) rfl ?_
 refine TL.nil ?_
 show T X _ _ _
 refine T.seq ?_
 rcases ite_some q8 with ⟨c12, q8⟩ | ⟨c12, q8⟩
 rotate_left
 · refine T.condF rfl (decide_eq_false c12) ?_
   refine T.exit ?_
   obtain rfl := Option.some.inj q8
   obtain rfl : _ = _ := i9
   exact ⟨_, Gst.only [4] rfl, _, rfl, rfl⟩
 refine T.condT rfl (decide_eq_true c12) ?_
 refine T.skip ?_
 show T X _ _ _
 refine T.seq ?_
 refine T.block ?_
 refine T.seq ?_
 refine T.region ?_
 refine TL.op1 (OpR.pure rfl) rfl ?_
 refine TL.op1 (OpR.pure rfl) rfl ?_
 refine TL.nil ?_
 show T X _ _ _
 refine T.seq ?_
 obtain ⟨x14, hx14, q8⟩ := bnd_some q8
 obtain ⟨x15, hx15, q8⟩ := bnd_some q8
 refine T.drawQ drawsX [.sl 1 (List.map (eI .i64) a0), .val (.int .i64 s4), .nod [.val (.int .i64 x14)], .val (.int .i64 x14), .val v0, .val (.int .i64 s4), .val (.pointer (some ⟨blk v0, s4.toNat * 1, none⟩)), .val (.int .i64 x15), .val (.bool (!(x14 == x15)))] [0, 1, 4, 5, 12, 13, 14, 15, 16, 17, 18, 19, 20, 21, 22, 23, 24] (by decide +kernel) rfl ?_ rfl ?_
 · refine OpsQ.yes (Want.plain rfl) rfl (OpR.pure rfl) ?_
   refine OpsQ.yes (Want.plain rfl) rfl (OpR.pure rfl) ?_
   refine OpsQ.yes (Want.plain rfl) rfl (OpR.indexM (eI .i64) hx14 rfl rfl rfl rfl rfl) ?_
   refine OpsQ.yes (Want.plain rfl) rfl (OpR.pure rfl) ?_
   refine OpsQ.yes (Want.plain rfl) rfl (OpR.pure rfl) ?_
   refine OpsQ.yes (Want.plain rfl) rfl (OpR.pure rfl) ?_
   refine OpsQ.yes (Want.plain rfl) rfl (OpR.rowIndexM (eI .i64) 0 hx15 rfl rfl rfl rfl rfl rfl rfl) ?_
   refine OpsQ.yes (Want.plain rfl) rfl (OpR.rowLoad0M (j := s4) (eI .i64) 0 hx15 rfl rfl rfl rfl) ?_
   refine OpsQ.yes (Want.plain rfl) rfl (OpR.pure rfl) ?_
   exact OpsQ.nil
 show T X _ _ _
 rcases ite_some q8 with ⟨c16, q8⟩ | ⟨c16, q8⟩
 · refine T.condF rfl (not_t (beq_iff_eq.2 c16)) ?_
   refine T.skip ?_
   show T X _ _ _
   refine T.region ?_
   refine TL.op1 (OpR.pure rfl) rfl ?_
   refine TL.op1 (OpR.pure rfl) rfl ?_
   refine TL.nil ?_
   obtain rfl := Option.some.inj q8
   exact ⟨m6, Nat.lt_succ_self _, _, Gst.only [0, 1, 4, 12, 13] rfl, w64 (s4 + 1), rfl, i9⟩
 refine T.condT rfl (not_f (beq_eq_false_iff_ne.2 c16)) ?_
 refine T.seq ?_
 refine T.region ?_
 refine TL.op1 (OpR.pure rfl) rfl ?_
 refine TL.nil ?_
 show T X _ _ _
 refine T.ret ?_
 obtain rfl := Option.some.inj q8
 obtain rfl : _ = _ := i9
 obtain rfl := Option.some.inj h0
 exact PostG.retP (ks := [0]) (Gst.only [4] rfl) undef (ResL.cons (ResV.tmp rfl) ResL.nil) rfl rfl rfl rfl
set_option maxHeartbeats 4000000 in
theorem law09_Fits_c_2 {a0 : tree_Tree_int} {a1 : List Int} {v0 : Value} {res : Bool} (h0 : law09_Fits a0 a1 = some res) : CallF X 13 [.agg [(eOP a0.fRoot)], .val v0] [.row v0 (List.map (eI .i64) a1) 1 3] (fun x => .val (.bool res)) (fun x => [.row v0 (List.map (eI .i64) a1) 1 3]) := by
 unfold law09_Fits at h0
 refine CallF.mkG (X := X) rfl Try.func13 rfl rfl Try.ntmps13 rfl rfl ?_
 refine T.seq ?_
 refine T.region ?_
 refine TL.op1 (OpR.boxImm rfl rfl) rfl ?_
 refine TL.op1 (OpR.pure rfl) rfl ?_
 refine TL.nil ?_
 show T X _ _ _
 refine T.seq ?_
 refine T.seq ?_
 refine T.region ?_
 refine TL.op1 (OpR.pure rfl) rfl ?_
 obtain ⟨x1, hx1, h0⟩ := bnd_some h0
 refine TL.op1 (OpR.call0 fn45 (tree_Tree_int_Len_c hx1) rfl) rfl ?_
 refine TL.op1 (OpR.pure rfl) rfl ?_
 refine TL.op1 (OpR.rowLenM (eI .i64) 0 rfl rfl rfl rfl) rfl ?_
 refine TL.op1 (OpR.pure rfl) rfl ?_
 refine TL.nil ?_
 show T X _ _ _
 rcases ite_some h0 with ⟨c2, h0⟩ | ⟨c2, h0⟩
 rotate_left
 · refine T.condT rfl (not_f (beq_eq_false_iff_ne.2 c2)) ?_
   refine T.seq ?_
   refine T.region ?_
   refine TL.op1 (OpR.pure rfl) rfl ?_
   refine TL.nil ?_
   show T X _ _ _
   refine T.ret ?_
   obtain rfl := Option.some.inj h0
   exact PostG.retP (ks := [0]) (Gst.only [4] rfl) undef (ResL.cons (ResV.tmp rfl) ResL.nil) rfl rfl rfl rfl
 refine T.condF rfl (not_t (beq_iff_eq.2 c2)) ?_
 refine T.skip ?_
 show T X _ _ _
 refine T.seq ?_
 refine T.seq ?_
 refine T.region ?_
 refine TL.op1 (OpR.pure rfl) rfl ?_
 refine TL.op1 (OpR.rowLenM (eI .i64) 0 rfl rfl rfl rfl) rfl ?_
 refine TL.op1 (OpR.pure rfl) rfl ?_
 refine TL.nil ?_
 show T X _ _ _
 rcases ite_some h0 with ⟨c3, h0⟩ | ⟨c3, h0⟩
 · refine T.condT rfl (beq_iff_eq.2 c3) ?_
   refine T.seq ?_
   obtain ⟨t4, ht4, h0⟩ := bnd_some h0
   refine T.cutC (fun S' => S' = ⟨[(4, .val (.bool t4)), (2, .nod [(eOP a0.fRoot)]), (1, .val v0)], [.row v0 (List.map (eI .i64) a1) 1 3], 58⟩) (fun _ h => h) ?_ ?_
   rotate_left
   · rintro _ rfl
     show T X _ _ _
     refine T.ret ?_
     obtain rfl := Option.some.inj h0
     exact PostG.retP (ks := [0]) (Gst.only [4] rfl) undef (ResL.cons (ResV.tmp rfl) ResL.nil) rfl rfl rfl rfl
   refine T.region ?_
   refine TL.op1 (OpR.pure rfl) rfl ?_
   obtain ⟨x5, hx5, ht4⟩ := bnd_some ht4
   rcases x5 with x5 | x5
   rotate_left
   · dsimp only at ht4
     refine TL.op1 (OpR.call0 fn46 (tree_Tree_int_Root_cx2 hx5) rfl) rfl ?_
     refine TL.op1 (OpR.nodNil rfl rfl rfl) rfl ?_
     refine TL.op1 (OpR.pure rfl) rfl ?_
     refine TL.off rfl rfl rfl rfl rfl rfl rfl ?_
     refine TL.off rfl rfl rfl rfl rfl rfl rfl ?_
     refine TL.off rfl rfl rfl rfl rfl rfl rfl ?_
     refine TL.op1 (OpR.pickF rfl rfl rfl) rfl ?_
     refine TL.op1 (OpR.pure rfl) rfl ?_
     refine TL.nil ?_
     obtain rfl := Option.some.inj ht4
     exact ⟨_, Gst.only [1, 2, 4] rfl, rfl⟩
   dsimp only at ht4
   refine TL.op1 (OpR.call0 fn46 (tree_Tree_int_Root_cx1 hx5) rfl) rfl ?_
   refine TL.op1 (OpR.ptrNil rfl rfl rfl) rfl ?_
   refine TL.op1 (OpR.pure rfl) rfl ?_
   refine TL.on rfl rfl rfl rfl rfl ?_
   refine TL.op1 (OpR.pure rfl) rfl ?_
   refine TL.on rfl rfl rfl rfl rfl ?_
   obtain ⟨x6, hx6, ht4⟩ := bnd_some ht4
   refine TL.op1 (OpR.call0 fn47 (tree_Tree_int_Height_c hx6) rfl) rfl ?_
   refine TL.on rfl rfl rfl rfl rfl ?_
   refine TL.op1 (OpR.pure rfl) rfl ?_
   refine TL.op1 (OpR.pickT rfl rfl rfl) rfl ?_
   refine TL.op1 (OpR.pure rfl) rfl ?_
   refine TL.nil ?_
   obtain rfl := Option.some.inj ht4
   exact ⟨_, Gst.only [1, 2, 4] rfl, rfl⟩
 refine T.condF rfl (beq_eq_false_iff_ne.2 c3) ?_
 refine T.skip ?_
 show T X _ _ _
 refine T.seq ?_
 obtain ⟨x8, hx8, h0⟩ := bnd_some h0
 rcases x8 with x8 | x8
 · dsimp only at h0
   obtain ⟨x9, hx9, h0⟩ := bnd_some h0
   obtain ⟨x10, hx10, h0⟩ := bnd_some h0
   refine T.drawQ drawsX [.agg [(eOP a0.fRoot)], .val (.pointer none), .agg [(eOP a0.fRoot)], .val (.int .i64 x9), .tup [.sl 1 (List.map (eI .i64) x10.1), .val (.bool x10.2)], .tup [.sl 1 (List.map (eI .i64) x10.1), .val (.bool x10.2)], .sl 1 (List.map (eI .i64) x10.1), .val (.bool x10.2), .sl 1 (List.map (eI .i64) x10.1), .val (.bool x10.2)] [0, 1, 2, 4, 5, 6, 9, 10, 11, 12, 13, 14, 15, 16, 25, 26, 27, 28, 29, 30, 31, 32] (by decide +kernel) rfl ?_ rfl ?_
   · refine OpsQ.yes (Want.plain rfl) rfl (OpR.pure rfl) ?_
     refine OpsQ.yes (Want.plain rfl) rfl (OpR.call0 fn46 (tree_Tree_int_Root_cx1 hx8) rfl) ?_
     refine OpsQ.yes (Want.plain rfl) rfl (OpR.pure rfl) ?_
     refine OpsQ.yes (Want.plain rfl) rfl (OpR.call0 fn47 (tree_Tree_int_Height_c hx9) rfl) ?_
     refine OpsQ.yes (Want.plain rfl) rfl (OpR.call0 fn48 (law09_fits_nil_c hx10) rfl) ?_
     refine OpsQ.yes (Want.plain rfl) rfl (OpR.pure rfl) ?_
     refine OpsQ.yes (Want.plain rfl) rfl (OpR.pure rfl) ?_
     refine OpsQ.yes (Want.plain rfl) rfl (OpR.pure rfl) ?_
     refine OpsQ.yes (Want.plain rfl) rfl (OpR.pure rfl) ?_
     refine OpsQ.yes (Want.plain rfl) rfl (OpR.pure rfl) ?_
     exact OpsQ.nil
   show T X _ _ _
   refine T.seq ?_
   refine T.region ?_
   refine TL.op1 (OpR.pure rfl) rfl ?_
   refine TL.nil ?_
   show T X _ _ _
   refine T.seq ?_
   refine T.seq ?_
   refine T.region ?_
   refine TL.op1 (OpR.pure rfl) rfl ?_
   refine TL.nil ?_
   show T X _ _ _
   obtain ⟨t11, ht11, h0⟩ := bnd_some h0
   refine T.cutC (fun S' => S' = ⟨[(7, .val (.int .i64 t11)), (6, .val (.bool x10.2)), (5, .sl 1 (List.map (eI .i64) x10.1)), (4, .val (.bool false)), (2, .nod [(eOP a0.fRoot)]), (1, .val v0)], [.row v0 (List.map (eI .i64) a1) 1 3], 58⟩) (fun _ h => h) ?_ ?_
   · refine T.block ?_
     obtain ⟨n13, n18⟩ := loop_some ht11
     refine T.loop (fun n S' => ∃ S'', Gst S' S'' ∧ ∃ s12 : Int × Int, S'' = ⟨[(8, .val (.int .i64 s12.2)), (7, .val (.int .i64 s12.1)), (6, .val (.bool x10.2)), (5, .sl 1 (List.map (eI .i64) x10.1)), (4, .val (.bool false)), (2, .nod [(eOP a0.fRoot)]), (1, .val v0)], [.row v0 (List.map (eI .i64) a1) 1 3], 58⟩ ∧ iter (law09_Fits.l1 a0) n s12 = some t11) n13 ?_ ?_
     · exact ⟨_, Gst.only [1, 2, 4, 5, 6, 7, 8] rfl, (2, 1), rfl, n18⟩
     rintro n13 _ ⟨_, g, s12, rfl, i17⟩
     refine T.ghost g ?_
     obtain ⟨m14, q15, rfl, q16, i17⟩ := iter_succ i17
     unfold law09_Fits.l1 at q16
     refine T.seq ?_
     refine T.seq ?_
     refine T.region ?_
     refine TL.op1 (OpR.pure rfl) rfl ?_
     refine TL.op1 (OpR.pure rfl) rfl ?_
     obtain ⟨x20, hx20, q16⟩ := bnd_some q16
     refine TL.op1 (OpR.call0 fn47 (tree_Tree_int_Height_c hx20) rfl) rfl ?_
     refine TL.op1 (OpR.pure rfl) rfl ?_
     refine TL.nil ?_
     show T X _ _ _
     rcases ite_some q16 with ⟨c21, q16⟩ | ⟨c21, q16⟩
     rotate_left
     · refine T.condF rfl (decide_eq_false c21) ?_
       refine T.exit ?_
       obtain rfl := Option.some.inj q16
       obtain rfl : _ = _ := i17
       exact ⟨_, Gst.only [1, 2, 4, 5, 6, 7] rfl, rfl⟩
     refine T.condT rfl (decide_eq_true c21) ?_
     refine T.skip ?_
     show T X _ _ _
     refine T.seq ?_
     refine T.block ?_
     refine T.region ?_
     refine TL.op1 (OpR.pure rfl) rfl ?_
     refine TL.op1 (OpR.pure rfl) rfl ?_
     refine TL.op1 (OpR.pure rfl) rfl ?_
     refine TL.nil ?_
     show T X _ _ _
     refine T.region ?_
     refine TL.op1 (OpR.pure rfl) rfl ?_
     refine TL.op1 (OpR.pure rfl) rfl ?_
     refine TL.op1 (OpR.pure rfl) rfl ?_
     refine TL.nil ?_
     obtain rfl := Option.some.inj q16
     exact ⟨m14, Nat.lt_succ_self _, _, Gst.only [1, 2, 4, 5, 6, 7, 8] rfl, (w64 (s12.1 * 3), w64 (s12.2 + 1)), rfl, i17⟩
   rintro _ rfl
   show T X _ _ _
   refine T.seq ?_
   obtain ⟨t22, ht22, h0⟩ := bnd_some h0
   refine T.cutC (fun S' => S' = ⟨[(4, .val (.bool t22))], [.row v0 (List.map (eI .i64) a1) 1 3], 58⟩) (fun _ h => h) ?_ ?_
   rotate_left
   · rintro _ rfl
     show T X _ _ _
     refine T.ret ?_
     obtain rfl := Option.some.inj h0
     exact PostG.retP (ks := [0]) (Gst.only [4] rfl) undef (ResL.cons (ResV.tmp rfl) ResL.nil) rfl rfl rfl rfl
   refine T.region ?_
   refine TL.op1 (OpR.pure rfl) rfl ?_
   refine TL.op1 (OpR.pure rfl) rfl ?_
   rcases ite_some ht22 with ⟨c23, ht22⟩ | ⟨c23, ht22⟩
   rotate_left
   · refine TL.off rfl rfl rfl rfl (eq_false_of_ne_true c23) rfl rfl ?_
     refine TL.off rfl rfl rfl rfl (eq_false_of_ne_true c23) rfl rfl ?_
     refine TL.off rfl rfl rfl rfl (eq_false_of_ne_true c23) rfl rfl ?_
     refine TL.op1 (OpR.pickF rfl (eq_false_of_ne_true c23) rfl) rfl ?_
     refine TL.op1 (OpR.pure rfl) rfl ?_
     refine TL.off rfl rfl rfl rfl rfl rfl rfl ?_
     refine TL.off rfl rfl rfl rfl rfl rfl rfl ?_
     refine TL.off rfl rfl rfl rfl rfl rfl rfl ?_
     refine TL.off rfl rfl rfl rfl rfl rfl rfl ?_
     refine TL.offU rfl rfl rfl rfl rfl rfl ?_
     refine TL.offU rfl rfl rfl rfl rfl rfl ?_
     refine TL.offU rfl rfl rfl rfl rfl rfl ?_
     refine TL.offU rfl rfl rfl rfl rfl rfl ?_
     refine TL.off rfl rfl rfl rfl rfl rfl rfl ?_
     refine TL.op1 (OpR.pickF rfl rfl rfl) rfl ?_
     refine TL.op1 (OpR.pure rfl) rfl ?_
     refine TL.nil ?_
     obtain rfl := Option.some.inj ht22
     exact ⟨_, Gst.only [4] rfl, rfl⟩
   refine TL.on rfl rfl rfl rfl (c23) ?_
   refine TL.op1 (OpR.pure rfl) rfl ?_
   refine TL.on rfl rfl rfl rfl (c23) ?_
   refine TL.op1 (OpR.pure rfl) rfl ?_
   refine TL.on rfl rfl rfl rfl (c23) ?_
   obtain ⟨x24, hx24, ht22⟩ := bnd_some ht22
   refine TL.op1 (OpR.call [0] fn15 (ref09_Same_c_2 hx24) rfl rfl rfl (fun _ => rfl)) rfl ?_
   refine TL.op1 (OpR.pickT rfl (c23) rfl) rfl ?_
   refine TL.op1 (OpR.pure rfl) rfl ?_
   rcases ite_some ht22 with ⟨c25, ht22⟩ | ⟨c25, ht22⟩
   rotate_left
   · refine TL.off rfl rfl rfl rfl (eq_false_of_ne_true c25) rfl rfl ?_
     refine TL.off rfl rfl rfl rfl (eq_false_of_ne_true c25) rfl rfl ?_
     refine TL.off rfl rfl rfl rfl (eq_false_of_ne_true c25) rfl rfl ?_
     refine TL.off rfl rfl rfl rfl (eq_false_of_ne_true c25) rfl rfl ?_
     refine TL.offU rfl rfl rfl rfl rfl rfl ?_
     refine TL.offU rfl rfl rfl rfl rfl rfl ?_
     refine TL.offU rfl rfl rfl rfl rfl rfl ?_
     refine TL.offU rfl rfl rfl rfl rfl rfl ?_
     refine TL.off rfl rfl rfl rfl (eq_false_of_ne_true c25) rfl rfl ?_
     refine TL.op1 (OpR.pickF rfl (eq_false_of_ne_true c25) rfl) rfl ?_
     refine TL.op1 (OpR.pure rfl) rfl ?_
     refine TL.nil ?_
     obtain rfl := Option.some.inj ht22
     exact ⟨_, Gst.only [4] rfl, rfl⟩
   refine TL.on rfl rfl rfl rfl (c25) ?_
   refine TL.op1 (OpR.pure rfl) rfl ?_
   refine TL.on rfl rfl rfl rfl (c25) ?_
   obtain ⟨x26, hx26, ht22⟩ := bnd_some ht22
   refine TL.op1 (OpR.call0 fn47 (tree_Tree_int_Height_c hx26) rfl) rfl ?_
   refine TL.on rfl rfl rfl rfl (c25) ?_
   refine TL.op1 (OpR.pure rfl) rfl ?_
   refine TL.on rfl rfl rfl rfl (c25) ?_
   refine TL.op1 (OpR.pure rfl) rfl ?_
   rcases ite_some ht22 with ⟨c27, ht22⟩ | ⟨c27, ht22⟩
   · refine TL.off rfl rfl rfl rfl (beq_iff_eq.2 c27) rfl rfl ?_
     refine TL.off rfl rfl rfl rfl (beq_iff_eq.2 c27) rfl rfl ?_
     refine TL.off rfl rfl rfl rfl (beq_iff_eq.2 c27) rfl rfl ?_
     refine TL.off rfl rfl rfl rfl (beq_iff_eq.2 c27) rfl rfl ?_
     refine TL.on rfl rfl rfl rfl (c25) ?_
     refine TL.op1 (OpR.pickT rfl (beq_iff_eq.2 c27) rfl) rfl ?_
     refine TL.op1 (OpR.pickT rfl (c25) rfl) rfl ?_
     refine TL.op1 (OpR.pure rfl) rfl ?_
     refine TL.nil ?_
     obtain rfl := Option.some.inj ht22
     exact ⟨_, Gst.only [4] rfl, rfl⟩
   refine TL.on rfl rfl rfl rfl (beq_eq_false_iff_ne.2 c27) ?_
   refine TL.op1 (OpR.pure rfl) rfl ?_
   refine TL.on rfl rfl rfl rfl (beq_eq_false_iff_ne.2 c27) ?_
   refine TL.op1 (OpR.rowLenM (eI .i64) 0 rfl rfl rfl rfl) rfl ?_
   refine TL.on rfl rfl rfl rfl (beq_eq_false_iff_ne.2 c27) ?_
   refine TL.op1 (OpR.pure rfl) rfl ?_
   refine TL.on rfl rfl rfl rfl (beq_eq_false_iff_ne.2 c27) ?_
   refine TL.op1 (OpR.pure rfl) rfl ?_
   refine TL.on rfl rfl rfl rfl (c25) ?_
   refine TL.op1 (OpR.pickF rfl (beq_eq_false_iff_ne.2 c27) rfl) rfl ?_
   refine TL.op1 (OpR.pickT rfl (c25) rfl) rfl ?_
   refine TL.op1 (OpR.pure rfl) rfl ?_
   refine TL.nil ?_
   obtain rfl := Option.some.inj ht22
   exact ⟨_, Gst.only [4] rfl, rfl⟩
 dsimp only at h0
 obtain ⟨x28, hx28, h0⟩ := bnd_some h0
 obtain ⟨x29, hx29, h0⟩ := bnd_some h0
 refine T.drawQ drawsX [.agg [(eOP a0.fRoot)], .nod [.sl 1 (List.map eNP x8.1), .sl 1 (List.map (eI .i64) x8.2.1), .val (.int .i64 x8.2.2)], .agg [(eOP a0.fRoot)], .val (.int .i64 x28), .tup [.sl 1 (List.map (eI .i64) x29.1), .val (.bool x29.2)], .tup [.sl 1 (List.map (eI .i64) x29.1), .val (.bool x29.2)], .sl 1 (List.map (eI .i64) x29.1), .val (.bool x29.2), .sl 1 (List.map (eI .i64) x29.1), .val (.bool x29.2)] [0, 1, 2, 4, 5, 6, 9, 10, 11, 12, 13, 14, 15, 16, 25, 26, 27, 28, 29, 30, 31, 32] (by decide +kernel) rfl ?_ rfl ?_
 · refine OpsQ.yes (Want.plain rfl) rfl (OpR.pure rfl) ?_
   refine OpsQ.yes (Want.plain rfl) rfl (OpR.call0 fn46 (tree_Tree_int_Root_cx2 hx8) rfl) ?_
   refine OpsQ.yes (Want.plain rfl) rfl (OpR.pure rfl) ?_
   refine OpsQ.yes (Want.plain rfl) rfl (OpR.call0 fn47 (tree_Tree_int_Height_c hx28) rfl) ?_
   refine OpsQ.yes (Want.plain rfl) rfl (OpR.call0 fn48 (law09_fits_c hx29) rfl) ?_
   refine OpsQ.yes (Want.plain rfl) rfl (OpR.pure rfl) ?_
   refine OpsQ.yes (Want.plain rfl) rfl (OpR.pure rfl) ?_
   refine OpsQ.yes (Want.plain rfl) rfl (OpR.pure rfl) ?_
   refine OpsQ.yes (Want.plain rfl) rfl (OpR.pure rfl) ?_
   refine OpsQ.yes (Want.plain rfl) rfl (OpR.pure rfl) ?_
   exact OpsQ.nil
 show T X _ _ _
 refine T.seq ?_
 refine T.region ?_
 refine TL.op1 (OpR.pure rfl) rfl ?_
 refine TL.nil ?_
 show T X _ _ _
 refine T.seq ?_
 refine T.seq ?_
 refine T.region ?_
 refine TL.op1 (OpR.pure rfl) rfl ?_
 refine TL.nil ?_
 show T X _ _ _
 obtain ⟨t30, ht30, h0⟩ := bnd_some h0
 refine T.cutC (fun S' => S' = ⟨[(7, .val (.int .i64 t30)), (6, .val (.bool x29.2)), (5, .sl 1 (List.map (eI .i64) x29.1)), (4, .val (.bool false)), (2, .nod [(eOP a0.fRoot)]), (1, .val v0)], [.row v0 (List.map (eI .i64) a1) 1 3], 58⟩) (fun _ h => h) ?_ ?_
 · refine T.block ?_
   obtain ⟨n32, n37⟩ := loop_some ht30
   refine T.loop (fun n S' => ∃ S'', Gst S' S'' ∧ ∃ s31 : Int × Int, S'' = ⟨[(8, .val (.int .i64 s31.2)), (7, .val (.int .i64 s31.1)), (6, .val (.bool x29.2)), (5, .sl 1 (List.map (eI .i64) x29.1)), (4, .val (.bool false)), (2, .nod [(eOP a0.fRoot)]), (1, .val v0)], [.row v0 (List.map (eI .i64) a1) 1 3], 58⟩ ∧ iter (law09_Fits.l2 a0) n s31 = some t30) n32 ?_ ?_
   · exact ⟨_, Gst.only [1, 2, 4, 5, 6, 7, 8] rfl, (2, 1), rfl, n37⟩
   rintro n32 _ ⟨_, g, s31, rfl, i36⟩
   refine T.ghost g ?_
   obtain ⟨m33, q34, rfl, q35, i36⟩ := iter_succ i36
   unfold law09_Fits.l2 at q35
   refine T.seq ?_
   refine T.seq ?_
   refine T.region ?_
   refine TL.op1 (OpR.pure rfl) rfl ?_
   refine TL.op1 (OpR.pure rfl) rfl ?_
   obtain ⟨x39, hx39, q35⟩ := bnd_some q35
   refine TL.op1 (OpR.call0 fn47 (tree_Tree_int_Height_c hx39) rfl) rfl ?_
   refine TL.op1 (OpR.pure rfl) rfl ?_
   refine TL.nil ?_
   show T X _ _ _
   rcases ite_some q35 with ⟨c40, q35⟩ | ⟨c40, q35⟩
   rotate_left
   · refine T.condF rfl (decide_eq_false c40) ?_
     refine T.exit ?_
     obtain rfl := Option.some.inj q35
     obtain rfl : _ = _ := i36
     exact ⟨_, Gst.only [1, 2, 4, 5, 6, 7] rfl, rfl⟩
   refine T.condT rfl (decide_eq_true c40) ?_
   refine T.skip ?_
   show T X _ _ _
   refine T.seq ?_
   refine T.block ?_
   refine T.region ?_
   refine TL.op1 (OpR.pure rfl) rfl ?_
   refine TL.op1 (OpR.pure rfl) rfl ?_
   refine TL.op1 (OpR.pure rfl) rfl ?_
   refine TL.nil ?_
   show T X _ _ _
   refine T.region ?_
   refine TL.op1 (OpR.pure rfl) rfl ?_
   refine TL.op1 (OpR.pure rfl) rfl ?_
   refine TL.op1 (OpR.pure rfl) rfl ?_
   refine TL.nil ?_
   obtain rfl := Option.some.inj q35
   exact ⟨m33, Nat.lt_succ_self _, _, Gst.only [1, 2, 4, 5, 6, 7, 8] rfl, (w64 (s31.1 * 3), w64 (s31.2 + 1)), rfl, i36⟩
 rintro _ rfl
 show T X _ _ _
 refine T.seq ?_
 obtain ⟨t41, ht41, h0⟩ := bnd_some h0
 refine T.cutC (fun S' => S' = ⟨[(4, .val (.bool t41))], [.row v0 (List.map (eI .i64) a1) 1 3], 58⟩) (fun _ h => h) ?_ ?_
 rotate_left
 · rintro _ rfl
   show T X _ _ _
   refine T.ret ?_
   obtain rfl := Option.some.inj h0
   exact PostG.retP (ks := [0]) (Gst.only [4] rfl) undef (ResL.cons (ResV.tmp rfl) ResL.nil) rfl rfl rfl rfl
 refine T.region ?_
 refine TL.op1 (OpR.pure rfl) rfl ?_
 refine TL.op1 (OpR.pure rfl) rfl ?_
 rcases ite_some ht41 with ⟨c42, ht41⟩ | ⟨c42, ht41⟩
 rotate_left
 · refine TL.off rfl rfl rfl rfl (eq_false_of_ne_true c42) rfl rfl ?_
   refine TL.off rfl rfl rfl rfl (eq_false_of_ne_true c42) rfl rfl ?_
   refine TL.off rfl rfl rfl rfl (eq_false_of_ne_true c42) rfl rfl ?_
   refine TL.op1 (OpR.pickF rfl (eq_false_of_ne_true c42) rfl) rfl ?_
   refine TL.op1 (OpR.pure rfl) rfl ?_
   refine TL.off rfl rfl rfl rfl rfl rfl rfl ?_
   refine TL.off rfl rfl rfl rfl rfl rfl rfl ?_
   refine TL.off rfl rfl rfl rfl rfl rfl rfl ?_
   refine TL.off rfl rfl rfl rfl rfl rfl rfl ?_
   refine TL.offU rfl rfl rfl rfl rfl rfl ?_
   refine TL.offU rfl rfl rfl rfl rfl rfl ?_
   refine TL.offU rfl rfl rfl rfl rfl rfl ?_
   refine TL.offU rfl rfl rfl rfl rfl rfl ?_
   refine TL.off rfl rfl rfl rfl rfl rfl rfl ?_
   refine TL.op1 (OpR.pickF rfl rfl rfl) rfl ?_
   refine TL.op1 (OpR.pure rfl) rfl ?_
   refine TL.nil ?_
   obtain rfl := Option.some.inj ht41
   exact ⟨_, Gst.only [4] rfl, rfl⟩
 refine TL.on rfl rfl rfl rfl (c42) ?_
 refine TL.op1 (OpR.pure rfl) rfl ?_
 refine TL.on rfl rfl rfl rfl (c42) ?_
 refine TL.op1 (OpR.pure rfl) rfl ?_
 refine TL.on rfl rfl rfl rfl (c42) ?_
 obtain ⟨x43, hx43, ht41⟩ := bnd_some ht41
 refine TL.op1 (OpR.call [0] fn15 (ref09_Same_c_2 hx43) rfl rfl rfl (fun _ => rfl)) rfl ?_
 refine TL.op1 (OpR.pickT rfl (c42) rfl) rfl ?_
 refine TL.op1 (OpR.pure rfl) rfl ?_
 rcases ite_some ht41 with ⟨c44, ht41⟩ | ⟨c44, ht41⟩
 rotate_left
 · refine TL.off rfl rfl rfl rfl (eq_false_of_ne_true c44) rfl rfl ?_
   refine TL.off rfl rfl rfl rfl (eq_false_of_ne_true c44) rfl rfl ?_
   refine TL.off rfl rfl rfl rfl (eq_false_of_ne_true c44) rfl rfl ?_
   refine TL.off rfl rfl rfl rfl (eq_false_of_ne_true c44) rfl rfl ?_
   refine TL.offU rfl rfl rfl rfl rfl rfl ?_
   refine TL.offU rfl rfl rfl rfl rfl rfl ?_
   refine TL.offU rfl rfl rfl rfl rfl rfl ?_
   refine TL.offU rfl rfl rfl rfl rfl rfl ?_
   refine TL.off rfl rfl rfl rfl (eq_false_of_ne_true c44) rfl rfl ?_
   refine TL.op1 (OpR.pickF rfl (eq_false_of_ne_true c44) rfl) rfl ?_
   refine TL.op1 (OpR.pure rfl) rfl ?_
   refine TL.nil ?_
   obtain rfl := Option.some.inj ht41
   exact ⟨_, Gst.only [4] rfl, rfl⟩
 refine TL.on rfl rfl rfl rfl (c44) ?_
 refine TL.op1 (OpR.pure rfl) rfl ?_
 refine TL.on rfl rfl rfl rfl (c44) ?_
 obtain ⟨x45, hx45, ht41⟩ := bnd_some ht41
 refine TL.op1 (OpR.call0 fn47 (tree_Tree_int_Height_c hx45) rfl) rfl ?_
 refine TL.on rfl rfl rfl rfl (c44) ?_
 refine TL.op1 (OpR.pure rfl) rfl ?_
 refine TL.on rfl rfl rfl rfl (c44) ?_
 refine TL.op1 (OpR.pure rfl) rfl ?_
 rcases ite_some ht41 with ⟨c46, ht41⟩ | ⟨c46, ht41⟩
 · refine TL.off rfl rfl rfl rfl (beq_iff_eq.2 c46) rfl rfl ?_
   refine TL.off rfl rfl rfl rfl (beq_iff_eq.2 c46) rfl rfl ?_
   refine TL.off rfl rfl rfl rfl (beq_iff_eq.2 c46) rfl rfl ?_
   refine TL.off rfl rfl rfl rfl (beq_iff_eq.2 c46) rfl rfl ?_
   refine TL.on rfl rfl rfl rfl (c44) ?_
   refine TL.op1 (OpR.pickT rfl (beq_iff_eq.2 c46) rfl) rfl ?_
   refine TL.op1 (OpR.pickT rfl (c44) rfl) rfl ?_
   refine TL.op1 (OpR.pure rfl) rfl ?_
   refine TL.nil ?_
   obtain rfl := Option.some.inj ht41
   exact ⟨_, Gst.only [4] rfl, rfl⟩
 refine TL.on rfl rfl rfl rfl (beq_eq_false_iff_ne.2 c46) ?_
 refine TL.op1 (OpR.pure rfl) rfl ?_
 refine TL.on rfl rfl rfl rfl (beq_eq_false_iff_ne.2 c46) ?_
 refine TL.op1 (OpR.rowLenM (eI .i64) 0 rfl rfl rfl rfl) rfl ?_
 refine TL.on rfl rfl rfl rfl (beq_eq_false_iff_ne.2 c46) ?_
 refine TL.op1 (OpR.pure rfl) rfl ?_
 refine TL.on rfl rfl rfl rfl (beq_eq_false_iff_ne.2 c46) ?_
 refine TL.op1 (OpR.pure rfl) rfl ?_
 refine TL.on rfl rfl rfl rfl (c44) ?_
 refine TL.op1 (OpR.pickF rfl (beq_eq_false_iff_ne.2 c46) rfl) rfl ?_
 refine TL.op1 (OpR.pickT rfl (c44) rfl) rfl ?_
 refine TL.op1 (OpR.pure rfl) rfl ?_
 refine TL.nil ?_
 obtain rfl := Option.some.inj ht41
 exact ⟨_, Gst.only [4] rfl, rfl⟩
end Go.Proofs.Ytkmdfaodbiknlaa.S
