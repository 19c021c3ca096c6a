/- Printed by a program of this session's own (gen.py): Lean functions for Go functions, and the proofs that the Go code comes to their answers. -/
import Derived.Test.YtkmdfaodbiknlaaG2xa
import Derived.Test.YtkmdfaodbiknlaaG5xa
import Derived.Test.YtkmdfaodbiknlaaG4xa
set_option linter.unusedVariables false
set_option linter.unusedSimpArgs false
set_option maxRecDepth 20000
namespace Go.Proofs.Ytkmdfaodbiknlaa.S
open Go Go.Sm
attribute [local irreducible] T TL OpR CallT iter loop
noncomputable def ref09_Insert.l1 (a0 : List Int) (a1 : Int) (a2 : Int) (s7 : Int × (List Int)) : Option (Lp (Int × (List Int)) (List Int)) :=
  if s7.1 ≤ (a0.length : Int) then
    bnd (if s7.1 = a1 then
      bnd (app 8 s7.2 [a2]) fun x19 =>
      some x19
    else
      some s7.2 : Option (List Int)) fun t16 =>
    bnd (if s7.1 < (a0.length : Int) then
      bnd (idx a0 s7.1) fun x24 =>
      bnd (app 8 t16 [x24]) fun x25 =>
      some x25
    else
      some t16 : Option (List Int)) fun t21 =>
    some (Lp.next (w64 (s7.1 + 1), t21))
  else
    some (Lp.done s7.2)
noncomputable def ref09_Insert (a0 : List Int) (a1 : Int) (a2 : Int) : Option ((List Int) × Bool) :=
  bnd (if a1 < 0 then
    some true
  else
    some (decide (a1 > (a0.length : Int))) : Option Bool) fun t1 =>
  if t1 = true then
    some (a0, false)
  else
    bnd (loop (ref09_Insert.l1 a0 a1 a2) (0, []) : Option (List Int)) fun t4 =>
    some (t4, true)
set_option maxHeartbeats 4000000 in
theorem ref09_Insert_c {a0 : List Int} {a1 : Int} {a2 : Int} {res : (List Int) × Bool} (h0 : ref09_Insert a0 a1 a2 = some res) : CallF X 50 [.sl 1 (List.map (eI .i64) a0), .val (.int .i64 a1), .val (.int .i64 a2)] [] (fun x => .tup [.sl 1 (List.map (eI .i64) res.1), .val (.bool res.2)]) (fun x => []) := by
 unfold ref09_Insert at h0
 refine CallF.mkG (X := X) rfl Try.func50 rfl rfl Try.ntmps50 rfl rfl ?_
 refine T.seq ?_
 refine T.region ?_
 refine TL.op1 (OpR.pure rfl) rfl ?_
 refine TL.op1 (OpR.pure rfl) rfl ?_
 refine TL.nil ?_
 show T X _ _ _
 refine T.seq ?_
 refine T.seq ?_
 obtain ⟨t1, ht1, h0⟩ := bnd_some h0
 refine T.cutC (fun S' => S' = ⟨[(17, .val (.bool t1)), (7, .val (.bool false)), (6, .val (.slice none 0 0)), (2, .val (.int .i64 a2)), (1, .val (.int .i64 a1)), (0, .sl 1 (List.map (eI .i64) a0))], [], 44⟩) (fun _ h => h) ?_ ?_
 · refine T.region ?_
   refine TL.op1 (OpR.pure rfl) rfl ?_
   refine TL.op1 (OpR.pure rfl) rfl ?_
   refine TL.op1 (OpR.pure rfl) rfl ?_
   rcases ite_some ht1 with ⟨c2, ht1⟩ | ⟨c2, ht1⟩
   · refine TL.off rfl rfl rfl rfl (decide_eq_true c2) rfl rfl ?_
     refine TL.off rfl rfl rfl rfl (decide_eq_true c2) rfl rfl ?_
     refine TL.off rfl rfl rfl rfl (decide_eq_true c2) rfl rfl ?_
     refine TL.off rfl rfl rfl rfl (decide_eq_true c2) rfl rfl ?_
     refine TL.op1 (OpR.pickT rfl (decide_eq_true c2) rfl) rfl ?_
     refine TL.nil ?_
     obtain rfl := Option.some.inj ht1
     exact ⟨_, Gst.only [0, 1, 2, 6, 7, 17] rfl, rfl⟩
   refine TL.on rfl rfl rfl rfl (decide_eq_false c2) ?_
   refine TL.op1 (OpR.pure rfl) rfl ?_
   refine TL.on rfl rfl rfl rfl (decide_eq_false c2) ?_
   refine TL.op1 (OpR.pure rfl) rfl ?_
   refine TL.on rfl rfl rfl rfl (decide_eq_false c2) ?_
   refine TL.op1 (OpR.cast (OpR.pure rfl) (intE (lenM _ _))) rfl ?_
   refine TL.on rfl rfl rfl rfl (decide_eq_false c2) ?_
   refine TL.op1 (OpR.pure rfl) rfl ?_
   refine TL.op1 (OpR.pickF rfl (decide_eq_false c2) rfl) rfl ?_
   refine TL.nil ?_
   obtain rfl := Option.some.inj ht1
   exact ⟨_, Gst.only [0, 1, 2, 6, 7, 17] rfl, rfl⟩
 rintro _ rfl
 show T X _ _ _
 rcases ite_some h0 with ⟨c3, h0⟩ | ⟨c3, h0⟩
 · refine T.condT rfl (c3) ?_
   refine T.seq ?_
   refine T.region ?_
   refine TL.op1 (OpR.pure rfl) rfl ?_
   refine TL.op1 (OpR.pure rfl) rfl ?_
   refine TL.op1 (OpR.pure rfl) rfl ?_
   refine TL.nil ?_
   show T X _ _ _
   refine T.ret ?_
   obtain rfl := Option.some.inj h0
   exact PostG.retP (ks := []) (Gst.only [6, 7] rfl) undef (ResL.cons (ResV.tmp rfl) (ResL.cons (ResV.tmp rfl) ResL.nil)) rfl rfl rfl rfl
 refine T.condF rfl (eq_false_of_ne_true c3) ?_
 refine T.skip ?_
 show T X _ _ _
 refine T.seq ?_
 refine T.region ?_
 refine TL.op1 (OpR.pure rfl) rfl ?_
 refine TL.nil ?_
 show T X _ _ _
 refine T.seq ?_
 refine T.seq ?_
 refine T.region ?_
 refine TL.op1 (OpR.pure rfl) rfl ?_
 refine TL.nil ?_
 show T X _ _ _
 obtain ⟨t4, ht4, h0⟩ := bnd_some h0
 refine T.cutC (fun S' => ∃ y5 : Value, S' = ⟨[(8, .val y5), (7, .val (.bool false)), (6, .val (.slice none 0 0))], [.row y5 (List.map (eI .i64) t4) 1 3], 44⟩) (fun _ h => h) ?_ ?_
 rotate_left
 · rintro _ ⟨y5, rfl⟩
   show T X _ _ _
   refine T.seq ?_
   refine T.region ?_
   refine TL.op1 (OpR.pure rfl) rfl ?_
   refine TL.op1 (OpR.pure rfl) rfl ?_
   refine TL.op1 (OpR.pure rfl) rfl ?_
   refine TL.nil ?_
   show T X _ _ _
   refine T.ret ?_
   obtain rfl := Option.some.inj h0
   exact PostG.retP (ks := []) (Gst.trans (Gst.only [6, 7] rfl) (Gst.trans (Gst.freezeRow 0 rfl rfl (ReS.cons Re.refl (ReS.cons (Re.base .all) ReS.nil)) (ReO.same ReO.nil)) (Gst.pick [] rfl rfl))) undef (ResL.cons (ResV.tmp rfl) (ResL.cons (ResV.tmp rfl) ResL.nil)) rfl rfl rfl rfl
 refine T.block ?_
 obtain ⟨n8, n13⟩ := loop_some ht4
 refine T.loop (fun n S' => ∃ S'', Gst S' S'' ∧ ∃ y6 : Value, ∃ s7 : Int × (List Int), S'' = ⟨[(9, .val (.int .i64 s7.1)), (8, .val y6), (7, .val (.bool false)), (6, .val (.slice none 0 0)), (2, .val (.int .i64 a2)), (1, .val (.int .i64 a1)), (0, .sl 1 (List.map (eI .i64) a0))], [.row y6 (List.map (eI .i64) s7.2) 1 3], 44⟩ ∧ iter (ref09_Insert.l1 a0 a1 a2) n s7 = some t4) n8 ?_ ?_
 · exact ⟨_, Gst.trans (Gst.only [0, 1, 2, 6, 7, 8, 9] rfl) (Gst.nilRow (ow := []) 1 3 rfl), (.slice none 0 0), (0, []), rfl, n13⟩
 rintro n8 _ ⟨_, g, y6, s7, rfl, i12⟩
 refine T.ghost g ?_
 obtain ⟨m9, q10, rfl, q11, i12⟩ := iter_succ i12
 unfold ref09_Insert.l1 at q11
 refine T.seq ?_
 refine T.seq ?_
 refine T.region ?_
 refine TL.op1 (OpR.pure rfl) rfl ?_
 refine TL.op1 (OpR.pure rfl) rfl ?_
 refine TL.op1 (OpR.cast (OpR.pure rfl) (intE (lenM _ _))) rfl ?_
 refine TL.op1 (OpR.pure rfl) rfl ?_
 refine TL.nil ?_
 show T X _ _ _
 rcases ite_some q11 with ⟨c15, q11⟩ | ⟨c15, q11⟩
 rotate_left
 · refine T.condF rfl (decide_eq_false c15) ?_
   refine T.exit ?_
   obtain rfl := Option.some.inj q11
   obtain rfl : _ = _ := i12
   exact ⟨_, Gst.only [6, 7, 8] rfl, y6, rfl⟩
 refine T.condT rfl (decide_eq_true c15) ?_
 refine T.skip ?_
 show T X _ _ _
 refine T.seq ?_
 refine T.block ?_
 refine T.seq ?_
 refine T.seq ?_
 refine T.region ?_
 refine TL.op1 (OpR.pure rfl) rfl ?_
 refine TL.op1 (OpR.pure rfl) rfl ?_
 refine TL.op1 (OpR.pure rfl) rfl ?_
 refine TL.nil ?_
 show T X _ _ _
 obtain ⟨t16, ht16, q11⟩ := bnd_some q11
 refine T.cutC (fun S' => ∃ y17 : Value, S' = ⟨[(9, .val (.int .i64 s7.1)), (8, .val y17), (7, .val (.bool false)), (6, .val (.slice none 0 0)), (2, .val (.int .i64 a2)), (1, .val (.int .i64 a1)), (0, .sl 1 (List.map (eI .i64) a0))], [.row y17 (List.map (eI .i64) t16) 1 3], 44⟩) (fun _ h => h) ?_ ?_
 · rcases ite_some ht16 with ⟨c18, ht16⟩ | ⟨c18, ht16⟩
   rotate_left
   · refine T.condF rfl (beq_eq_false_iff_ne.2 c18) ?_
     refine T.skip ?_
     obtain rfl := Option.some.inj ht16
     exact ⟨_, Gst.only [0, 1, 2, 6, 7, 8, 9] rfl, y6, rfl⟩
   refine T.condT rfl (beq_iff_eq.2 c18) ?_
   refine T.region ?_
   refine TL.op1 (OpR.pure rfl) rfl ?_
   refine TL.op1 (OpR.pure rfl) rfl ?_
   refine TL.op1 (OpR.lit rfl rfl rfl rfl rfl rfl rfl) rfl ?_
   obtain ⟨x19, hx19, ht16⟩ := bnd_some ht16
   refine TL.op (OpR.appendM (m := [a2]) (eI .i64) 0 hx19 rfl rfl rfl rfl rfl rfl rfl rfl rfl (fun _ => rfl)) rfl (fun v20 => ?_)
   refine TL.op1 (OpR.pure rfl) rfl ?_
   refine TL.nil ?_
   obtain rfl := Option.some.inj ht16
   exact ⟨_, Gst.only [0, 1, 2, 6, 7, 8, 9] rfl, v20, rfl⟩
 rintro _ ⟨y17, rfl⟩
 show T X _ _ _
 refine T.seq ?_
 refine T.region ?_
 refine TL.op1 (OpR.pure rfl) rfl ?_
 refine TL.op1 (OpR.pure rfl) rfl ?_
 refine TL.op1 (OpR.cast (OpR.pure rfl) (intE (lenM _ _))) rfl ?_
 refine TL.op1 (OpR.pure rfl) rfl ?_
 refine TL.nil ?_
 show T X _ _ _
 obtain ⟨t21, ht21, q11⟩ := bnd_some q11
 refine T.cutC (fun S' => ∃ y22 : Value, S' = ⟨[(9, .val (.int .i64 s7.1)), (8, .val y22), (7, .val (.bool false)), (6, .val (.slice none 0 0)), (2, .val (.int .i64 a2)), (1, .val (.int .i64 a1)), (0, .sl 1 (List.map (eI .i64) a0))], [.row y22 (List.map (eI .i64) t21) 1 3], 44⟩) (fun _ h => h) ?_ ?_
 rotate_left
 · rintro _ ⟨y22, rfl⟩
   show T X _ _ _
   refine T.region ?_
   refine TL.op1 (OpR.pure rfl) rfl ?_
   refine TL.op1 (OpR.pure rfl) rfl ?_
   refine TL.op1 (OpR.pure rfl) rfl ?_
   refine TL.nil ?_
   obtain rfl := Option.some.inj q11
   exact ⟨m9, Nat.lt_succ_self _, _, Gst.only [0, 1, 2, 6, 7, 8, 9] rfl, y22, (w64 (s7.1 + 1), t21), rfl, i12⟩
 rcases ite_some ht21 with ⟨c23, ht21⟩ | ⟨c23, ht21⟩
 rotate_left
 · refine T.condF rfl (decide_eq_false c23) ?_
   refine T.skip ?_
   obtain rfl := Option.some.inj ht21
   exact ⟨_, Gst.only [0, 1, 2, 6, 7, 8, 9] rfl, y17, rfl⟩
 refine T.condT rfl (decide_eq_true c23) ?_
 refine T.region ?_
 refine TL.op1 (OpR.pure rfl) rfl ?_
 refine TL.op1 (OpR.pure rfl) rfl ?_
 refine TL.op1 (OpR.pure rfl) rfl ?_
 obtain ⟨x24, hx24, ht21⟩ := bnd_some ht21
 refine TL.op1 (OpR.indexM (eI .i64) hx24 rfl rfl rfl rfl rfl) rfl ?_
 refine TL.op1 (OpR.pure rfl) rfl ?_
 refine TL.op1 (OpR.lit rfl rfl rfl rfl rfl rfl rfl) rfl ?_
 obtain ⟨x25, hx25, ht21⟩ := bnd_some ht21
 refine TL.op (OpR.appendM (m := [x24]) (eI .i64) 0 hx25 rfl rfl rfl rfl rfl rfl rfl rfl rfl (fun _ => rfl)) rfl (fun v26 => ?_)
 refine TL.op1 (OpR.pure rfl) rfl ?_
 refine TL.nil ?_
 obtain rfl := Option.some.inj ht21
 exact ⟨_, Gst.only [0, 1, 2, 6, 7, 8, 9] rfl, v26, rfl⟩
noncomputable def tree_Node_int_width (a0 : List NP) (a1 : List Int) (a2 : Int) : Option Int :=
  some (w64 ((a0.length : Int) + (a1.length : Int)))
set_option maxHeartbeats 4000000 in
theorem tree_Node_int_width_c {a0 : List NP} {a1 : List Int} {a2 : Int} {res : Int} (h0 : tree_Node_int_width a0 a1 a2 = some res) : CallF X 97 [.nod [.sl 1 (List.map eNP a0), .sl 1 (List.map (eI .i64) a1), .val (.int .i64 a2)]] [] (fun x => .val (.int .i64 res)) (fun x => []) := by
 unfold tree_Node_int_width at h0
 refine CallF.mkG (X := X) rfl Try.func97 rfl rfl Try.ntmps97 rfl rfl ?_
 refine T.seq ?_
 refine T.region ?_
 refine TL.op1 (OpR.pure rfl) rfl ?_
 refine TL.nil ?_
 show T X _ _ _
 refine T.seq ?_
 refine T.drawQ drawsX [.nod [.sl 1 (List.map eNP a0), .sl 1 (List.map (eI .i64) a1), .val (.int .i64 a2)], .nod [.sl 1 (List.map eNP a0), .sl 1 (List.map (eI .i64) a1), .val (.int .i64 a2)], .nod [.sl 1 (List.map eNP a0), .sl 1 (List.map (eI .i64) a1), .val (.int .i64 a2)], .sl 1 (List.map eNP a0), .val (.int .i64 (a0.length : Int)), .nod [.sl 1 (List.map eNP a0), .sl 1 (List.map (eI .i64) a1), .val (.int .i64 a2)], .nod [.sl 1 (List.map eNP a0), .sl 1 (List.map (eI .i64) a1), .val (.int .i64 a2)], .nod [.sl 1 (List.map (eI .i64) a1), .val (.int .i64 a2)], .sl 1 (List.map (eI .i64) a1), .val (.int .i64 (a1.length : Int)), .val (.int .i64 (w64 ((a0.length : Int) + (a1.length : Int)))), .val (.int .i64 (w64 ((a0.length : Int) + (a1.length : Int))))] [0, 2, 3, 4, 5, 6, 7, 8, 9, 10, 11, 12, 13] (by decide +kernel) rfl ?_ rfl ?_
 rotate_left
 · show T X _ _ _
   refine T.ret ?_
   obtain rfl := Option.some.inj h0
   exact PostG.retP (ks := []) (Gst.only [2] rfl) undef (ResL.cons (ResV.tmp rfl) ResL.nil) rfl rfl rfl rfl
 refine OpsQ.yes (Want.plain rfl) rfl (OpR.pure rfl) ?_
 refine OpsQ.yes (Want.plain rfl) rfl (OpR.pure rfl) ?_
 refine OpsQ.yes (Want.plain rfl) rfl (OpR.pure rfl) ?_
 refine OpsQ.yes (Want.plain rfl) rfl (OpR.pure rfl) ?_
 refine OpsQ.yes (Want.plain rfl) rfl (OpR.cast (OpR.pure rfl) (intE (lenM _ _))) ?_
 refine OpsQ.yes (Want.plain rfl) rfl (OpR.pure rfl) ?_
 refine OpsQ.yes (Want.plain rfl) rfl (OpR.pure rfl) ?_
 refine OpsQ.yes (Want.plain rfl) rfl (OpR.pure rfl) ?_
 refine OpsQ.yes (Want.plain rfl) rfl (OpR.pure rfl) ?_
 refine OpsQ.yes (Want.plain rfl) rfl (OpR.cast (OpR.pure rfl) (intE (lenM _ _))) ?_
 refine OpsQ.yes (Want.plain rfl) rfl (OpR.pure rfl) ?_
 refine OpsQ.yes (Want.plain rfl) rfl (OpR.pure rfl) ?_
 exact OpsQ.nil
noncomputable def tree_Node_int_take.body (self : (List NP) → (List Int) → Int → Int → Option ((List NP) × (List Int) × Int)) (a0 : List NP) (a1 : List Int) (a2 : Int) (a3 : Int) : Option ((List NP) × (List Int) × Int) :=
  bnd (tree_Node_int_flat a0 a1 a2) fun x1 =>
  if x1 = true then
    bnd (tree_splice_int a1 a3 (w64 (a3 + 1)) []) fun x3 =>
    bnd (tree_leaf_int x3) fun x4 =>
    some (x4.1, x4.2.1, x4.2.2)
  else
    bnd (tree_Node_int_kid a0 a1 a2 a3) fun x5 =>
    bnd (idx a0 x5.1) fun x6 =>
    bnd (o_tree_Node_int x6) fun x7 =>
    bnd (self x7.fKids x7.fItems x7.fN x5.2) fun x8 =>
    bnd (tree_Node_int_width x8.1 x8.2.1 x8.2.2) fun x9 =>
    if x9 ≥ 3 then
      bnd (tree_splice_tree_Node_int a0 x5.1 (w64 (x5.1 + 1)) [(c_tree_Node_int (⟨x8.1, x8.2.1, x8.2.2⟩ : tree_Node_int))]) fun x11 =>
      bnd (tree_inner_int x11) fun x12 =>
      some (x12.1, x12.2.1, x12.2.2)
    else
      if x5.1 > 0 then
        bnd (idx a0 (w64 (x5.1 - 1))) fun x15 =>
        bnd (o_tree_Node_int x15) fun x16 =>
        bnd (tree_glue_int x16.fKids x16.fItems x16.fN x8.1 x8.2.1 x8.2.2) fun x17 =>
        bnd (tree_splice_tree_Node_int a0 (w64 (x5.1 - 1)) (w64 (x5.1 + 1)) x17) fun x18 =>
        bnd (tree_inner_int x18) fun x19 =>
        some (x19.1, x19.2.1, x19.2.2)
      else
        bnd (idx a0 1) fun x21 =>
        bnd (o_tree_Node_int x21) fun x22 =>
        bnd (tree_glue_int x8.1 x8.2.1 x8.2.2 x22.fKids x22.fItems x22.fN) fun x23 =>
        bnd (tree_splice_tree_Node_int a0 0 2 x23) fun x24 =>
        bnd (tree_inner_int x24) fun x25 =>
        some (x25.1, x25.2.1, x25.2.2)
noncomputable def tree_Node_int_take : Nat → (List NP) → (List Int) → Int → Int → Option ((List NP) × (List Int) × Int)
  | 0 => fun _ _ _ _ => none
  | n + 1 => tree_Node_int_take.body (tree_Node_int_take n)
set_option maxHeartbeats 4000000 in
theorem tree_Node_int_take_c {fu : Nat} {a0 : List NP} {a1 : List Int} {a2 : Int} {a3 : Int} {res : (List NP) × (List Int) × Int} (h0 : tree_Node_int_take fu a0 a1 a2 a3 = some res) : CallF X 80 [.nod [.sl 1 (List.map eNP a0), .sl 1 (List.map (eI .i64) a1), .val (.int .i64 a2)], .val (.int .i64 a3)] [] (fun x => .nod [.sl 1 (List.map eNP res.1), .sl 1 (List.map (eI .i64) res.2.1), .val (.int .i64 res.2.2)]) (fun x => []) := by
 induction fu generalizing a0 a1 a2 a3 res
 · exact nomatch h0
 rename_i fu ih
 replace h0 : tree_Node_int_take.body (tree_Node_int_take fu) a0 a1 a2 a3 = some res := h0
 unfold tree_Node_int_take.body at h0
 refine CallF.mkG (X := X) rfl Try.func80 rfl rfl Try.ntmps80 rfl rfl ?_
 refine T.seq ?_
 refine T.region ?_
 refine TL.op1 (OpR.pure rfl) rfl ?_
 refine TL.nil ?_
 show T X _ _ _
 refine T.seq ?_
 refine T.seq ?_
 refine T.region ?_
 refine TL.op1 (OpR.pure rfl) rfl ?_
 obtain ⟨x1, hx1, h0⟩ := bnd_some h0
 refine TL.op1 (OpR.call0 fn82 (tree_Node_int_flat_c hx1) rfl) rfl ?_
 refine TL.nil ?_
 show T X _ _ _
 rcases ite_some h0 with ⟨c2, h0⟩ | ⟨c2, h0⟩
 · refine T.condT rfl (c2) ?_
   refine T.seq ?_
   refine T.region ?_
   refine TL.op1 (OpR.pure rfl) rfl ?_
   refine TL.op1 (OpR.pure rfl) rfl ?_
   refine TL.op1 (OpR.pure rfl) rfl ?_
   refine TL.op1 (OpR.pure rfl) rfl ?_
   refine TL.op1 (OpR.pure rfl) rfl ?_
   refine TL.op1 (OpR.pure rfl) rfl ?_
   refine TL.op1 (OpR.pure rfl) rfl ?_
   obtain ⟨x3, hx3, h0⟩ := bnd_some h0
   refine TL.op1 (OpR.call0 fn96 (CallF.denil (tree_splice_int_c hx3) (ReL.cons Re.refl (ReL.cons Re.refl (ReL.cons Re.refl (ReL.cons (Re.base .nil) ReL.nil))))) rfl) rfl ?_
   obtain ⟨x4, hx4, h0⟩ := bnd_some h0
   refine TL.op1 (OpR.call0 fn76 (tree_leaf_int_c hx4) rfl) rfl ?_
   refine TL.op1 (OpR.pure rfl) rfl ?_
   refine TL.nil ?_
   show T X _ _ _
   refine T.ret ?_
   obtain rfl := Option.some.inj h0
   exact PostG.retP (ks := []) (Gst.only [4] rfl) undef (ResL.cons (ResV.tmp rfl) ResL.nil) rfl rfl rfl rfl
 refine T.condF rfl (eq_false_of_ne_true c2) ?_
 refine T.skip ?_
 show T X _ _ _
 refine T.seq ?_
 refine T.region ?_
 refine TL.op1 (OpR.pure rfl) rfl ?_
 refine TL.op1 (OpR.pure rfl) rfl ?_
 obtain ⟨x5, hx5, h0⟩ := bnd_some h0
 refine TL.op1 (OpR.call0 fn83 (tree_Node_int_kid_c hx5) rfl) rfl ?_
 refine TL.op1 (OpR.pure rfl) rfl ?_
 refine TL.op1 (OpR.pure rfl) rfl ?_
 refine TL.op1 (OpR.pure rfl) rfl ?_
 refine TL.op1 (OpR.pure rfl) rfl ?_
 refine TL.op1 (OpR.pure rfl) rfl ?_
 refine TL.nil ?_
 show T X _ _ _
 refine T.seq ?_
 refine T.region ?_
 refine TL.op1 (OpR.pure rfl) rfl ?_
 refine TL.op1 (OpR.pure rfl) rfl ?_
 refine TL.op1 (OpR.pure rfl) rfl ?_
 refine TL.op1 (OpR.pure rfl) rfl ?_
 refine TL.op1 (OpR.pure rfl) rfl ?_
 obtain ⟨x6, hx6, h0⟩ := bnd_some h0
 obtain ⟨x7, hx7, h0⟩ := bnd_some h0
 rw [o_tree_Node_int_eq hx7] at hx6
 refine TL.op1 (OpR.indexM eNP hx6 rfl rfl rfl rfl rfl) rfl ?_
 refine TL.op1 (OpR.pure rfl) rfl ?_
 refine TL.op1 (OpR.pure rfl) rfl ?_
 obtain ⟨x8, hx8, h0⟩ := bnd_some h0
 refine TL.op1 (OpR.call0 fn80 (ih hx8) rfl) rfl ?_
 refine TL.op1 (OpR.pure rfl) rfl ?_
 refine TL.nil ?_
 show T X _ _ _
 refine T.seq ?_
 refine T.seq ?_
 refine T.region ?_
 refine TL.op1 (OpR.pure rfl) rfl ?_
 obtain ⟨x9, hx9, h0⟩ := bnd_some h0
 refine TL.op1 (OpR.call0 fn97 (tree_Node_int_width_c hx9) rfl) rfl ?_
 refine TL.op1 (OpR.pure rfl) rfl ?_
 refine TL.nil ?_
 show T X _ _ _
 rcases ite_some h0 with ⟨c10, h0⟩ | ⟨c10, h0⟩
 · refine T.condT rfl (decide_eq_true c10) ?_
   refine T.seq ?_
   refine T.region ?_
   refine TL.op1 (OpR.pure rfl) rfl ?_
   refine TL.op1 (OpR.pure rfl) rfl ?_
   refine TL.op1 (OpR.pure rfl) rfl ?_
   refine TL.op1 (OpR.pure rfl) rfl ?_
   refine TL.op1 (OpR.pure rfl) rfl ?_
   refine TL.op1 (OpR.pure rfl) rfl ?_
   refine TL.op1 (OpR.pure rfl) rfl ?_
   refine TL.op1 (OpR.pure rfl) rfl ?_
   refine TL.op1 (OpR.lit rfl rfl rfl rfl rfl rfl rfl) rfl ?_
   obtain ⟨x11, hx11, h0⟩ := bnd_some h0
   refine TL.op1 (OpR.call0 fn92 (tree_splice_tree_Node_int_c hx11) rfl) rfl ?_
   obtain ⟨x12, hx12, h0⟩ := bnd_some h0
   refine TL.op1 (OpR.call0 fn95 (tree_inner_int_c hx12) rfl) rfl ?_
   refine TL.op1 (OpR.pure rfl) rfl ?_
   refine TL.nil ?_
   show T X _ _ _
   refine T.ret ?_
   obtain rfl := Option.some.inj h0
   exact PostG.retP (ks := []) (Gst.only [4] rfl) undef (ResL.cons (ResV.tmp rfl) ResL.nil) rfl rfl rfl rfl
 refine T.condF rfl (decide_eq_false c10) ?_
 refine T.skip ?_
 show T X _ _ _
 refine T.seq ?_
 refine T.seq ?_
 refine T.region ?_
 refine TL.op1 (OpR.pure rfl) rfl ?_
 refine TL.op1 (OpR.pure rfl) rfl ?_
 refine TL.nil ?_
 show T X _ _ _
 rcases ite_some h0 with ⟨c13, h0⟩ | ⟨c13, h0⟩
 rotate_left
 · refine T.condF rfl (decide_eq_false c13) ?_
   refine T.skip ?_
   show T X _ _ _
   refine T.seq ?_
   obtain ⟨x21, hx21, h0⟩ := bnd_some h0
   obtain ⟨x22, hx22, h0⟩ := bnd_some h0
   rw [o_tree_Node_int_eq hx22] at hx21
   obtain ⟨x23, hx23, h0⟩ := bnd_some h0
   obtain ⟨x24, hx24, h0⟩ := bnd_some h0
   obtain ⟨x25, hx25, h0⟩ := bnd_some h0
   refine T.drawQ drawsX [.nod [.sl 1 (List.map eNP a0), .sl 1 (List.map (eI .i64) a1), .val (.int .i64 a2)], .nod [.sl 1 (List.map eNP a0), .sl 1 (List.map (eI .i64) a1), .val (.int .i64 a2)], .nod [.sl 1 (List.map eNP a0), .sl 1 (List.map (eI .i64) a1), .val (.int .i64 a2)], .sl 1 (List.map eNP a0), .nod [.sl 1 (List.map eNP x8.1), .sl 1 (List.map (eI .i64) x8.2.1), .val (.int .i64 x8.2.2)], .nod [.sl 1 (List.map eNP a0), .sl 1 (List.map (eI .i64) a1), .val (.int .i64 a2)], .nod [.sl 1 (List.map eNP a0), .sl 1 (List.map (eI .i64) a1), .val (.int .i64 a2)], .nod [.sl 1 (List.map eNP a0), .sl 1 (List.map (eI .i64) a1), .val (.int .i64 a2)], .sl 1 (List.map eNP a0), .nod [.nod [.sl 1 (List.map eNP x22.fKids), .sl 1 (List.map (eI .i64) x22.fItems), .val (.int .i64 x22.fN)]], .nod [.sl 1 (List.map eNP x22.fKids), .sl 1 (List.map (eI .i64) x22.fItems), .val (.int .i64 x22.fN)], .sl 1 (List.map eNP x23), .sl 1 (List.map eNP x24), .nod [.sl 1 (List.map eNP x25.1), .sl 1 (List.map (eI .i64) x25.2.1), .val (.int .i64 x25.2.2)], .nod [.sl 1 (List.map eNP x25.1), .sl 1 (List.map (eI .i64) x25.2.1), .val (.int .i64 x25.2.2)]] [0, 1, 4, 5, 6, 7, 8, 9, 19, 20, 21, 22, 23, 24, 25, 26, 27, 28, 29, 30, 31, 32, 33, 34, 35, 36, 48, 49, 70, 71, 72, 73, 74, 75, 76, 77, 78, 79, 80, 81, 82, 83] (by decide +kernel) rfl ?_ rfl ?_
   rotate_left
   · show T X _ _ _
     refine T.ret ?_
     obtain rfl := Option.some.inj h0
     exact PostG.retP (ks := []) (Gst.only [4] rfl) undef (ResL.cons (ResV.tmp rfl) ResL.nil) rfl rfl rfl rfl
   refine OpsQ.yes (Want.plain rfl) rfl (OpR.pure rfl) ?_
   refine OpsQ.yes (Want.plain rfl) rfl (OpR.pure rfl) ?_
   refine OpsQ.yes (Want.plain rfl) rfl (OpR.pure rfl) ?_
   refine OpsQ.yes (Want.plain rfl) rfl (OpR.pure rfl) ?_
   refine OpsQ.yes (Want.plain rfl) rfl (OpR.pure rfl) ?_
   refine OpsQ.yes (Want.plain rfl) rfl (OpR.pure rfl) ?_
   refine OpsQ.yes (Want.plain rfl) rfl (OpR.pure rfl) ?_
   refine OpsQ.yes (Want.plain rfl) rfl (OpR.pure rfl) ?_
   refine OpsQ.yes (Want.plain rfl) rfl (OpR.pure rfl) ?_
   refine OpsQ.yes (Want.plain rfl) rfl (OpR.indexM eNP hx21 rfl rfl rfl rfl rfl) ?_
   refine OpsQ.yes (Want.plain rfl) rfl (OpR.pure rfl) ?_
   refine OpsQ.yes (Want.plain rfl) rfl (OpR.call0 fn93 (tree_glue_int_c hx23) rfl) ?_
   refine OpsQ.yes (Want.plain rfl) rfl (OpR.call0 fn92 (tree_splice_tree_Node_int_c hx24) rfl) ?_
   refine OpsQ.yes (Want.plain rfl) rfl (OpR.call0 fn95 (tree_inner_int_c hx25) rfl) ?_
   refine OpsQ.yes (Want.plain rfl) rfl (OpR.pure rfl) ?_
   exact OpsQ.nil
 refine T.condT rfl (decide_eq_true c13) ?_
 refine T.seq ?_
 obtain ⟨x15, hx15, h0⟩ := bnd_some h0
 obtain ⟨x16, hx16, h0⟩ := bnd_some h0
 rw [o_tree_Node_int_eq hx16] at hx15
 obtain ⟨x17, hx17, h0⟩ := bnd_some h0
 obtain ⟨x18, hx18, h0⟩ := bnd_some h0
 obtain ⟨x19, hx19, h0⟩ := bnd_some h0
 refine T.drawQ drawsX [.nod [.sl 1 (List.map eNP a0), .sl 1 (List.map (eI .i64) a1), .val (.int .i64 a2)], .nod [.sl 1 (List.map eNP a0), .sl 1 (List.map (eI .i64) a1), .val (.int .i64 a2)], .nod [.sl 1 (List.map eNP a0), .sl 1 (List.map (eI .i64) a1), .val (.int .i64 a2)], .sl 1 (List.map eNP a0), .val (.int .i64 x5.1), .val (.int .i64 (w64 (x5.1 - 1))), .val (.int .i64 x5.1), .val (.int .i64 (w64 (x5.1 + 1))), .nod [.sl 1 (List.map eNP a0), .sl 1 (List.map (eI .i64) a1), .val (.int .i64 a2)], .nod [.sl 1 (List.map eNP a0), .sl 1 (List.map (eI .i64) a1), .val (.int .i64 a2)], .nod [.sl 1 (List.map eNP a0), .sl 1 (List.map (eI .i64) a1), .val (.int .i64 a2)], .sl 1 (List.map eNP a0), .val (.int .i64 x5.1), .val (.int .i64 (w64 (x5.1 - 1))), .nod [.nod [.sl 1 (List.map eNP x16.fKids), .sl 1 (List.map (eI .i64) x16.fItems), .val (.int .i64 x16.fN)]], .nod [.sl 1 (List.map eNP x16.fKids), .sl 1 (List.map (eI .i64) x16.fItems), .val (.int .i64 x16.fN)], .nod [.sl 1 (List.map eNP x8.1), .sl 1 (List.map (eI .i64) x8.2.1), .val (.int .i64 x8.2.2)], .sl 1 (List.map eNP x17), .sl 1 (List.map eNP x18), .nod [.sl 1 (List.map eNP x19.1), .sl 1 (List.map (eI .i64) x19.2.1), .val (.int .i64 x19.2.2)], .nod [.sl 1 (List.map eNP x19.1), .sl 1 (List.map (eI .i64) x19.2.1), .val (.int .i64 x19.2.2)]] [0, 1, 4, 5, 6, 7, 8, 9, 19, 20, 21, 22, 23, 24, 25, 26, 27, 28, 29, 30, 31, 32, 33, 34, 35, 36, 48, 49, 50, 51, 52, 53, 54, 55, 56, 57, 58, 59, 60, 61, 62, 63, 64, 65, 66, 67, 68, 69] (by decide +kernel) rfl ?_ rfl ?_
 rotate_left
 · show T X _ _ _
   refine T.ret ?_
   obtain rfl := Option.some.inj h0
   exact PostG.retP (ks := []) (Gst.only [4] rfl) undef (ResL.cons (ResV.tmp rfl) ResL.nil) rfl rfl rfl rfl
 refine OpsQ.yes (Want.plain rfl) rfl (OpR.pure rfl) ?_
 refine OpsQ.yes (Want.plain rfl) rfl (OpR.pure rfl) ?_
 refine OpsQ.yes (Want.plain rfl) rfl (OpR.pure rfl) ?_
 refine OpsQ.yes (Want.plain rfl) rfl (OpR.pure rfl) ?_
 refine OpsQ.yes (Want.plain rfl) rfl (OpR.pure rfl) ?_
 refine OpsQ.yes (Want.plain rfl) rfl (OpR.pure rfl) ?_
 refine OpsQ.yes (Want.plain rfl) rfl (OpR.pure rfl) ?_
 refine OpsQ.yes (Want.plain rfl) rfl (OpR.pure rfl) ?_
 refine OpsQ.yes (Want.plain rfl) rfl (OpR.pure rfl) ?_
 refine OpsQ.yes (Want.plain rfl) rfl (OpR.pure rfl) ?_
 refine OpsQ.yes (Want.plain rfl) rfl (OpR.pure rfl) ?_
 refine OpsQ.yes (Want.plain rfl) rfl (OpR.pure rfl) ?_
 refine OpsQ.yes (Want.plain rfl) rfl (OpR.pure rfl) ?_
 refine OpsQ.yes (Want.plain rfl) rfl (OpR.pure rfl) ?_
 refine OpsQ.yes (Want.plain rfl) rfl (OpR.indexM eNP hx15 rfl rfl rfl rfl rfl) ?_
 refine OpsQ.yes (Want.plain rfl) rfl (OpR.pure rfl) ?_
 refine OpsQ.yes (Want.plain rfl) rfl (OpR.pure rfl) ?_
 refine OpsQ.yes (Want.plain rfl) rfl (OpR.call0 fn93 (tree_glue_int_c hx17) rfl) ?_
 refine OpsQ.yes (Want.plain rfl) rfl (OpR.call0 fn92 (tree_splice_tree_Node_int_c hx18) rfl) ?_
 refine OpsQ.yes (Want.plain rfl) rfl (OpR.call0 fn95 (tree_inner_int_c hx19) rfl) ?_
 refine OpsQ.yes (Want.plain rfl) rfl (OpR.pure rfl) ?_
 exact OpsQ.nil
noncomputable def tree_Tree_int_Delete (a0 : tree_Tree_int) (a1 : Int) : Option (tree_Tree_int × Bool) :=
  bnd (tree_Tree_int_has a0 a1) fun x2 =>
  if x2 = true then
    bnd (some a0.fRoot) fun q4 => match q4 with
      | none =>
        none
      | some z5 =>
        bnd (o_tree_Node_int z5) fun x6 =>
        bnd (tree_Node_int_take 64 x6.fKids x6.fItems x6.fN a1) fun x7 =>
        bnd (tree_above_int [(c_tree_Node_int (⟨x7.1, x7.2.1, x7.2.2⟩ : tree_Node_int))]) fun x8 =>
        some (x8, true)
  else
    some (a0, false)
set_option maxHeartbeats 4000000 in
theorem tree_Tree_int_Delete_c {a0 : tree_Tree_int} {a1 : Int} {res : tree_Tree_int × Bool} (h0 : tree_Tree_int_Delete a0 a1 = some res) : CallF X 51 [.agg [(eOP a0.fRoot)], .val (.int .i64 a1)] [] (fun x => .tup [.agg [(eOP res.1.fRoot)], .val (.bool res.2)]) (fun x => []) := by
 unfold tree_Tree_int_Delete at h0
 refine CallF.mkG (X := X) rfl Try.func51 rfl rfl Try.ntmps51 rfl rfl ?_
 refine T.seq ?_
 refine T.region ?_
 refine TL.op1 (OpR.boxImm rfl rfl) rfl ?_
 refine TL.op (OpR.alloc rfl rfl (fun _ => rfl)) rfl (fun p1 => ?_)
 refine TL.op1 (OpR.pure rfl) rfl ?_
 refine TL.nil ?_
 show T X _ _ _
 refine T.seq ?_
 refine T.seq ?_
 refine T.region ?_
 refine TL.op1 (OpR.pure rfl) rfl ?_
 refine TL.op1 (OpR.pure rfl) rfl ?_
 obtain ⟨x2, hx2, h0⟩ := bnd_some h0
 refine TL.op1 (OpR.call0 fn79 (tree_Tree_int_has_c hx2) rfl) rfl ?_
 refine TL.op1 (OpR.pure rfl) rfl ?_
 refine TL.nil ?_
 show T X _ _ _
 rcases ite_some h0 with ⟨c3, h0⟩ | ⟨c3, h0⟩
 rotate_left
 · refine T.condT rfl (not_f (eq_false_of_ne_true c3)) ?_
   refine T.seq ?_
   refine T.region ?_
   refine TL.op1 (OpR.pure rfl) rfl ?_
   refine TL.op0 (OpR.store 0 rfl rfl rfl rfl rfl rfl rfl rfl) ?_
   refine TL.op1 (OpR.pure rfl) rfl ?_
   refine TL.nil ?_
   show T X _ _ _
   refine T.ret ?_
   obtain rfl := Option.some.inj h0
   exact PostG.retP (ks := []) (Gst.only [4, 5] rfl) undef (ResL.cons (ResV.var 0 rfl rfl rfl rfl) (ResL.cons (ResV.tmp rfl) ResL.nil)) rfl rfl rfl rfl
 refine T.condF rfl (not_t (c3)) ?_
 refine T.skip ?_
 show T X _ _ _
 refine T.seq ?_
 refine T.region ?_
 refine TL.op1 (OpR.pure rfl) rfl ?_
 obtain ⟨q4, hq4, h0⟩ := bnd_some h0
 rcases q4 with _ | z5
 · dsimp only at h0
   refine TL.op1 (OpR.cast (OpR.pure rfl) (congrArg eOP (Option.some.inj hq4))) rfl ?_
   refine TL.op1 (OpR.pure rfl) rfl ?_
   exact (by cases h0)
 dsimp only at h0
 obtain ⟨x6, hx6, h0⟩ := bnd_some h0
 rw [o_tree_Node_int_eq hx6] at hq4
 refine TL.op1 (OpR.cast (OpR.pure rfl) (congrArg eOP (Option.some.inj hq4))) rfl ?_
 refine TL.op1 (OpR.pure rfl) rfl ?_
 obtain ⟨x7, hx7, h0⟩ := bnd_some h0
 refine TL.op1 (OpR.call0 fn80 (tree_Node_int_take_c hx7) rfl) rfl ?_
 refine TL.op1 (OpR.lit rfl rfl rfl rfl rfl rfl rfl) rfl ?_
 obtain ⟨x8, hx8, h0⟩ := bnd_some h0
 refine TL.op1 (OpR.call0 fn43 (tree_above_int_c hx8) rfl) rfl ?_
 refine TL.op0 (OpR.store 0 rfl rfl rfl rfl rfl rfl rfl rfl) ?_
 refine TL.op1 (OpR.pure rfl) rfl ?_
 refine TL.nil ?_
 show T X _ _ _
 refine T.ret ?_
 obtain rfl := Option.some.inj h0
 exact PostG.retP (ks := []) (Gst.only [4, 5] rfl) undef (ResL.cons (ResV.var 0 rfl rfl rfl rfl) (ResL.cons (ResV.tmp rfl) ResL.nil)) rfl rfl rfl rfl
noncomputable def ref09_Delete.l1 (a0 : List Int) (a1 : Int) (s7 : Int × (List Int)) : Option (Lp (Int × (List Int)) (List Int)) :=
  if s7.1 < (a0.length : Int) then
    bnd (idx a0 s7.1) fun x16 =>
    bnd (if s7.1 = a1 then
      some s7.2
    else
      bnd (app 8 s7.2 [x16]) fun x20 =>
      some x20 : Option (List Int)) fun t17 =>
    some (Lp.next (w64 (s7.1 + 1), t17))
  else
    some (Lp.done s7.2)
noncomputable def ref09_Delete (a0 : List Int) (a1 : Int) : Option ((List Int) × Bool) :=
  bnd (if a1 < 0 then
    some true
  else
    some (decide (a1 ≥ (a0.length : Int))) : Option Bool) fun t1 =>
  if t1 = true then
    some (a0, false)
  else
    bnd (loop (ref09_Delete.l1 a0 a1) (0, []) : Option (List Int)) fun t4 =>
    some (t4, true)
set_option maxHeartbeats 4000000 in
theorem ref09_Delete_c {a0 : List Int} {a1 : Int} {res : (List Int) × Bool} (h0 : ref09_Delete a0 a1 = some res) : CallF X 52 [.sl 1 (List.map (eI .i64) a0), .val (.int .i64 a1)] [] (fun x => .tup [.sl 1 (List.map (eI .i64) res.1), .val (.bool res.2)]) (fun x => []) := by
 unfold ref09_Delete at h0
 refine CallF.mkG (X := X) rfl Try.func52 rfl rfl Try.ntmps52 rfl rfl ?_
 refine T.seq ?_
 refine T.region ?_
 refine TL.op1 (OpR.pure rfl) rfl ?_
 refine TL.op1 (OpR.pure rfl) rfl ?_
 refine TL.nil ?_
 show T X _ _ _
 refine T.seq ?_
 refine T.seq ?_
 obtain ⟨t1, ht1, h0⟩ := bnd_some h0
 refine T.cutC (fun S' => S' = ⟨[(16, .val (.bool t1)), (5, .val (.bool false)), (4, .val (.slice none 0 0)), (1, .val (.int .i64 a1)), (0, .sl 1 (List.map (eI .i64) a0))], [], 34⟩) (fun _ h => h) ?_ ?_
 · refine T.region ?_
   refine TL.op1 (OpR.pure rfl) rfl ?_
   refine TL.op1 (OpR.pure rfl) rfl ?_
   refine TL.op1 (OpR.pure rfl) rfl ?_
   rcases ite_some ht1 with ⟨c2, ht1⟩ | ⟨c2, ht1⟩
   · refine TL.off rfl rfl rfl rfl (decide_eq_true c2) rfl rfl ?_
     refine TL.off rfl rfl rfl rfl (decide_eq_true c2) rfl rfl ?_
     refine TL.off rfl rfl rfl rfl (decide_eq_true c2) rfl rfl ?_
     refine TL.off rfl rfl rfl rfl (decide_eq_true c2) rfl rfl ?_
     refine TL.op1 (OpR.pickT rfl (decide_eq_true c2) rfl) rfl ?_
     refine TL.nil ?_
     obtain rfl := Option.some.inj ht1
     exact ⟨_, Gst.only [0, 1, 4, 5, 16] rfl, rfl⟩
   refine TL.on rfl rfl rfl rfl (decide_eq_false c2) ?_
   refine TL.op1 (OpR.pure rfl) rfl ?_
   refine TL.on rfl rfl rfl rfl (decide_eq_false c2) ?_
   refine TL.op1 (OpR.pure rfl) rfl ?_
   refine TL.on rfl rfl rfl rfl (decide_eq_false c2) ?_
   refine TL.op1 (OpR.cast (OpR.pure rfl) (intE (lenM _ _))) rfl ?_
   refine TL.on rfl rfl rfl rfl (decide_eq_false c2) ?_
   refine TL.op1 (OpR.pure rfl) rfl ?_
   refine TL.op1 (OpR.pickF rfl (decide_eq_false c2) rfl) rfl ?_
   refine TL.nil ?_
   obtain rfl := Option.some.inj ht1
   exact ⟨_, Gst.only [0, 1, 4, 5, 16] rfl, rfl⟩
 rintro _ rfl
 show T X _ _ _
 rcases ite_some h0 with ⟨c3, h0⟩ | ⟨c3, h0⟩
 · refine T.condT rfl (c3) ?_
   refine T.seq ?_
   refine T.region ?_
   refine TL.op1 (OpR.pure rfl) rfl ?_
   refine TL.op1 (OpR.pure rfl) rfl ?_
   refine TL.op1 (OpR.pure rfl) rfl ?_
   refine TL.nil ?_
   show T X _ _ _
   refine T.ret ?_
   obtain rfl := Option.some.inj h0
   exact PostG.retP (ks := []) (Gst.only [4, 5] rfl) undef (ResL.cons (ResV.tmp rfl) (ResL.cons (ResV.tmp rfl) ResL.nil)) rfl rfl rfl rfl
 refine T.condF rfl (eq_false_of_ne_true c3) ?_
 refine T.skip ?_
 show T X _ _ _
 refine T.seq ?_
 refine T.region ?_
 refine TL.op1 (OpR.pure rfl) rfl ?_
 refine TL.nil ?_
 show T X _ _ _
 refine T.seq ?_
 refine T.seq ?_
 refine T.region ?_
 refine TL.op1 (OpR.pure rfl) rfl ?_
 refine TL.op1 (OpR.cast (OpR.pure rfl) (intE (lenM _ _))) rfl ?_
 refine TL.op1 (OpR.pure rfl) rfl ?_
 refine TL.nil ?_
 show T X _ _ _
 obtain ⟨t4, ht4, h0⟩ := bnd_some h0
 refine T.cutC (fun S' => ∃ y5 : Value, S' = ⟨[(6, .val y5), (5, .val (.bool false)), (4, .val (.slice none 0 0))], [.row y5 (List.map (eI .i64) t4) 1 3], 34⟩) (fun _ h => h) ?_ ?_
 rotate_left
 · rintro _ ⟨y5, rfl⟩
   show T X _ _ _
   refine T.seq ?_
   refine T.region ?_
   refine TL.op1 (OpR.pure rfl) rfl ?_
   refine TL.op1 (OpR.pure rfl) rfl ?_
   refine TL.op1 (OpR.pure rfl) rfl ?_
   refine TL.nil ?_
   show T X _ _ _
   refine T.ret ?_
   obtain rfl := Option.some.inj h0
   exact PostG.retP (ks := []) (Gst.trans (Gst.only [4, 5] rfl) (Gst.trans (Gst.freezeRow 0 rfl rfl (ReS.cons Re.refl (ReS.cons (Re.base .all) ReS.nil)) (ReO.same ReO.nil)) (Gst.pick [] rfl rfl))) undef (ResL.cons (ResV.tmp rfl) (ResL.cons (ResV.tmp rfl) ResL.nil)) rfl rfl rfl rfl
 refine T.block ?_
 obtain ⟨n8, n13⟩ := loop_some ht4
 refine T.loop (fun n S' => ∃ S'', Gst S' S'' ∧ ∃ y6 : Value, ∃ s7 : Int × (List Int), S'' = ⟨[(20, .val (.int .i64 s7.1)), (19, .val (.int .i64 (a0.length : Int))), (18, .sl 1 (List.map (eI .i64) a0)), (6, .val y6), (5, .val (.bool false)), (4, .val (.slice none 0 0)), (1, .val (.int .i64 a1))], [.row y6 (List.map (eI .i64) s7.2) 1 3], 34⟩ ∧ iter (ref09_Delete.l1 a0 a1) n s7 = some t4) n8 ?_ ?_
 · exact ⟨_, Gst.trans (Gst.only [1, 4, 5, 6, 18, 19, 20] rfl) (Gst.nilRow (ow := []) 1 3 rfl), (.slice none 0 0), (0, []), rfl, n13⟩
 rintro n8 _ ⟨_, g, y6, s7, rfl, i12⟩
 refine T.ghost g ?_
 obtain ⟨m9, q10, rfl, q11, i12⟩ := iter_succ i12
 unfold ref09_Delete.l1 at q11
 refine T.seq ?_
 refine T.region ?_
 refine TL.op1 (OpR.pure rfl) rfl ?_
 refine TL.nil ?_
 show T X _ _ _
 refine T.seq ?_
 rcases ite_some q11 with ⟨c15, q11⟩ | ⟨c15, q11⟩
 rotate_left
 · refine T.condF rfl (decide_eq_false c15) ?_
   refine T.exit ?_
   obtain rfl := Option.some.inj q11
   obtain rfl : _ = _ := i12
   exact ⟨_, Gst.only [4, 5, 6] rfl, y6, rfl⟩
 refine T.condT rfl (decide_eq_true c15) ?_
 refine T.skip ?_
 show T X _ _ _
 refine T.seq ?_
 refine T.block ?_
 refine T.seq ?_
 refine T.region ?_
 refine TL.op1 (OpR.pure rfl) rfl ?_
 obtain ⟨x16, hx16, q11⟩ := bnd_some q11
 refine TL.op1 (OpR.indexM (eI .i64) hx16 rfl rfl rfl rfl rfl) rfl ?_
 refine TL.op1 (OpR.pure rfl) rfl ?_
 refine TL.op1 (OpR.pure rfl) rfl ?_
 refine TL.op1 (OpR.pure rfl) rfl ?_
 refine TL.nil ?_
 show T X _ _ _
 refine T.seq ?_
 refine T.region ?_
 refine TL.op1 (OpR.pure rfl) rfl ?_
 refine TL.op1 (OpR.pure rfl) rfl ?_
 refine TL.op1 (OpR.pure rfl) rfl ?_
 refine TL.nil ?_
 show T X _ _ _
 obtain ⟨t17, ht17, q11⟩ := bnd_some q11
 refine T.cutC (fun S' => ∃ y18 : Value, S' = ⟨[(20, .val (.int .i64 s7.1)), (19, .val (.int .i64 (a0.length : Int))), (18, .sl 1 (List.map (eI .i64) a0)), (6, .val y18), (5, .val (.bool false)), (4, .val (.slice none 0 0)), (1, .val (.int .i64 a1))], [.row y18 (List.map (eI .i64) t17) 1 3], 34⟩) (fun _ h => h) ?_ ?_
 rotate_left
 · rintro _ ⟨y18, rfl⟩
   show T X _ _ _
   refine T.region ?_
   refine TL.op1 (OpR.pure rfl) rfl ?_
   refine TL.op1 (OpR.pure rfl) rfl ?_
   refine TL.nil ?_
   obtain rfl := Option.some.inj q11
   exact ⟨m9, Nat.lt_succ_self _, _, Gst.only [1, 4, 5, 6, 18, 19, 20] rfl, y18, (w64 (s7.1 + 1), t17), rfl, i12⟩
 rcases ite_some ht17 with ⟨c19, ht17⟩ | ⟨c19, ht17⟩
 · refine T.condF rfl (not_t (beq_iff_eq.2 c19)) ?_
   refine T.skip ?_
   obtain rfl := Option.some.inj ht17
   exact ⟨_, Gst.only [1, 4, 5, 6, 18, 19, 20] rfl, y6, rfl⟩
 refine T.condT rfl (not_f (beq_eq_false_iff_ne.2 c19)) ?_
 refine T.region ?_
 refine TL.op1 (OpR.pure rfl) rfl ?_
 refine TL.op1 (OpR.pure rfl) rfl ?_
 refine TL.op1 (OpR.lit rfl rfl rfl rfl rfl rfl rfl) rfl ?_
 obtain ⟨x20, hx20, ht17⟩ := bnd_some ht17
 refine TL.op (OpR.appendM (m := [x16]) (eI .i64) 0 hx20 rfl rfl rfl rfl rfl rfl rfl rfl rfl (fun _ => rfl)) rfl (fun v21 => ?_)
 refine TL.op1 (OpR.pure rfl) rfl ?_
 refine TL.nil ?_
 obtain rfl := Option.some.inj ht17
 exact ⟨_, Gst.only [1, 4, 5, 6, 18, 19, 20] rfl, v21, rfl⟩
noncomputable def tree_Node_int_set.body (self : (List NP) → (List Int) → Int → Int → Int → Option ((List NP) × (List Int) × Int)) (a0 : List NP) (a1 : List Int) (a2 : Int) (a3 : Int) (a4 : Int) : Option ((List NP) × (List Int) × Int) :=
  bnd (tree_Node_int_flat a0 a1 a2) fun x1 =>
  if x1 = true then
    bnd (tree_splice_int a1 a3 (w64 (a3 + 1)) [a4]) fun x3 =>
    bnd (tree_leaf_int x3) fun x4 =>
    some (x4.1, x4.2.1, x4.2.2)
  else
    bnd (tree_Node_int_kid a0 a1 a2 a3) fun x5 =>
    bnd (idx a0 x5.1) fun x7 =>
    bnd (o_tree_Node_int x7) fun x8 =>
    bnd (self x8.fKids x8.fItems x8.fN x5.2 a4) fun x9 =>
    bnd (tree_splice_tree_Node_int a0 x5.1 (w64 (x5.1 + 1)) [(c_tree_Node_int (⟨x9.1, x9.2.1, x9.2.2⟩ : tree_Node_int))]) fun x10 =>
    bnd (tree_inner_int x10) fun x11 =>
    some (x11.1, x11.2.1, x11.2.2)
noncomputable def tree_Node_int_set : Nat → (List NP) → (List Int) → Int → Int → Int → Option ((List NP) × (List Int) × Int)
  | 0 => fun _ _ _ _ _ => none
  | n + 1 => tree_Node_int_set.body (tree_Node_int_set n)
set_option maxHeartbeats 4000000 in
theorem tree_Node_int_set_c {fu : Nat} {a0 : List NP} {a1 : List Int} {a2 : Int} {a3 : Int} {a4 : Int} {res : (List NP) × (List Int) × Int} (h0 : tree_Node_int_set fu a0 a1 a2 a3 a4 = some res) : CallF X 81 [.nod [.sl 1 (List.map eNP a0), .sl 1 (List.map (eI .i64) a1), .val (.int .i64 a2)], .val (.int .i64 a3), .val (.int .i64 a4)] [] (fun x => .nod [.sl 1 (List.map eNP res.1), .sl 1 (List.map (eI .i64) res.2.1), .val (.int .i64 res.2.2)]) (fun x => []) := by
 induction fu generalizing a0 a1 a2 a3 a4 res
 · exact nomatch h0
 rename_i fu ih
 replace h0 : tree_Node_int_set.body (tree_Node_int_set fu) a0 a1 a2 a3 a4 = some res := h0
 unfold tree_Node_int_set.body at h0
 refine CallF.mkG (X := X) rfl Try.func81 rfl rfl Try.ntmps81 rfl rfl ?_
 refine T.seq ?_
 refine T.region ?_
 refine TL.op1 (OpR.pure rfl) rfl ?_
 refine TL.nil ?_
 show T X _ _ _
 refine T.seq ?_
 refine T.seq ?_
 refine T.region ?_
 refine TL.op1 (OpR.pure rfl) rfl ?_
 obtain ⟨x1, hx1, h0⟩ := bnd_some h0
 refine TL.op1 (OpR.call0 fn82 (tree_Node_int_flat_c hx1) rfl) rfl ?_
 refine TL.nil ?_
 show T X _ _ _
 rcases ite_some h0 with ⟨c2, h0⟩ | ⟨c2, h0⟩
 · refine T.condT rfl (c2) ?_
   refine T.seq ?_
   refine T.region ?_
   refine TL.op1 (OpR.pure rfl) rfl ?_
   refine TL.op1 (OpR.pure rfl) rfl ?_
   refine TL.op1 (OpR.pure rfl) rfl ?_
   refine TL.op1 (OpR.pure rfl) rfl ?_
   refine TL.op1 (OpR.pure rfl) rfl ?_
   refine TL.op1 (OpR.pure rfl) rfl ?_
   refine TL.op1 (OpR.pure rfl) rfl ?_
   refine TL.op1 (OpR.pure rfl) rfl ?_
   refine TL.op1 (OpR.lit rfl rfl rfl rfl rfl rfl rfl) rfl ?_
   obtain ⟨x3, hx3, h0⟩ := bnd_some h0
   refine TL.op1 (OpR.call0 fn96 (tree_splice_int_c hx3) rfl) rfl ?_
   obtain ⟨x4, hx4, h0⟩ := bnd_some h0
   refine TL.op1 (OpR.call0 fn76 (tree_leaf_int_c hx4) rfl) rfl ?_
   refine TL.op1 (OpR.pure rfl) rfl ?_
   refine TL.nil ?_
   show T X _ _ _
   refine T.ret ?_
   obtain rfl := Option.some.inj h0
   exact PostG.retP (ks := []) (Gst.only [6] rfl) undef (ResL.cons (ResV.tmp rfl) ResL.nil) rfl rfl rfl rfl
 refine T.condF rfl (eq_false_of_ne_true c2) ?_
 refine T.skip ?_
 show T X _ _ _
 refine T.seq ?_
 refine T.region ?_
 refine TL.op1 (OpR.pure rfl) rfl ?_
 refine TL.op1 (OpR.pure rfl) rfl ?_
 obtain ⟨x5, hx5, h0⟩ := bnd_some h0
 refine TL.op1 (OpR.call0 fn83 (tree_Node_int_kid_c hx5) rfl) rfl ?_
 refine TL.op1 (OpR.pure rfl) rfl ?_
 refine TL.op1 (OpR.pure rfl) rfl ?_
 refine TL.op1 (OpR.pure rfl) rfl ?_
 refine TL.op1 (OpR.pure rfl) rfl ?_
 refine TL.op1 (OpR.pure rfl) rfl ?_
 refine TL.nil ?_
 show T X _ _ _
 refine T.seq ?_
 obtain ⟨x7, hx7, h0⟩ := bnd_some h0
 obtain ⟨x8, hx8, h0⟩ := bnd_some h0
 rw [o_tree_Node_int_eq hx8] at hx7
 obtain ⟨x9, hx9, h0⟩ := bnd_some h0
 obtain ⟨x10, hx10, h0⟩ := bnd_some h0
 obtain ⟨x11, hx11, h0⟩ := bnd_some h0
 refine T.drawQ drawsX [.nod [.sl 1 (List.map eNP a0), .sl 1 (List.map (eI .i64) a1), .val (.int .i64 a2)], .nod [.sl 1 (List.map eNP a0), .sl 1 (List.map (eI .i64) a1), .val (.int .i64 a2)], .nod [.sl 1 (List.map eNP a0), .sl 1 (List.map (eI .i64) a1), .val (.int .i64 a2)], .sl 1 (List.map eNP a0), .val (.int .i64 x5.1), .val (.int .i64 x5.1), .val (.int .i64 (w64 (x5.1 + 1))), .nod [.sl 1 (List.map eNP a0), .sl 1 (List.map (eI .i64) a1), .val (.int .i64 a2)], .nod [.sl 1 (List.map eNP a0), .sl 1 (List.map (eI .i64) a1), .val (.int .i64 a2)], .nod [.sl 1 (List.map eNP a0), .sl 1 (List.map (eI .i64) a1), .val (.int .i64 a2)], .sl 1 (List.map eNP a0), .val (.int .i64 x5.1), .nod [.nod [.sl 1 (List.map eNP x8.fKids), .sl 1 (List.map (eI .i64) x8.fItems), .val (.int .i64 x8.fN)]], .nod [.sl 1 (List.map eNP x8.fKids), .sl 1 (List.map (eI .i64) x8.fItems), .val (.int .i64 x8.fN)], .val (.int .i64 x5.2), .val (.int .i64 a4), .nod [.sl 1 (List.map eNP x9.1), .sl 1 (List.map (eI .i64) x9.2.1), .val (.int .i64 x9.2.2)], .sl 1 (List.map eNP [(c_tree_Node_int (⟨x9.1, x9.2.1, x9.2.2⟩ : tree_Node_int))]), .sl 1 (List.map eNP x10), .nod [.sl 1 (List.map eNP x11.1), .sl 1 (List.map (eI .i64) x11.2.1), .val (.int .i64 x11.2.2)], .nod [.sl 1 (List.map eNP x11.1), .sl 1 (List.map (eI .i64) x11.2.1), .val (.int .i64 x11.2.2)]] [0, 1, 2, 6, 7, 8, 9, 10, 22, 23, 24, 25, 26, 27, 28, 29, 30, 31, 32, 33, 34, 35, 36, 37, 38, 39, 40, 41, 42, 43, 44, 45, 46, 47] (by decide +kernel) rfl ?_ rfl ?_
 rotate_left
 · show T X _ _ _
   refine T.ret ?_
   obtain rfl := Option.some.inj h0
   exact PostG.retP (ks := []) (Gst.only [6] rfl) undef (ResL.cons (ResV.tmp rfl) ResL.nil) rfl rfl rfl rfl
 refine OpsQ.yes (Want.plain rfl) rfl (OpR.pure rfl) ?_
 refine OpsQ.yes (Want.plain rfl) rfl (OpR.pure rfl) ?_
 refine OpsQ.yes (Want.plain rfl) rfl (OpR.pure rfl) ?_
 refine OpsQ.yes (Want.plain rfl) rfl (OpR.pure rfl) ?_
 refine OpsQ.yes (Want.plain rfl) rfl (OpR.pure rfl) ?_
 refine OpsQ.yes (Want.plain rfl) rfl (OpR.pure rfl) ?_
 refine OpsQ.yes (Want.plain rfl) rfl (OpR.pure rfl) ?_
 refine OpsQ.yes (Want.plain rfl) rfl (OpR.pure rfl) ?_
 refine OpsQ.yes (Want.plain rfl) rfl (OpR.pure rfl) ?_
 refine OpsQ.yes (Want.plain rfl) rfl (OpR.pure rfl) ?_
 refine OpsQ.yes (Want.plain rfl) rfl (OpR.pure rfl) ?_
 refine OpsQ.yes (Want.plain rfl) rfl (OpR.pure rfl) ?_
 refine OpsQ.yes (Want.plain rfl) rfl (OpR.indexM eNP hx7 rfl rfl rfl rfl rfl) ?_
 refine OpsQ.yes (Want.plain rfl) rfl (OpR.pure rfl) ?_
 refine OpsQ.yes (Want.plain rfl) rfl (OpR.pure rfl) ?_
 refine OpsQ.yes (Want.plain rfl) rfl (OpR.pure rfl) ?_
 refine OpsQ.yes (Want.plain rfl) rfl (OpR.call0 fn81 (ih hx9) rfl) ?_
 refine OpsQ.yes (Want.plain rfl) rfl (OpR.lit rfl rfl rfl rfl rfl rfl rfl) ?_
 refine OpsQ.yes (Want.plain rfl) rfl (OpR.call0 fn92 (tree_splice_tree_Node_int_c hx10) rfl) ?_
 refine OpsQ.yes (Want.plain rfl) rfl (OpR.call0 fn95 (tree_inner_int_c hx11) rfl) ?_
 refine OpsQ.yes (Want.plain rfl) rfl (OpR.pure rfl) ?_
 exact OpsQ.nil
noncomputable def tree_Tree_int_Set (a0 : tree_Tree_int) (a1 : Int) (a2 : Int) : Option (tree_Tree_int × Bool) :=
  bnd (tree_Tree_int_has a0 a1) fun x2 =>
  if x2 = true then
    bnd (some a0.fRoot) fun q4 => match q4 with
      | none =>
        none
      | some z5 =>
        bnd (o_tree_Node_int z5) fun x6 =>
        bnd (tree_Node_int_set 64 x6.fKids x6.fItems x6.fN a1 a2) fun x7 =>
        some ((⟨(some (c_tree_Node_int (⟨x7.1, x7.2.1, x7.2.2⟩ : tree_Node_int)))⟩ : tree_Tree_int), true)
  else
    some (a0, false)
set_option maxHeartbeats 4000000 in
theorem tree_Tree_int_Set_c {a0 : tree_Tree_int} {a1 : Int} {a2 : Int} {res : tree_Tree_int × Bool} (h0 : tree_Tree_int_Set a0 a1 a2 = some res) : CallF X 53 [.agg [(eOP a0.fRoot)], .val (.int .i64 a1), .val (.int .i64 a2)] [] (fun x => .tup [.agg [(eOP res.1.fRoot)], .val (.bool res.2)]) (fun x => []) := by
 unfold tree_Tree_int_Set at h0
 refine CallF.mkG (X := X) rfl Try.func53 rfl rfl Try.ntmps53 rfl rfl ?_
 refine T.seq ?_
 refine T.region ?_
 refine TL.op1 (OpR.boxImm rfl rfl) rfl ?_
 refine TL.op (OpR.alloc rfl rfl (fun _ => rfl)) rfl (fun p1 => ?_)
 refine TL.op1 (OpR.pure rfl) rfl ?_
 refine TL.nil ?_
 show T X _ _ _
 refine T.seq ?_
 refine T.seq ?_
 refine T.region ?_
 refine TL.op1 (OpR.pure rfl) rfl ?_
 refine TL.op1 (OpR.pure rfl) rfl ?_
 obtain ⟨x2, hx2, h0⟩ := bnd_some h0
 refine TL.op1 (OpR.call0 fn79 (tree_Tree_int_has_c hx2) rfl) rfl ?_
 refine TL.op1 (OpR.pure rfl) rfl ?_
 refine TL.nil ?_
 show T X _ _ _
 rcases ite_some h0 with ⟨c3, h0⟩ | ⟨c3, h0⟩
 rotate_left
 · refine T.condT rfl (not_f (eq_false_of_ne_true c3)) ?_
   refine T.seq ?_
   refine T.region ?_
   refine TL.op1 (OpR.pure rfl) rfl ?_
   refine TL.op0 (OpR.store 0 rfl rfl rfl rfl rfl rfl rfl rfl) ?_
   refine TL.op1 (OpR.pure rfl) rfl ?_
   refine TL.nil ?_
   show T X _ _ _
   refine T.ret ?_
   obtain rfl := Option.some.inj h0
   exact PostG.retP (ks := []) (Gst.only [6, 7] rfl) undef (ResL.cons (ResV.var 0 rfl rfl rfl rfl) (ResL.cons (ResV.tmp rfl) ResL.nil)) rfl rfl rfl rfl
 refine T.condF rfl (not_t (c3)) ?_
 refine T.skip ?_
 show T X _ _ _
 refine T.seq ?_
 refine T.region ?_
 refine TL.op1 (OpR.pure rfl) rfl ?_
 obtain ⟨q4, hq4, h0⟩ := bnd_some h0
 rcases q4 with _ | z5
 · dsimp only at h0
   refine TL.op1 (OpR.cast (OpR.pure rfl) (congrArg eOP (Option.some.inj hq4))) rfl ?_
   refine TL.op1 (OpR.pure rfl) rfl ?_
   refine TL.op1 (OpR.pure rfl) rfl ?_
   exact (by cases h0)
 dsimp only at h0
 obtain ⟨x6, hx6, h0⟩ := bnd_some h0
 rw [o_tree_Node_int_eq hx6] at hq4
 refine TL.op1 (OpR.cast (OpR.pure rfl) (congrArg eOP (Option.some.inj hq4))) rfl ?_
 refine TL.op1 (OpR.pure rfl) rfl ?_
 refine TL.op1 (OpR.pure rfl) rfl ?_
 obtain ⟨x7, hx7, h0⟩ := bnd_some h0
 refine TL.op1 (OpR.call0 fn81 (tree_Node_int_set_c hx7) rfl) rfl ?_
 refine TL.op1 (OpR.build rfl rfl rfl rfl rfl) rfl ?_
 refine TL.op0 (OpR.store 0 rfl rfl rfl rfl rfl rfl rfl rfl) ?_
 refine TL.op1 (OpR.pure rfl) rfl ?_
 refine TL.nil ?_
 show T X _ _ _
 refine T.ret ?_
 obtain rfl := Option.some.inj h0
 exact PostG.retP (ks := []) (Gst.only [6, 7] rfl) undef (ResL.cons (ResV.var 0 rfl rfl rfl rfl) (ResL.cons (ResV.tmp rfl) ResL.nil)) rfl rfl rfl rfl
noncomputable def ref09_Set.l1 (a0 : List Int) (a1 : Int) (a2 : Int) (s7 : Int × (List Int)) : Option (Lp (Int × (List Int)) (List Int)) :=
  if s7.1 < (a0.length : Int) then
    bnd (idx a0 s7.1) fun x16 =>
    bnd (if s7.1 = a1 then
      some a2
    else
      some x16 : Option Int) fun t17 =>
    bnd (app 8 s7.2 [t17]) fun x19 =>
    some (Lp.next (w64 (s7.1 + 1), x19))
  else
    some (Lp.done s7.2)
noncomputable def ref09_Set (a0 : List Int) (a1 : Int) (a2 : Int) : Option ((List Int) × Bool) :=
  bnd (if a1 < 0 then
    some true
  else
    some (decide (a1 ≥ (a0.length : Int))) : Option Bool) fun t1 =>
  if t1 = true then
    some (a0, false)
  else
    bnd (loop (ref09_Set.l1 a0 a1 a2) (0, []) : Option (List Int)) fun t4 =>
    some (t4, true)
set_option maxHeartbeats 4000000 in
theorem ref09_Set_c {a0 : List Int} {a1 : Int} {a2 : Int} {res : (List Int) × Bool} (h0 : ref09_Set a0 a1 a2 = some res) : CallF X 54 [.sl 1 (List.map (eI .i64) a0), .val (.int .i64 a1), .val (.int .i64 a2)] [] (fun x => .tup [.sl 1 (List.map (eI .i64) res.1), .val (.bool res.2)]) (fun x => []) := by
 unfold ref09_Set at h0
 refine CallF.mkG (X := X) rfl Try.func54 rfl rfl Try.ntmps54 rfl rfl ?_
 refine T.seq ?_
 refine T.region ?_
 refine TL.op1 (OpR.pure rfl) rfl ?_
 refine TL.op1 (OpR.pure rfl) rfl ?_
 refine TL.nil ?_
 show T X _ _ _
 refine T.seq ?_
 refine T.seq ?_
 obtain ⟨t1, ht1, h0⟩ := bnd_some h0
 refine T.cutC (fun S' => S' = ⟨[(18, .val (.bool t1)), (7, .val (.bool false)), (6, .val (.slice none 0 0)), (2, .val (.int .i64 a2)), (1, .val (.int .i64 a1)), (0, .sl 1 (List.map (eI .i64) a0))], [], 37⟩) (fun _ h => h) ?_ ?_
 · refine T.region ?_
   refine TL.op1 (OpR.pure rfl) rfl ?_
   refine TL.op1 (OpR.pure rfl) rfl ?_
   refine TL.op1 (OpR.pure rfl) rfl ?_
   rcases ite_some ht1 with ⟨c2, ht1⟩ | ⟨c2, ht1⟩
   · refine TL.off rfl rfl rfl rfl (decide_eq_true c2) rfl rfl ?_
     refine TL.off rfl rfl rfl rfl (decide_eq_true c2) rfl rfl ?_
     refine TL.off rfl rfl rfl rfl (decide_eq_true c2) rfl rfl ?_
     refine TL.off rfl rfl rfl rfl (decide_eq_true c2) rfl rfl ?_
     refine TL.op1 (OpR.pickT rfl (decide_eq_true c2) rfl) rfl ?_
     refine TL.nil ?_
     obtain rfl := Option.some.inj ht1
     exact ⟨_, Gst.only [0, 1, 2, 6, 7, 18] rfl, rfl⟩
   refine TL.on rfl rfl rfl rfl (decide_eq_false c2) ?_
   refine TL.op1 (OpR.pure rfl) rfl ?_
   refine TL.on rfl rfl rfl rfl (decide_eq_false c2) ?_
   refine TL.op1 (OpR.pure rfl) rfl ?_
   refine TL.on rfl rfl rfl rfl (decide_eq_false c2) ?_
   refine TL.op1 (OpR.cast (OpR.pure rfl) (intE (lenM _ _))) rfl ?_
   refine TL.on rfl rfl rfl rfl (decide_eq_false c2) ?_
   refine TL.op1 (OpR.pure rfl) rfl ?_
   refine TL.op1 (OpR.pickF rfl (decide_eq_false c2) rfl) rfl ?_
   refine TL.nil ?_
   obtain rfl := Option.some.inj ht1
   exact ⟨_, Gst.only [0, 1, 2, 6, 7, 18] rfl, rfl⟩
 rintro _ rfl
 show T X _ _ _
 rcases ite_some h0 with ⟨c3, h0⟩ | ⟨c3, h0⟩
 · refine T.condT rfl (c3) ?_
   refine T.seq ?_
   refine T.region ?_
   refine TL.op1 (OpR.pure rfl) rfl ?_
   refine TL.op1 (OpR.pure rfl) rfl ?_
   refine TL.op1 (OpR.pure rfl) rfl ?_
   refine TL.nil ?_
   show T X _ _ _
   refine T.ret ?_
   obtain rfl := Option.some.inj h0
   exact PostG.retP (ks := []) (Gst.only [6, 7] rfl) undef (ResL.cons (ResV.tmp rfl) (ResL.cons (ResV.tmp rfl) ResL.nil)) rfl rfl rfl rfl
 refine T.condF rfl (eq_false_of_ne_true c3) ?_
 refine T.skip ?_
 show T X _ _ _
 refine T.seq ?_
 refine T.region ?_
 refine TL.op1 (OpR.pure rfl) rfl ?_
 refine TL.nil ?_
 show T X _ _ _
 refine T.seq ?_
 refine T.seq ?_
 refine T.region ?_
 refine TL.op1 (OpR.pure rfl) rfl ?_
 refine TL.op1 (OpR.cast (OpR.pure rfl) (intE (lenM _ _))) rfl ?_
 refine TL.op1 (OpR.pure rfl) rfl ?_
 refine TL.nil ?_
 show T X _ _ _
 obtain ⟨t4, ht4, h0⟩ := bnd_some h0
 refine T.cutC (fun S' => ∃ y5 : Value, S' = ⟨[(8, .val y5), (7, .val (.bool false)), (6, .val (.slice none 0 0))], [.row y5 (List.map (eI .i64) t4) 1 3], 37⟩) (fun _ h => h) ?_ ?_
 rotate_left
 · rintro _ ⟨y5, rfl⟩
   show T X _ _ _
   refine T.seq ?_
   refine T.region ?_
   refine TL.op1 (OpR.pure rfl) rfl ?_
   refine TL.op1 (OpR.pure rfl) rfl ?_
   refine TL.op1 (OpR.pure rfl) rfl ?_
   refine TL.nil ?_
   show T X _ _ _
   refine T.ret ?_
   obtain rfl := Option.some.inj h0
   exact PostG.retP (ks := []) (Gst.trans (Gst.only [6, 7] rfl) (Gst.trans (Gst.freezeRow 0 rfl rfl (ReS.cons Re.refl (ReS.cons (Re.base .all) ReS.nil)) (ReO.same ReO.nil)) (Gst.pick [] rfl rfl))) undef (ResL.cons (ResV.tmp rfl) (ResL.cons (ResV.tmp rfl) ResL.nil)) rfl rfl rfl rfl
 refine T.block ?_
 obtain ⟨n8, n13⟩ := loop_some ht4
 refine T.loop (fun n S' => ∃ S'', Gst S' S'' ∧ ∃ y6 : Value, ∃ s7 : Int × (List Int), S'' = ⟨[(22, .val (.int .i64 s7.1)), (21, .val (.int .i64 (a0.length : Int))), (20, .sl 1 (List.map (eI .i64) a0)), (8, .val y6), (7, .val (.bool false)), (6, .val (.slice none 0 0)), (2, .val (.int .i64 a2)), (1, .val (.int .i64 a1))], [.row y6 (List.map (eI .i64) s7.2) 1 3], 37⟩ ∧ iter (ref09_Set.l1 a0 a1 a2) n s7 = some t4) n8 ?_ ?_
 · exact ⟨_, Gst.trans (Gst.only [1, 2, 6, 7, 8, 20, 21, 22] rfl) (Gst.nilRow (ow := []) 1 3 rfl), (.slice none 0 0), (0, []), rfl, n13⟩
 rintro n8 _ ⟨_, g, y6, s7, rfl, i12⟩
 refine T.ghost g ?_
 obtain ⟨m9, q10, rfl, q11, i12⟩ := iter_succ i12
 unfold ref09_Set.l1 at q11
 refine T.seq ?_
 refine T.region ?_
 refine TL.op1 (OpR.pure rfl) rfl ?_
 refine TL.nil ?_
 show T X _ _ _
 refine T.seq ?_
 rcases ite_some q11 with ⟨c15, q11⟩ | ⟨c15, q11⟩
 rotate_left
 · refine T.condF rfl (decide_eq_false c15) ?_
   refine T.exit ?_
   obtain rfl := Option.some.inj q11
   obtain rfl : _ = _ := i12
   exact ⟨_, Gst.only [6, 7, 8] rfl, y6, rfl⟩
 refine T.condT rfl (decide_eq_true c15) ?_
 refine T.skip ?_
 show T X _ _ _
 refine T.seq ?_
 refine T.block ?_
 refine T.seq ?_
 refine T.region ?_
 refine TL.op1 (OpR.pure rfl) rfl ?_
 obtain ⟨x16, hx16, q11⟩ := bnd_some q11
 refine TL.op1 (OpR.indexM (eI .i64) hx16 rfl rfl rfl rfl rfl) rfl ?_
 refine TL.op1 (OpR.pure rfl) rfl ?_
 refine TL.op1 (OpR.pure rfl) rfl ?_
 refine TL.op1 (OpR.pure rfl) rfl ?_
 refine TL.nil ?_
 show T X _ _ _
 refine T.seq ?_
 refine T.seq ?_
 refine T.region ?_
 refine TL.op1 (OpR.pure rfl) rfl ?_
 refine TL.op1 (OpR.pure rfl) rfl ?_
 refine TL.op1 (OpR.pure rfl) rfl ?_
 refine TL.nil ?_
 show T X _ _ _
 obtain ⟨t17, ht17, q11⟩ := bnd_some q11
 refine T.cutC (fun S' => S' = ⟨[(22, .val (.int .i64 s7.1)), (21, .val (.int .i64 (a0.length : Int))), (20, .sl 1 (List.map (eI .i64) a0)), (10, .val (.int .i64 t17)), (8, .val y6), (7, .val (.bool false)), (6, .val (.slice none 0 0)), (2, .val (.int .i64 a2)), (1, .val (.int .i64 a1))], [.row y6 (List.map (eI .i64) s7.2) 1 3], 37⟩) (fun _ h => h) ?_ ?_
 · rcases ite_some ht17 with ⟨c18, ht17⟩ | ⟨c18, ht17⟩
   rotate_left
   · refine T.condF rfl (beq_eq_false_iff_ne.2 c18) ?_
     refine T.skip ?_
     obtain rfl := Option.some.inj ht17
     exact ⟨_, Gst.only [1, 2, 6, 7, 8, 10, 20, 21, 22] rfl, rfl⟩
   refine T.condT rfl (beq_iff_eq.2 c18) ?_
   refine T.region ?_
   refine TL.op1 (OpR.pure rfl) rfl ?_
   refine TL.op1 (OpR.pure rfl) rfl ?_
   refine TL.nil ?_
   obtain rfl := Option.some.inj ht17
   exact ⟨_, Gst.only [1, 2, 6, 7, 8, 10, 20, 21, 22] rfl, rfl⟩
 rintro _ rfl
 show T X _ _ _
 refine T.region ?_
 refine TL.op1 (OpR.pure rfl) rfl ?_
 refine TL.op1 (OpR.pure rfl) rfl ?_
 refine TL.op1 (OpR.lit rfl rfl rfl rfl rfl rfl rfl) rfl ?_
 obtain ⟨x19, hx19, q11⟩ := bnd_some q11
 refine TL.op (OpR.appendM (m := [t17]) (eI .i64) 0 hx19 rfl rfl rfl rfl rfl rfl rfl rfl rfl (fun _ => rfl)) rfl (fun v20 => ?_)
 refine TL.op1 (OpR.pure rfl) rfl ?_
 refine TL.nil ?_
 show T X _ _ _
 refine T.region ?_
 refine TL.op1 (OpR.pure rfl) rfl ?_
 refine TL.op1 (OpR.pure rfl) rfl ?_
 refine TL.nil ?_
 obtain rfl := Option.some.inj q11
 exact ⟨m9, Nat.lt_succ_self _, _, Gst.only [1, 2, 6, 7, 8, 20, 21, 22] rfl, v20, (w64 (s7.1 + 1), x19), rfl, i12⟩
noncomputable def law09_step (a0 : tree_Tree_int) (a1 : List Int) (a2 : law09_Op) : Option (tree_Tree_int × (List Int) × Bool) :=
  bnd (if a2.fOdd = true then
    some a2.fI
  else
    bnd (rmd (IntKind.wrap .u64 a2.fI) (IntKind.wrap .u64 (w64 ((a1.length : Int) + 1)))) fun x4 =>
    some (w64 x4) : Option Int) fun t2 =>
  bnd (if a2.fKind = 0 then
    some (a2.fKind == 0)
  else
    if a2.fKind = 1 then
      some (a2.fKind == 1)
    else
      some (a2.fKind == 2) : Option Bool) fun t6 =>
  bnd (if t6 = true then
    bnd (tree_Tree_int_Insert a0 t2 a2.fX) fun x11 =>
    bnd (ref09_Insert a1 t2 a2.fX) fun x12 =>
    some (x12.1, x11.2, x12.2, x11.1.fRoot)
  else
    bnd (if a2.fKind = 3 then
      some (a2.fKind == 3)
    else
      some (a2.fKind == 4) : Option Bool) fun t13 =>
    if t13 = true then
      bnd (tree_Tree_int_Delete a0 t2) fun x16 =>
      bnd (ref09_Delete a1 t2) fun x17 =>
      some (x17.1, x16.2, x17.2, x16.1.fRoot)
    else
      if a2.fKind = 5 then
        bnd (tree_Tree_int_Set a0 t2 a2.fX) fun x19 =>
        bnd (ref09_Set a1 t2 a2.fX) fun x20 =>
        some (x20.1, x19.2, x20.2, x19.1.fRoot)
      else
        some (a1, true, true, a0.fRoot) : Option ((List Int) × Bool × Bool × (Option NP))) fun t9 =>
  some ((⟨t9.2.2.2⟩ : tree_Tree_int), t9.1, (t9.2.1 == t9.2.2.1))
set_option maxHeartbeats 4000000 in
theorem law09_step_c {a0 : tree_Tree_int} {a1 : List Int} {a2 : law09_Op} {res : tree_Tree_int × (List Int) × Bool} (h0 : law09_step a0 a1 a2 = some res) : CallF X 14 [.agg [(eOP a0.fRoot)], .sl 1 (List.map (eI .i64) a1), .agg [.val (.int .i64 a2.fKind), .val (.int .i64 a2.fI), .val (.int .i64 a2.fX), .val (.bool a2.fOdd)]] [] (fun x => .tup [.agg [(eOP res.1.fRoot)], .sl 1 (List.map (eI .i64) res.2.1), .val (.bool res.2.2)]) (fun x => []) := by
 unfold law09_step at h0
 refine CallF.mkG (X := X) rfl Try.func14 rfl rfl Try.ntmps14 rfl rfl ?_
 refine T.seq ?_
 refine T.region ?_
 refine TL.op1 (OpR.boxImm rfl rfl) rfl ?_
 refine TL.op1 (OpR.boxImm rfl rfl) rfl ?_
 refine TL.op (OpR.alloc rfl rfl (fun _ => rfl)) rfl (fun p1 => ?_)
 refine TL.op1 (OpR.pure rfl) rfl ?_
 refine TL.op1 (OpR.pure rfl) rfl ?_
 refine TL.nil ?_
 show T X _ _ _
 refine T.seq ?_
 refine T.region ?_
 refine TL.op1 (OpR.pure rfl) rfl ?_
 refine TL.op1 (OpR.pure rfl) rfl ?_
 refine TL.op1 (OpR.pure rfl) rfl ?_
 refine TL.nil ?_
 show T X _ _ _
 refine T.seq ?_
 refine T.seq ?_
 refine T.region ?_
 refine TL.op1 (OpR.pure rfl) rfl ?_
 refine TL.op1 (OpR.pure rfl) rfl ?_
 refine TL.op1 (OpR.pure rfl) rfl ?_
 refine TL.nil ?_
 show T X _ _ _
 obtain ⟨t2, ht2, h0⟩ := bnd_some h0
 refine T.cutC (fun S' => S' = ⟨[(9, .val (.int .i64 t2)), (8, .val (.bool false)), (7, .val (.slice none 0 0)), (6, .val (.pointer (some ⟨(blk p1), 0, none⟩))), (5, .nod [.val (.int .i64 a2.fKind), .val (.int .i64 a2.fI), .val (.int .i64 a2.fX), .val (.bool a2.fOdd)]), (3, .nod [(eOP a0.fRoot)]), (1, .sl 1 (List.map (eI .i64) a1))], [.var (blk p1) [(eOP none)] 27], 90⟩) (fun _ h => h) ?_ ?_
 · rcases ite_some ht2 with ⟨c3, ht2⟩ | ⟨c3, ht2⟩
   · refine T.condF rfl (not_t (c3)) ?_
     refine T.skip ?_
     obtain rfl := Option.some.inj ht2
     exact ⟨_, Gst.only [1, 3, 5, 6, 7, 8, 9] rfl, rfl⟩
   refine T.condT rfl (not_f (eq_false_of_ne_true c3)) ?_
   refine T.region ?_
   refine TL.op1 (OpR.pure rfl) rfl ?_
   refine TL.op1 (OpR.pure rfl) rfl ?_
   refine TL.op1 (OpR.pure rfl) rfl ?_
   refine TL.op1 (OpR.pure rfl) rfl ?_
   refine TL.op1 (OpR.cast (OpR.pure rfl) (intE (lenM _ _))) rfl ?_
   refine TL.op1 (OpR.pure rfl) rfl ?_
   refine TL.op1 (OpR.pure rfl) rfl ?_
   obtain ⟨x4, hx4, ht2⟩ := bnd_some ht2
   refine TL.op1 (OpR.rmdK hx4 rfl rfl) rfl ?_
   refine TL.op1 (OpR.pure rfl) rfl ?_
   refine TL.op1 (OpR.pure rfl) rfl ?_
   refine TL.nil ?_
   obtain rfl := Option.some.inj ht2
   exact ⟨_, Gst.only [1, 3, 5, 6, 7, 8, 9] rfl, rfl⟩
 rintro _ rfl
 show T X _ _ _
 refine T.seq ?_
 refine T.region ?_
 refine TL.op1 (OpR.pure rfl) rfl ?_
 refine TL.op1 (OpR.pure rfl) rfl ?_
 refine TL.op (OpR.alloc rfl rfl (fun _ => rfl)) rfl (fun p5 => ?_)
 refine TL.op0 (OpR.store 1 rfl rfl rfl rfl rfl rfl rfl rfl) ?_
 refine TL.op1 (OpR.pure rfl) rfl ?_
 refine TL.op1 (OpR.pure rfl) rfl ?_
 refine TL.op1 (OpR.pure rfl) rfl ?_
 refine TL.nil ?_
 show T X _ _ _
 refine T.seq ?_
 refine T.seq ?_
 refine T.region ?_
 refine TL.op1 (OpR.pure rfl) rfl ?_
 refine TL.op1 (OpR.pure rfl) rfl ?_
 refine TL.nil ?_
 show T X _ _ _
 refine T.block ?_
 refine T.seq ?_
 refine T.seq ?_
 refine T.region ?_
 refine TL.op1 (OpR.pure rfl) rfl ?_
 refine TL.op1 (OpR.pure rfl) rfl ?_
 refine TL.nil ?_
 show T X _ _ _
 obtain ⟨t6, ht6, h0⟩ := bnd_some h0
 refine T.cutC (fun S' => S' = ⟨[(32, .val (.bool t6)), (31, .val (.int .i64 a2.fKind)), (13, .val (.bool true)), (12, .val (.bool true)), (11, .sl 1 (List.map (eI .i64) a1)), (10, .val (.pointer (some ⟨(blk p5), 0, none⟩))), (9, .val (.int .i64 t2)), (8, .val (.bool false)), (7, .val (.slice none 0 0)), (6, .val (.pointer (some ⟨(blk p1), 0, none⟩))), (5, .nod [.val (.int .i64 a2.fKind), .val (.int .i64 a2.fI), .val (.int .i64 a2.fX), .val (.bool a2.fOdd)]), (3, .nod [(eOP a0.fRoot)]), (1, .sl 1 (List.map (eI .i64) a1))], [.var (blk p1) [(eOP none)] 27, .var (blk p5) [(eOP a0.fRoot)] 27], 90⟩) (fun _ h => h) ?_ ?_
 · rcases ite_some ht6 with ⟨c7, ht6⟩ | ⟨c7, ht6⟩
   · refine T.condT rfl (beq_iff_eq.2 c7) ?_
     refine T.skip ?_
     obtain rfl := Option.some.inj ht6
     exact ⟨_, Gst.only [1, 3, 5, 6, 7, 8, 9, 10, 11, 12, 13, 31, 32] rfl, rfl⟩
   refine T.condF rfl (beq_eq_false_iff_ne.2 c7) ?_
   refine T.seq ?_
   refine T.region ?_
   refine TL.op1 (OpR.pure rfl) rfl ?_
   refine TL.op1 (OpR.pure rfl) rfl ?_
   refine TL.nil ?_
   show T X _ _ _
   rcases ite_some ht6 with ⟨c8, ht6⟩ | ⟨c8, ht6⟩
   · refine T.condT rfl (beq_iff_eq.2 c8) ?_
     refine T.skip ?_
     obtain rfl := Option.some.inj ht6
     exact ⟨_, Gst.only [1, 3, 5, 6, 7, 8, 9, 10, 11, 12, 13, 31, 32] rfl, rfl⟩
   refine T.condF rfl (beq_eq_false_iff_ne.2 c8) ?_
   refine T.region ?_
   refine TL.op1 (OpR.pure rfl) rfl ?_
   refine TL.op1 (OpR.pure rfl) rfl ?_
   refine TL.nil ?_
   obtain rfl := Option.some.inj ht6
   exact ⟨_, Gst.only [1, 3, 5, 6, 7, 8, 9, 10, 11, 12, 13, 31, 32] rfl, rfl⟩
 rintro _ rfl
 show T X _ _ _
 obtain ⟨t9, ht9, h0⟩ := bnd_some h0
 refine T.cutC (fun S' => S' = ⟨[(13, .val (.bool t9.2.2.1)), (12, .val (.bool t9.2.1)), (11, .sl 1 (List.map (eI .i64) t9.1)), (10, .val (.pointer (some ⟨(blk p5), 0, none⟩))), (8, .val (.bool false)), (7, .val (.slice none 0 0)), (6, .val (.pointer (some ⟨(blk p1), 0, none⟩)))], [.var (blk p1) [(eOP none)] 27, .var (blk p5) [(eOP t9.2.2.2)] 27], 90⟩) (fun _ h => h) ?_ ?_
 rotate_left
 · rintro _ rfl
   show T X _ _ _
   refine T.seq ?_
   refine T.region ?_
   refine TL.op1 (OpR.loadPtr 1 rfl rfl rfl rfl) rfl ?_
   refine TL.op1 (OpR.pure rfl) rfl ?_
   refine TL.op1 (OpR.pure rfl) rfl ?_
   refine TL.op1 (OpR.pure rfl) rfl ?_
   refine TL.op1 (OpR.eqBool rfl rfl rfl rfl) rfl ?_
   refine TL.op0 (OpR.store 0 rfl rfl rfl rfl rfl rfl rfl rfl) ?_
   refine TL.op1 (OpR.pure rfl) rfl ?_
   refine TL.op1 (OpR.pure rfl) rfl ?_
   refine TL.nil ?_
   show T X _ _ _
   refine T.ret ?_
   obtain rfl := Option.some.inj h0
   exact PostG.retP (ks := []) (Gst.trans (Gst.only [6, 7, 8] rfl) (Gst.pick [0] rfl rfl)) undef (ResL.cons (ResV.var 0 rfl rfl rfl rfl) (ResL.cons (ResV.tmp rfl) (ResL.cons (ResV.tmp rfl) ResL.nil))) rfl rfl rfl rfl
 rcases ite_some ht9 with ⟨c10, ht9⟩ | ⟨c10, ht9⟩
 · refine T.condT rfl (c10) ?_
   refine T.seq ?_
   refine T.region ?_
   refine TL.op1 (OpR.pure rfl) rfl ?_
   refine TL.op1 (OpR.pure rfl) rfl ?_
   refine TL.op1 (OpR.pure rfl) rfl ?_
   refine TL.op1 (OpR.pure rfl) rfl ?_
   obtain ⟨x11, hx11, ht9⟩ := bnd_some ht9
   refine TL.op1 (OpR.call0 fn49 (tree_Tree_int_Insert_c hx11) rfl) rfl ?_
   refine TL.op1 (OpR.pure rfl) rfl ?_
   refine TL.op1 (OpR.pure rfl) rfl ?_
   refine TL.op1 (OpR.pure rfl) rfl ?_
   refine TL.op0 (OpR.store 1 rfl rfl rfl rfl rfl rfl rfl rfl) ?_
   refine TL.op1 (OpR.pure rfl) rfl ?_
   refine TL.nil ?_
   show T X _ _ _
   refine T.region ?_
   refine TL.op1 (OpR.pure rfl) rfl ?_
   refine TL.op1 (OpR.pure rfl) rfl ?_
   refine TL.op1 (OpR.pure rfl) rfl ?_
   refine TL.op1 (OpR.pure rfl) rfl ?_
   obtain ⟨x12, hx12, ht9⟩ := bnd_some ht9
   refine TL.op1 (OpR.call0 fn50 (ref09_Insert_c hx12) rfl) rfl ?_
   refine TL.op1 (OpR.pure rfl) rfl ?_
   refine TL.op1 (OpR.pure rfl) rfl ?_
   refine TL.op1 (OpR.pure rfl) rfl ?_
   refine TL.op1 (OpR.pure rfl) rfl ?_
   refine TL.op1 (OpR.pure rfl) rfl ?_
   refine TL.nil ?_
   obtain rfl := Option.some.inj ht9
   exact ⟨_, Gst.only [6, 7, 8, 10, 11, 12, 13] rfl, rfl⟩
 refine T.condF rfl (eq_false_of_ne_true c10) ?_
 refine T.seq ?_
 refine T.seq ?_
 refine T.region ?_
 refine TL.op1 (OpR.pure rfl) rfl ?_
 refine TL.op1 (OpR.pure rfl) rfl ?_
 refine TL.nil ?_
 show T X _ _ _
 obtain ⟨t13, ht13, ht9⟩ := bnd_some ht9
 refine T.cutC (fun S' => S' = ⟨[(52, .val (.bool t13)), (31, .val (.int .i64 a2.fKind)), (13, .val (.bool true)), (12, .val (.bool true)), (11, .sl 1 (List.map (eI .i64) a1)), (10, .val (.pointer (some ⟨(blk p5), 0, none⟩))), (9, .val (.int .i64 t2)), (8, .val (.bool false)), (7, .val (.slice none 0 0)), (6, .val (.pointer (some ⟨(blk p1), 0, none⟩))), (5, .nod [.val (.int .i64 a2.fKind), .val (.int .i64 a2.fI), .val (.int .i64 a2.fX), .val (.bool a2.fOdd)]), (3, .nod [(eOP a0.fRoot)]), (1, .sl 1 (List.map (eI .i64) a1))], [.var (blk p1) [(eOP none)] 27, .var (blk p5) [(eOP a0.fRoot)] 27], 90⟩) (fun _ h => h) ?_ ?_
 · rcases ite_some ht13 with ⟨c14, ht13⟩ | ⟨c14, ht13⟩
   · refine T.condT rfl (beq_iff_eq.2 c14) ?_
     refine T.skip ?_
     obtain rfl := Option.some.inj ht13
     exact ⟨_, Gst.only [1, 3, 5, 6, 7, 8, 9, 10, 11, 12, 13, 31, 52] rfl, rfl⟩
   refine T.condF rfl (beq_eq_false_iff_ne.2 c14) ?_
   refine T.region ?_
   refine TL.op1 (OpR.pure rfl) rfl ?_
   refine TL.op1 (OpR.pure rfl) rfl ?_
   refine TL.nil ?_
   obtain rfl := Option.some.inj ht13
   exact ⟨_, Gst.only [1, 3, 5, 6, 7, 8, 9, 10, 11, 12, 13, 31, 52] rfl, rfl⟩
 rintro _ rfl
 show T X _ _ _
 rcases ite_some ht9 with ⟨c15, ht9⟩ | ⟨c15, ht9⟩
 · refine T.condT rfl (c15) ?_
   refine T.seq ?_
   refine T.region ?_
   refine TL.op1 (OpR.pure rfl) rfl ?_
   refine TL.op1 (OpR.pure rfl) rfl ?_
   obtain ⟨x16, hx16, ht9⟩ := bnd_some ht9
   refine TL.op1 (OpR.call0 fn51 (tree_Tree_int_Delete_c hx16) rfl) rfl ?_
   refine TL.op1 (OpR.pure rfl) rfl ?_
   refine TL.op1 (OpR.pure rfl) rfl ?_
   refine TL.op1 (OpR.pure rfl) rfl ?_
   refine TL.op0 (OpR.store 1 rfl rfl rfl rfl rfl rfl rfl rfl) ?_
   refine TL.op1 (OpR.pure rfl) rfl ?_
   refine TL.nil ?_
   show T X _ _ _
   refine T.region ?_
   refine TL.op1 (OpR.pure rfl) rfl ?_
   refine TL.op1 (OpR.pure rfl) rfl ?_
   obtain ⟨x17, hx17, ht9⟩ := bnd_some ht9
   refine TL.op1 (OpR.call0 fn52 (ref09_Delete_c hx17) rfl) rfl ?_
   refine TL.op1 (OpR.pure rfl) rfl ?_
   refine TL.op1 (OpR.pure rfl) rfl ?_
   refine TL.op1 (OpR.pure rfl) rfl ?_
   refine TL.op1 (OpR.pure rfl) rfl ?_
   refine TL.op1 (OpR.pure rfl) rfl ?_
   refine TL.nil ?_
   obtain rfl := Option.some.inj ht9
   exact ⟨_, Gst.only [6, 7, 8, 10, 11, 12, 13] rfl, rfl⟩
 refine T.condF rfl (eq_false_of_ne_true c15) ?_
 refine T.seq ?_
 refine T.region ?_
 refine TL.op1 (OpR.pure rfl) rfl ?_
 refine TL.op1 (OpR.pure rfl) rfl ?_
 refine TL.nil ?_
 show T X _ _ _
 rcases ite_some ht9 with ⟨c18, ht9⟩ | ⟨c18, ht9⟩
 rotate_left
 · refine T.condF rfl (beq_eq_false_iff_ne.2 c18) ?_
   refine T.skip ?_
   obtain rfl := Option.some.inj ht9
   exact ⟨_, Gst.only [6, 7, 8, 10, 11, 12, 13] rfl, rfl⟩
 refine T.condT rfl (beq_iff_eq.2 c18) ?_
 refine T.seq ?_
 refine T.region ?_
 refine TL.op1 (OpR.pure rfl) rfl ?_
 refine TL.op1 (OpR.pure rfl) rfl ?_
 refine TL.op1 (OpR.pure rfl) rfl ?_
 refine TL.op1 (OpR.pure rfl) rfl ?_
 obtain ⟨x19, hx19, ht9⟩ := bnd_some ht9
 refine TL.op1 (OpR.call0 fn53 (tree_Tree_int_Set_c hx19) rfl) rfl ?_
 refine TL.op1 (OpR.pure rfl) rfl ?_
 refine TL.op1 (OpR.pure rfl) rfl ?_
 refine TL.op1 (OpR.pure rfl) rfl ?_
 refine TL.op0 (OpR.store 1 rfl rfl rfl rfl rfl rfl rfl rfl) ?_
 refine TL.op1 (OpR.pure rfl) rfl ?_
 refine TL.nil ?_
 show T X _ _ _
 refine T.region ?_
 refine TL.op1 (OpR.pure rfl) rfl ?_
 refine TL.op1 (OpR.pure rfl) rfl ?_
 refine TL.op1 (OpR.pure rfl) rfl ?_
 refine TL.op1 (OpR.pure rfl) rfl ?_
 obtain ⟨x20, hx20, ht9⟩ := bnd_some ht9
 refine TL.op1 (OpR.call0 fn54 (ref09_Set_c hx20) rfl) rfl ?_
 refine TL.op1 (OpR.pure rfl) rfl ?_
 refine TL.op1 (OpR.pure rfl) rfl ?_
 refine TL.op1 (OpR.pure rfl) rfl ?_
 refine TL.op1 (OpR.pure rfl) rfl ?_
 refine TL.op1 (OpR.pure rfl) rfl ?_
 refine TL.nil ?_
 obtain rfl := Option.some.inj ht9
 exact ⟨_, Gst.only [6, 7, 8, 10, 11, 12, 13] rfl, rfl⟩
noncomputable def law09_All.l1 (a0 : tree_Tree_int) (s5 : Int × (List Int)) : Option (Lp (Int × (List Int)) (Ex (List Int) (List Int))) :=
  bnd (bnd (tree_Tree_int_Len a0) fun x14 =>
  if s5.1 < x14 then
    some (decide (s5.1 < 2000))
  else
    some false : Option Bool) fun t13 =>
  if t13 = true then
    bnd (tree_Tree_int_At a0 s5.1) fun x17 =>
    if x17.2 = true then
      bnd (app 8 s5.2 [x17.1]) fun x19 =>
      some (Lp.next (w64 (s5.1 + 1), x19))
    else
      some (Lp.done (Ex.ret []))
  else
    some (Lp.done (Ex.brk s5.2))
noncomputable def law09_All (a0 : tree_Tree_int) : Option (List Int) :=
  bnd (loop (law09_All.l1 a0) (0, []) : Option (Ex (List Int) (List Int))) fun t1 => match t1 with
    | .brk u2 =>
      some u2
    | .ret u2 => some u2
set_option maxHeartbeats 4000000 in
theorem law09_All_c {a0 : tree_Tree_int} {res : (List Int)} (h0 : law09_All a0 = some res) : CallF X 16 [.agg [(eOP a0.fRoot)]] [] (fun x => .sl 1 (List.map (eI .i64) res)) (fun x => []) := by
 unfold law09_All at h0
 refine CallF.mkG (X := X) rfl Try.func16 rfl rfl Try.ntmps16 rfl rfl ?_
 refine T.seq ?_
 refine T.region ?_
 refine TL.op1 (OpR.boxImm rfl rfl) rfl ?_
 refine TL.op1 (OpR.pure rfl) rfl ?_
 refine TL.nil ?_
 show T X _ _ _
 refine T.seq ?_
 refine T.region ?_
 refine TL.op1 (OpR.pure rfl) rfl ?_
 refine TL.nil ?_
 show T X _ _ _
 refine T.seq ?_
 refine T.seq ?_
 refine T.region ?_
 refine TL.op1 (OpR.pure rfl) rfl ?_
 refine TL.nil ?_
 show T X _ _ _
 obtain ⟨t1, ht1, h0⟩ := bnd_some h0
 refine T.cutC (fun S' => ∃ u2, t1 = Ex.brk u2 ∧ ∃ y3 : Value, S' = ⟨[(3, .val y3), (2, .val (.slice none 0 0))], [.row y3 (List.map (eI .i64) u2) 1 3], 30⟩) (fun _ h => h) ?_ ?_
 rotate_left
 · rintro _ ⟨u2, rfl, y3, rfl⟩
   show T X _ _ _
   refine T.seq ?_
   refine T.region ?_
   refine TL.op1 (OpR.pure rfl) rfl ?_
   refine TL.op1 (OpR.pure rfl) rfl ?_
   refine TL.nil ?_
   show T X _ _ _
   refine T.ret ?_
   obtain rfl := Option.some.inj h0
   exact PostG.retP (ks := []) (Gst.trans (Gst.only [2] rfl) (Gst.trans (Gst.freezeRow 0 rfl rfl (ReS.cons (Re.base .all) ReS.nil) (ReO.same ReO.nil)) (Gst.pick [] rfl rfl))) undef (ResL.cons (ResV.tmp rfl) ResL.nil) rfl rfl rfl rfl
 refine T.block ?_
 obtain ⟨n6, n11⟩ := loop_some ht1
 refine T.loop (fun n S' => ∃ S'', Gst S' S'' ∧ ∃ y4 : Value, ∃ s5 : Int × (List Int), S'' = ⟨[(4, .val (.int .i64 s5.1)), (3, .val y4), (2, .val (.slice none 0 0)), (1, .nod [(eOP a0.fRoot)])], [.row y4 (List.map (eI .i64) s5.2) 1 3], 30⟩ ∧ iter (law09_All.l1 a0) n s5 = some t1) n6 ?_ ?_
 · exact ⟨_, Gst.trans (Gst.only [1, 2, 3, 4] rfl) (Gst.nilRow (ow := []) 1 3 rfl), (.slice none 0 0), (0, []), rfl, n11⟩
 rintro n6 _ ⟨_, g, y4, s5, rfl, i10⟩
 refine T.ghost g ?_
 obtain ⟨m7, q8, rfl, q9, i10⟩ := iter_succ i10
 unfold law09_All.l1 at q9
 refine T.seq ?_
 refine T.seq ?_
 obtain ⟨t13, ht13, q9⟩ := bnd_some q9
 refine T.cutC (fun S' => S' = ⟨[(14, .val (.bool t13)), (4, .val (.int .i64 s5.1)), (3, .val y4), (2, .val (.slice none 0 0)), (1, .nod [(eOP a0.fRoot)])], [.row y4 (List.map (eI .i64) s5.2) 1 3], 30⟩) (fun _ h => h) ?_ ?_
 · refine T.region ?_
   refine TL.op1 (OpR.pure rfl) rfl ?_
   refine TL.op1 (OpR.pure rfl) rfl ?_
   obtain ⟨x14, hx14, ht13⟩ := bnd_some ht13
   refine TL.op1 (OpR.call0 fn45 (tree_Tree_int_Len_c hx14) rfl) rfl ?_
   refine TL.op1 (OpR.pure rfl) rfl ?_
   refine TL.op1 (OpR.pure rfl) rfl ?_
   rcases ite_some ht13 with ⟨c15, ht13⟩ | ⟨c15, ht13⟩
   rotate_left
   · refine TL.off rfl rfl rfl rfl (decide_eq_false c15) rfl rfl ?_
     refine TL.off rfl rfl rfl rfl (decide_eq_false c15) rfl rfl ?_
     refine TL.op1 (OpR.pickF rfl (decide_eq_false c15) rfl) rfl ?_
     refine TL.nil ?_
     obtain rfl := Option.some.inj ht13
     exact ⟨_, Gst.only [1, 2, 3, 4, 14] rfl, rfl⟩
   refine TL.on rfl rfl rfl rfl (decide_eq_true c15) ?_
   refine TL.op1 (OpR.pure rfl) rfl ?_
   refine TL.on rfl rfl rfl rfl (decide_eq_true c15) ?_
   refine TL.op1 (OpR.pure rfl) rfl ?_
   refine TL.op1 (OpR.pickT rfl (decide_eq_true c15) rfl) rfl ?_
   refine TL.nil ?_
   obtain rfl := Option.some.inj ht13
   exact ⟨_, Gst.only [1, 2, 3, 4, 14] rfl, rfl⟩
 rintro _ rfl
 show T X _ _ _
 rcases ite_some q9 with ⟨c16, q9⟩ | ⟨c16, q9⟩
 rotate_left
 · refine T.condF rfl (eq_false_of_ne_true c16) ?_
   refine T.exit ?_
   obtain rfl := Option.some.inj q9
   obtain rfl : _ = _ := i10
   exact ⟨_, Gst.only [2, 3] rfl, _, rfl, y4, rfl⟩
 refine T.condT rfl (c16) ?_
 refine T.skip ?_
 show T X _ _ _
 refine T.seq ?_
 refine T.block ?_
 refine T.seq ?_
 refine T.region ?_
 refine TL.op1 (OpR.pure rfl) rfl ?_
 refine TL.op1 (OpR.pure rfl) rfl ?_
 obtain ⟨x17, hx17, q9⟩ := bnd_some q9
 refine TL.op1 (OpR.call0 fn55 (tree_Tree_int_At_c hx17) rfl) rfl ?_
 refine TL.op1 (OpR.pure rfl) rfl ?_
 refine TL.op1 (OpR.pure rfl) rfl ?_
 refine TL.op1 (OpR.pure rfl) rfl ?_
 refine TL.op1 (OpR.pure rfl) rfl ?_
 refine TL.op1 (OpR.pure rfl) rfl ?_
 refine TL.nil ?_
 show T X _ _ _
 refine T.seq ?_
 refine T.seq ?_
 refine T.region ?_
 refine TL.op1 (OpR.pure rfl) rfl ?_
 refine TL.op1 (OpR.pure rfl) rfl ?_
 refine TL.nil ?_
 show T X _ _ _
 rcases ite_some q9 with ⟨c18, q9⟩ | ⟨c18, q9⟩
 rotate_left
 · refine T.condT rfl (not_f (eq_false_of_ne_true c18)) ?_
   refine T.seq ?_
   refine T.region ?_
   refine TL.op1 (OpR.pure rfl) rfl ?_
   refine TL.nil ?_
   show T X _ _ _
   refine T.ret ?_
   obtain rfl := Option.some.inj q9
   obtain rfl : _ = _ := i10
   obtain rfl := Option.some.inj h0
   exact PostG.retP (ks := []) (Gst.trans (Gst.only [2] rfl) (Gst.trans (Gst.denil (ReS.cons (Re.base .nil) ReS.nil) (ReO.same ReO.nil)) (Gst.pick [] rfl rfl))) undef (ResL.cons (ResV.tmp rfl) ResL.nil) rfl rfl rfl rfl
 refine T.condF rfl (not_t (c18)) ?_
 refine T.skip ?_
 show T X _ _ _
 refine T.region ?_
 refine TL.op1 (OpR.pure rfl) rfl ?_
 refine TL.op1 (OpR.pure rfl) rfl ?_
 refine TL.op1 (OpR.lit rfl rfl rfl rfl rfl rfl rfl) rfl ?_
 obtain ⟨x19, hx19, q9⟩ := bnd_some q9
 refine TL.op (OpR.appendM (m := [x17.1]) (eI .i64) 0 hx19 rfl rfl rfl rfl rfl rfl rfl rfl rfl (fun _ => rfl)) rfl (fun v20 => ?_)
 refine TL.op1 (OpR.pure rfl) rfl ?_
 refine TL.nil ?_
 show T X _ _ _
 refine T.region ?_
 refine TL.op1 (OpR.pure rfl) rfl ?_
 refine TL.op1 (OpR.pure rfl) rfl ?_
 refine TL.op1 (OpR.pure rfl) rfl ?_
 refine TL.nil ?_
 obtain rfl := Option.some.inj q9
 exact ⟨m7, Nat.lt_succ_self _, _, Gst.only [1, 2, 3, 4] rfl, v20, (w64 (s5.1 + 1), x19), rfl, i10⟩
end Go.Proofs.Ytkmdfaodbiknlaa.S
