/- Printed by a program of this session's own (gen.py): Lean functions for Go functions, and the proofs that the Go code comes to their answers. -/
import Derived.Test.YtkmdfaodbiknlaaG2xa
set_option linter.unusedVariables false
set_option linter.unusedSimpArgs false
set_option maxRecDepth 20000
namespace Go.Proofs.Ytkmdfaodbiknlaa.S
open Go Go.Sm
attribute [local irreducible] T TL OpR CallT iter loop
noncomputable def tree_splice_int (a0 : List Int) (a1 : Int) (a2 : Int) (a3 : List Int) : Option (List Int) :=
  bnd (cut a0 0 a1) fun x2 =>
  bnd (cut a0 a2 (a0.length : Int)) fun x3 =>
  bnd (slices_Concat_int_int [x2, a3, x3]) fun x4 =>
  some x4
set_option maxHeartbeats 4000000 in
theorem tree_splice_int_c {a0 : List Int} {a1 : Int} {a2 : Int} {a3 : List Int} {res : (List Int)} (h0 : tree_splice_int a0 a1 a2 a3 = some res) : CallF X 96 [.sl 1 (List.map (eI .i64) a0), .val (.int .i64 a1), .val (.int .i64 a2), .sl 1 (List.map (eI .i64) a3)] [] (fun x => .sl 1 (List.map (eI .i64) res)) (fun x => []) := by
 unfold tree_splice_int at h0
 refine CallF.mkG (X := X) rfl Try.func96 rfl rfl Try.ntmps96 rfl rfl ?_
 refine T.seq ?_
 refine T.region ?_
 refine TL.op1 (OpR.pure rfl) rfl ?_
 refine TL.nil ?_
 show T X _ _ _
 refine T.seq ?_
 obtain ⟨x2, hx2, h0⟩ := bnd_some h0
 obtain ⟨x3, hx3, h0⟩ := bnd_some h0
 obtain ⟨x4, hx4, h0⟩ := bnd_some h0
 refine T.drawQ drawsX [.sl 1 (List.map (eI .i64) a0), .val (.int .i64 a1), .sl 1 (List.map (eI .i64) x2), .sl 1 (List.map (eI .i64) a3), .sl 1 (List.map (eI .i64) a0), .val (.int .i64 a2), .sl 1 (List.map (eI .i64) x3), .sl 1 (List.map e_sl22 [x2, a3, x3]), .sl 1 (List.map (eI .i64) x4), .sl 1 (List.map (eI .i64) x4)] [0, 1, 2, 3, 8, 9, 10, 11, 12, 13, 14, 15, 16, 17] (by decide +kernel) rfl ?_ rfl ?_
 rotate_left
 · show T X _ _ _
   refine T.ret ?_
   obtain rfl := Option.some.inj h0
   exact PostG.retP (ks := []) (Gst.only [8] rfl) undef (ResL.cons (ResV.tmp rfl) ResL.nil) rfl rfl rfl rfl
 refine OpsQ.yes (Want.plain rfl) rfl (OpR.pure rfl) ?_
 refine OpsQ.yes (Want.plain rfl) rfl (OpR.pure rfl) ?_
 refine OpsQ.yes (Want.plain rfl) rfl (OpR.sliceM (sz := 1) (eI .i64) hx2 rfl rfl rfl rfl BdM.none (BdM.some rfl) rfl) ?_
 refine OpsQ.yes (Want.plain rfl) rfl (OpR.pure rfl) ?_
 refine OpsQ.yes (Want.plain rfl) rfl (OpR.pure rfl) ?_
 refine OpsQ.yes (Want.plain rfl) rfl (OpR.pure rfl) ?_
 refine OpsQ.yes (Want.plain rfl) rfl (OpR.sliceM (sz := 1) (eI .i64) hx3 rfl rfl rfl rfl (BdM.some rfl) BdM.none rfl) ?_
 refine OpsQ.yes (Want.plain rfl) rfl (OpR.lit rfl rfl rfl rfl rfl rfl rfl) ?_
 refine OpsQ.yes (Want.plain rfl) rfl (OpR.call0 fn103 (slices_Concat_int_int_c hx4) rfl) ?_
 refine OpsQ.yes (Want.plain rfl) rfl (OpR.pure rfl) ?_
 exact OpsQ.nil
noncomputable def tree_Node_int_put.body (self : (List NP) → (List Int) → Int → Int → Int → Option (List NP)) (a0 : List NP) (a1 : List Int) (a2 : Int) (a3 : Int) (a4 : Int) : Option (List NP) :=
  bnd (tree_Node_int_flat a0 a1 a2) fun x1 =>
  if x1 = true then
    bnd (tree_splice_int a1 a3 a3 [a4]) fun x3 =>
    bnd (tree_leaves_int x3) fun x4 =>
    some x4
  else
    bnd (tree_Node_int_kid a0 a1 a2 a3) fun x5 =>
    bnd (idx a0 x5.1) fun x7 =>
    bnd (o_tree_Node_int x7) fun x8 =>
    bnd (self x8.fKids x8.fItems x8.fN x5.2 a4) fun x9 =>
    bnd (tree_splice_tree_Node_int a0 x5.1 (w64 (x5.1 + 1)) x9) fun x10 =>
    bnd (tree_inners_int x10) fun x11 =>
    some x11
noncomputable def tree_Node_int_put : Nat → (List NP) → (List Int) → Int → Int → Int → Option (List NP)
  | 0 => fun _ _ _ _ _ => none
  | n + 1 => tree_Node_int_put.body (tree_Node_int_put n)
set_option maxHeartbeats 4000000 in
theorem tree_Node_int_put_c {fu : Nat} {a0 : List NP} {a1 : List Int} {a2 : Int} {a3 : Int} {a4 : Int} {res : (List NP)} (h0 : tree_Node_int_put fu a0 a1 a2 a3 a4 = some res) : CallF X 78 [.nod [.sl 1 (List.map eNP a0), .sl 1 (List.map (eI .i64) a1), .val (.int .i64 a2)], .val (.int .i64 a3), .val (.int .i64 a4)] [] (fun x => .sl 1 (List.map eNP res)) (fun x => []) := by
 induction fu generalizing a0 a1 a2 a3 a4 res
 · exact nomatch h0
 rename_i fu ih
 replace h0 : tree_Node_int_put.body (tree_Node_int_put fu) a0 a1 a2 a3 a4 = some res := h0
 unfold tree_Node_int_put.body at h0
 refine CallF.mkG (X := X) rfl Try.func78 rfl rfl Try.ntmps78 rfl rfl ?_
 refine T.seq ?_
 refine T.region ?_
 refine TL.op1 (OpR.pure rfl) rfl ?_
 refine TL.nil ?_
 show T X _ _ _
 refine T.seq ?_
 refine T.seq ?_
 refine T.region ?_
 refine TL.op1 (OpR.pure rfl) rfl ?_
 obtain ⟨x1, hx1, h0⟩ := bnd_some h0
 refine TL.op1 (OpR.call0 fn82 (tree_Node_int_flat_c hx1) rfl) rfl ?_
 refine TL.nil ?_
 show T X _ _ _
 rcases ite_some h0 with ⟨c2, h0⟩ | ⟨c2, h0⟩
 · refine T.condT rfl (c2) ?_
   refine T.seq ?_
   refine T.region ?_
   refine TL.op1 (OpR.pure rfl) rfl ?_
   refine TL.op1 (OpR.pure rfl) rfl ?_
   refine TL.op1 (OpR.pure rfl) rfl ?_
   refine TL.op1 (OpR.pure rfl) rfl ?_
   refine TL.op1 (OpR.pure rfl) rfl ?_
   refine TL.op1 (OpR.pure rfl) rfl ?_
   refine TL.op1 (OpR.pure rfl) rfl ?_
   refine TL.op1 (OpR.lit rfl rfl rfl rfl rfl rfl rfl) rfl ?_
   obtain ⟨x3, hx3, h0⟩ := bnd_some h0
   refine TL.op1 (OpR.call0 fn96 (tree_splice_int_c hx3) rfl) rfl ?_
   obtain ⟨x4, hx4, h0⟩ := bnd_some h0
   refine TL.op1 (OpR.call0 fn44 (tree_leaves_int_c hx4) rfl) rfl ?_
   refine TL.op1 (OpR.pure rfl) rfl ?_
   refine TL.nil ?_
   show T X _ _ _
   refine T.ret ?_
   obtain rfl := Option.some.inj h0
   exact PostG.retP (ks := []) (Gst.only [6] rfl) undef (ResL.cons (ResV.tmp rfl) ResL.nil) rfl rfl rfl rfl
 refine T.condF rfl (eq_false_of_ne_true c2) ?_
 refine T.skip ?_
 show T X _ _ _
 refine T.seq ?_
 refine T.region ?_
 refine TL.op1 (OpR.pure rfl) rfl ?_
 refine TL.op1 (OpR.pure rfl) rfl ?_
 obtain ⟨x5, hx5, h0⟩ := bnd_some h0
 refine TL.op1 (OpR.call0 fn83 (tree_Node_int_kid_c hx5) rfl) rfl ?_
 refine TL.op1 (OpR.pure rfl) rfl ?_
 refine TL.op1 (OpR.pure rfl) rfl ?_
 refine TL.op1 (OpR.pure rfl) rfl ?_
 refine TL.op1 (OpR.pure rfl) rfl ?_
 refine TL.op1 (OpR.pure rfl) rfl ?_
 refine TL.nil ?_
 show T X _ _ _
 refine T.seq ?_
 obtain ⟨x7, hx7, h0⟩ := bnd_some h0
 obtain ⟨x8, hx8, h0⟩ := bnd_some h0
 rw [o_tree_Node_int_eq hx8] at hx7
 obtain ⟨x9, hx9, h0⟩ := bnd_some h0
 obtain ⟨x10, hx10, h0⟩ := bnd_some h0
 obtain ⟨x11, hx11, h0⟩ := bnd_some h0
 refine T.drawQ drawsX [.nod [.sl 1 (List.map eNP a0), .sl 1 (List.map (eI .i64) a1), .val (.int .i64 a2)], .nod [.sl 1 (List.map eNP a0), .sl 1 (List.map (eI .i64) a1), .val (.int .i64 a2)], .nod [.sl 1 (List.map eNP a0), .sl 1 (List.map (eI .i64) a1), .val (.int .i64 a2)], .sl 1 (List.map eNP a0), .val (.int .i64 x5.1), .val (.int .i64 x5.1), .val (.int .i64 (w64 (x5.1 + 1))), .nod [.sl 1 (List.map eNP a0), .sl 1 (List.map (eI .i64) a1), .val (.int .i64 a2)], .nod [.sl 1 (List.map eNP a0), .sl 1 (List.map (eI .i64) a1), .val (.int .i64 a2)], .nod [.sl 1 (List.map eNP a0), .sl 1 (List.map (eI .i64) a1), .val (.int .i64 a2)], .sl 1 (List.map eNP a0), .val (.int .i64 x5.1), .nod [.nod [.sl 1 (List.map eNP x8.fKids), .sl 1 (List.map (eI .i64) x8.fItems), .val (.int .i64 x8.fN)]], .nod [.sl 1 (List.map eNP x8.fKids), .sl 1 (List.map (eI .i64) x8.fItems), .val (.int .i64 x8.fN)], .val (.int .i64 x5.2), .val (.int .i64 a4), .sl 1 (List.map eNP x9), .sl 1 (List.map eNP x10), .sl 1 (List.map eNP x11), .sl 1 (List.map eNP x11)] [0, 1, 2, 6, 7, 8, 9, 10, 21, 22, 23, 24, 25, 26, 27, 28, 29, 30, 31, 32, 33, 34, 35, 36, 37, 38, 39, 40, 41, 42, 43, 44, 45] (by decide +kernel) rfl ?_ rfl ?_
 rotate_left
 · show T X _ _ _
   refine T.ret ?_
   obtain rfl := Option.some.inj h0
   exact PostG.retP (ks := []) (Gst.only [6] rfl) undef (ResL.cons (ResV.tmp rfl) ResL.nil) rfl rfl rfl rfl
 refine OpsQ.yes (Want.plain rfl) rfl (OpR.pure rfl) ?_
 refine OpsQ.yes (Want.plain rfl) rfl (OpR.pure rfl) ?_
 refine OpsQ.yes (Want.plain rfl) rfl (OpR.pure rfl) ?_
 refine OpsQ.yes (Want.plain rfl) rfl (OpR.pure rfl) ?_
 refine OpsQ.yes (Want.plain rfl) rfl (OpR.pure rfl) ?_
 refine OpsQ.yes (Want.plain rfl) rfl (OpR.pure rfl) ?_
 refine OpsQ.yes (Want.plain rfl) rfl (OpR.pure rfl) ?_
 refine OpsQ.yes (Want.plain rfl) rfl (OpR.pure rfl) ?_
 refine OpsQ.yes (Want.plain rfl) rfl (OpR.pure rfl) ?_
 refine OpsQ.yes (Want.plain rfl) rfl (OpR.pure rfl) ?_
 refine OpsQ.yes (Want.plain rfl) rfl (OpR.pure rfl) ?_
 refine OpsQ.yes (Want.plain rfl) rfl (OpR.pure rfl) ?_
 refine OpsQ.yes (Want.plain rfl) rfl (OpR.indexM eNP hx7 rfl rfl rfl rfl rfl) ?_
 refine OpsQ.yes (Want.plain rfl) rfl (OpR.pure rfl) ?_
 refine OpsQ.yes (Want.plain rfl) rfl (OpR.pure rfl) ?_
 refine OpsQ.yes (Want.plain rfl) rfl (OpR.pure rfl) ?_
 refine OpsQ.yes (Want.plain rfl) rfl (OpR.call0 fn78 (ih hx9) rfl) ?_
 refine OpsQ.yes (Want.plain rfl) rfl (OpR.call0 fn92 (tree_splice_tree_Node_int_c hx10) rfl) ?_
 refine OpsQ.yes (Want.plain rfl) rfl (OpR.call0 fn74 (tree_inners_int_c hx11) rfl) ?_
 refine OpsQ.yes (Want.plain rfl) rfl (OpR.pure rfl) ?_
 exact OpsQ.nil
noncomputable def tree_Tree_int_Insert (a0 : tree_Tree_int) (a1 : Int) (a2 : Int) : Option (tree_Tree_int × Bool) :=
  bnd (if a1 < 0 then
    some true
  else
    bnd (tree_Tree_int_Len a0) fun x4 =>
    some (decide (a1 > x4)) : Option Bool) fun t2 =>
  if t2 = true then
    some (a0, false)
  else
    bnd (some a0.fRoot) fun q6 => match q6 with
      | none =>
        bnd (tree_Of_int [a2]) fun x8 =>
        some (x8, true)
      | some z7 =>
        bnd (o_tree_Node_int z7) fun x9 =>
        bnd (tree_Node_int_put 64 x9.fKids x9.fItems x9.fN a1 a2) fun x10 =>
        bnd (tree_above_int x10) fun x11 =>
        some (x11, true)
set_option maxHeartbeats 4000000 in
theorem tree_Tree_int_Insert_c {a0 : tree_Tree_int} {a1 : Int} {a2 : Int} {res : tree_Tree_int × Bool} (h0 : tree_Tree_int_Insert a0 a1 a2 = some res) : CallF X 49 [.agg [(eOP a0.fRoot)], .val (.int .i64 a1), .val (.int .i64 a2)] [] (fun x => .tup [.agg [(eOP res.1.fRoot)], .val (.bool res.2)]) (fun x => []) := by
 unfold tree_Tree_int_Insert at h0
 refine CallF.mkG (X := X) rfl Try.func49 rfl rfl Try.ntmps49 rfl rfl ?_
 refine T.seq ?_
 refine T.region ?_
 refine TL.op1 (OpR.boxImm rfl rfl) rfl ?_
 refine TL.op (OpR.alloc rfl rfl (fun _ => rfl)) rfl (fun p1 => ?_)
 refine TL.op1 (OpR.pure rfl) rfl ?_
 refine TL.nil ?_
 show T X _ _ _
 refine T.seq ?_
 refine T.block ?_
 refine T.seq ?_
 obtain ⟨t2, ht2, h0⟩ := bnd_some h0
 refine T.cutC (fun S' => S' = ⟨[(8, .val (.bool t2)), (7, .val (.bool false)), (6, .val (.pointer (some ⟨(blk p1), 0, none⟩))), (3, .nod [(eOP a0.fRoot)]), (2, .val (.int .i64 a2)), (1, .val (.int .i64 a1))], [.var (blk p1) [(eOP none)] 27], 31⟩) (fun _ h => h) ?_ ?_
 · refine T.region ?_
   refine TL.op1 (OpR.pure rfl) rfl ?_
   refine TL.op1 (OpR.pure rfl) rfl ?_
   refine TL.op1 (OpR.pure rfl) rfl ?_
   rcases ite_some ht2 with ⟨c3, ht2⟩ | ⟨c3, ht2⟩
   · refine TL.off rfl rfl rfl rfl (decide_eq_true c3) rfl rfl ?_
     refine TL.off rfl rfl rfl rfl (decide_eq_true c3) rfl rfl ?_
     refine TL.off rfl rfl rfl rfl (decide_eq_true c3) rfl rfl ?_
     refine TL.off rfl rfl rfl rfl (decide_eq_true c3) rfl rfl ?_
     refine TL.op1 (OpR.pickT rfl (decide_eq_true c3) rfl) rfl ?_
     refine TL.op1 (OpR.pure rfl) rfl ?_
     refine TL.nil ?_
     obtain rfl := Option.some.inj ht2
     exact ⟨_, Gst.only [1, 2, 3, 6, 7, 8] rfl, rfl⟩
   refine TL.on rfl rfl rfl rfl (decide_eq_false c3) ?_
   refine TL.op1 (OpR.pure rfl) rfl ?_
   refine TL.on rfl rfl rfl rfl (decide_eq_false c3) ?_
   refine TL.op1 (OpR.pure rfl) rfl ?_
   refine TL.on rfl rfl rfl rfl (decide_eq_false c3) ?_
   obtain ⟨x4, hx4, ht2⟩ := bnd_some ht2
   refine TL.op1 (OpR.call0 fn45 (tree_Tree_int_Len_c hx4) rfl) rfl ?_
   refine TL.on rfl rfl rfl rfl (decide_eq_false c3) ?_
   refine TL.op1 (OpR.pure rfl) rfl ?_
   refine TL.op1 (OpR.pickF rfl (decide_eq_false c3) rfl) rfl ?_
   refine TL.op1 (OpR.pure rfl) rfl ?_
   refine TL.nil ?_
   obtain rfl := Option.some.inj ht2
   exact ⟨_, Gst.only [1, 2, 3, 6, 7, 8] rfl, rfl⟩
 rintro _ rfl
 show T X _ _ _
 rcases ite_some h0 with ⟨c5, h0⟩ | ⟨c5, h0⟩
 · refine T.condT rfl (c5) ?_
   refine T.seq ?_
   refine T.region ?_
   refine TL.op1 (OpR.pure rfl) rfl ?_
   refine TL.op0 (OpR.store 0 rfl rfl rfl rfl rfl rfl rfl rfl) ?_
   refine TL.op1 (OpR.pure rfl) rfl ?_
   refine TL.nil ?_
   show T X _ _ _
   refine T.ret ?_
   obtain rfl := Option.some.inj h0
   exact PostG.retP (ks := []) (Gst.only [6, 7] rfl) undef (ResL.cons (ResV.var 0 rfl rfl rfl rfl) (ResL.cons (ResV.tmp rfl) ResL.nil)) rfl rfl rfl rfl
 refine T.condF rfl (eq_false_of_ne_true c5) ?_
 refine T.seq ?_
 refine T.region ?_
 refine TL.op1 (OpR.pure rfl) rfl ?_
 obtain ⟨q6, hq6, h0⟩ := bnd_some h0
 rcases q6 with _ | z7
 · dsimp only at h0
   refine TL.op1 (OpR.cast (OpR.pure rfl) (congrArg eOP (Option.some.inj hq6))) rfl ?_
   refine TL.op1 (OpR.ptrNil rfl rfl rfl) rfl ?_
   refine TL.op1 (OpR.pure rfl) rfl ?_
   refine TL.nil ?_
   show T X _ _ _
   refine T.condT rfl rfl ?_
   refine T.seq ?_
   refine T.region ?_
   refine TL.op1 (OpR.pure rfl) rfl ?_
   refine TL.op1 (OpR.lit rfl rfl rfl rfl rfl rfl rfl) rfl ?_
   obtain ⟨x8, hx8, h0⟩ := bnd_some h0
   refine TL.op1 (OpR.call0 fn12 (tree_Of_int_c hx8) rfl) rfl ?_
   refine TL.op0 (OpR.store 0 rfl rfl rfl rfl rfl rfl rfl rfl) ?_
   refine TL.op1 (OpR.pure rfl) rfl ?_
   refine TL.nil ?_
   show T X _ _ _
   refine T.ret ?_
   obtain rfl := Option.some.inj h0
   exact PostG.retP (ks := []) (Gst.only [6, 7] rfl) undef (ResL.cons (ResV.var 0 rfl rfl rfl rfl) (ResL.cons (ResV.tmp rfl) ResL.nil)) rfl rfl rfl rfl
 dsimp only at h0
 obtain ⟨x9, hx9, h0⟩ := bnd_some h0
 rw [o_tree_Node_int_eq hx9] at hq6
 refine TL.op1 (OpR.cast (OpR.pure rfl) (congrArg eOP (Option.some.inj hq6))) rfl ?_
 refine TL.op1 (OpR.nodNil rfl rfl rfl) rfl ?_
 refine TL.op1 (OpR.pure rfl) rfl ?_
 refine TL.nil ?_
 show T X _ _ _
 refine T.condF rfl rfl ?_
 refine T.skip ?_
 show T X _ _ _
 refine T.seq ?_
 refine T.region ?_
 refine TL.op1 (OpR.pure rfl) rfl ?_
 refine TL.op1 (OpR.cast (OpR.pure rfl) (congrArg eOP (Option.some.inj hq6))) rfl ?_
 refine TL.op1 (OpR.pure rfl) rfl ?_
 refine TL.op1 (OpR.pure rfl) rfl ?_
 obtain ⟨x10, hx10, h0⟩ := bnd_some h0
 refine TL.op1 (OpR.call0 fn78 (tree_Node_int_put_c hx10) rfl) rfl ?_
 obtain ⟨x11, hx11, h0⟩ := bnd_some h0
 refine TL.op1 (OpR.call0 fn43 (tree_above_int_c hx11) rfl) rfl ?_
 refine TL.op0 (OpR.store 0 rfl rfl rfl rfl rfl rfl rfl rfl) ?_
 refine TL.op1 (OpR.pure rfl) rfl ?_
 refine TL.nil ?_
 show T X _ _ _
 refine T.ret ?_
 obtain rfl := Option.some.inj h0
 exact PostG.retP (ks := []) (Gst.only [6, 7] rfl) undef (ResL.cons (ResV.var 0 rfl rfl rfl rfl) (ResL.cons (ResV.tmp rfl) ResL.nil)) rfl rfl rfl rfl
noncomputable def tree_Tree_int_has (a0 : tree_Tree_int) (a1 : Int) : Option Bool :=
  bnd (if a1 ≥ 0 then
    bnd (tree_Tree_int_Len a0) fun x3 =>
    some (decide (a1 < x3))
  else
    some false : Option Bool) fun t1 =>
  some t1
set_option maxHeartbeats 4000000 in
theorem tree_Tree_int_has_c {a0 : tree_Tree_int} {a1 : Int} {res : Bool} (h0 : tree_Tree_int_has a0 a1 = some res) : CallF X 79 [.agg [(eOP a0.fRoot)], .val (.int .i64 a1)] [] (fun x => .val (.bool res)) (fun x => []) := by
 unfold tree_Tree_int_has at h0
 refine CallF.mkG (X := X) rfl Try.func79 rfl rfl Try.ntmps79 rfl rfl ?_
 refine T.seq ?_
 refine T.region ?_
 refine TL.op1 (OpR.boxImm rfl rfl) rfl ?_
 refine TL.op1 (OpR.pure rfl) rfl ?_
 refine TL.nil ?_
 show T X _ _ _
 refine T.seq ?_
 obtain ⟨t1, ht1, h0⟩ := bnd_some h0
 refine T.cutC (fun S' => S' = ⟨[(4, .val (.bool t1))], [], 13⟩) (fun _ h => h) ?_ ?_
 rotate_left
 · rintro _ rfl
   show T X _ _ _
   refine T.ret ?_
   obtain rfl := Option.some.inj h0
   exact PostG.retP (ks := []) (Gst.only [4] rfl) undef (ResL.cons (ResV.tmp rfl) ResL.nil) rfl rfl rfl rfl
 refine T.region ?_
 refine TL.op1 (OpR.pure rfl) rfl ?_
 refine TL.op1 (OpR.pure rfl) rfl ?_
 refine TL.op1 (OpR.pure rfl) rfl ?_
 rcases ite_some ht1 with ⟨c2, ht1⟩ | ⟨c2, ht1⟩
 rotate_left
 · refine TL.off rfl rfl rfl rfl (decide_eq_false c2) rfl rfl ?_
   refine TL.off rfl rfl rfl rfl (decide_eq_false c2) rfl rfl ?_
   refine TL.off rfl rfl rfl rfl (decide_eq_false c2) rfl rfl ?_
   refine TL.off rfl rfl rfl rfl (decide_eq_false c2) rfl rfl ?_
   refine TL.op1 (OpR.pickF rfl (decide_eq_false c2) rfl) rfl ?_
   refine TL.op1 (OpR.pure rfl) rfl ?_
   refine TL.nil ?_
   obtain rfl := Option.some.inj ht1
   exact ⟨_, Gst.only [4] rfl, rfl⟩
 refine TL.on rfl rfl rfl rfl (decide_eq_true c2) ?_
 refine TL.op1 (OpR.pure rfl) rfl ?_
 refine TL.on rfl rfl rfl rfl (decide_eq_true c2) ?_
 refine TL.op1 (OpR.pure rfl) rfl ?_
 refine TL.on rfl rfl rfl rfl (decide_eq_true c2) ?_
 obtain ⟨x3, hx3, ht1⟩ := bnd_some ht1
 refine TL.op1 (OpR.call0 fn45 (tree_Tree_int_Len_c hx3) rfl) rfl ?_
 refine TL.on rfl rfl rfl rfl (decide_eq_true c2) ?_
 refine TL.op1 (OpR.pure rfl) rfl ?_
 refine TL.op1 (OpR.pickT rfl (decide_eq_true c2) rfl) rfl ?_
 refine TL.op1 (OpR.pure rfl) rfl ?_
 refine TL.nil ?_
 obtain rfl := Option.some.inj ht1
 exact ⟨_, Gst.only [4] rfl, rfl⟩
noncomputable def tree_Tree_int_At.l1 (s6 : Unit) : Option (Lp Unit (Int × Bool)) :=
  none
noncomputable def tree_Tree_int_At.l2 (s16 : Int × (List NP) × (List Int) × Int) : Option (Lp (Int × (List NP) × (List Int) × Int) (Int × (List NP) × (List Int) × Int)) :=
  bnd (tree_Node_int_flat s16.2.1 s16.2.2.1 s16.2.2.2) fun x24 =>
  if x24 = true then
    some (Lp.done (s16.1, s16.2.1, s16.2.2.1, s16.2.2.2))
  else
    bnd (tree_Node_int_kid s16.2.1 s16.2.2.1 s16.2.2.2 s16.1) fun x26 =>
    bnd (idx s16.2.1 x26.1) fun x27 =>
    bnd (o_tree_Node_int x27) fun x28 =>
    some (Lp.next (x26.2, x28.fKids, x28.fItems, x28.fN))
noncomputable def tree_Tree_int_At (a0 : tree_Tree_int) (a1 : Int) : Option (Int × Bool) :=
  bnd (tree_Tree_int_has a0 a1) fun x1 =>
  if x1 = true then
    bnd (some a0.fRoot) fun q3 => match q3 with
      | none =>
        loop tree_Tree_int_At.l1 ()
      | some z4 =>
        bnd (o_tree_Node_int z4) fun x14 =>
        bnd (loop tree_Tree_int_At.l2 (a1, x14.fKids, x14.fItems, x14.fN) : Option (Int × (List NP) × (List Int) × Int)) fun t15 =>
        bnd (idx t15.2.2.1 t15.1) fun x29 =>
        some (x29, true)
  else
    some (0, false)
set_option maxHeartbeats 4000000 in
theorem tree_Tree_int_At_c {a0 : tree_Tree_int} {a1 : Int} {res : Int × Bool} (h0 : tree_Tree_int_At a0 a1 = some res) : CallF X 55 [.agg [(eOP a0.fRoot)], .val (.int .i64 a1)] [] (fun x => .tup [.val (.int .i64 res.1), .val (.bool res.2)]) (fun x => []) := by
 unfold tree_Tree_int_At at h0
 refine CallF.mkG (X := X) rfl Try.func55 rfl rfl Try.ntmps55 rfl rfl ?_
 refine T.seq ?_
 refine T.region ?_
 refine TL.op1 (OpR.boxImm rfl rfl) rfl ?_
 refine TL.op1 (OpR.pure rfl) rfl ?_
 refine TL.op1 (OpR.pure rfl) rfl ?_
 refine TL.nil ?_
 show T X _ _ _
 refine T.seq ?_
 refine T.seq ?_
 refine T.region ?_
 refine TL.op1 (OpR.pure rfl) rfl ?_
 refine TL.op1 (OpR.pure rfl) rfl ?_
 obtain ⟨x1, hx1, h0⟩ := bnd_some h0
 refine TL.op1 (OpR.call0 fn79 (tree_Tree_int_has_c hx1) rfl) rfl ?_
 refine TL.op1 (OpR.pure rfl) rfl ?_
 refine TL.nil ?_
 show T X _ _ _
 rcases ite_some h0 with ⟨c2, h0⟩ | ⟨c2, h0⟩
 rotate_left
 · refine T.condT rfl (not_f (eq_false_of_ne_true c2)) ?_
   refine T.seq ?_
   refine T.region ?_
   refine TL.op1 (OpR.pure rfl) rfl ?_
   refine TL.nil ?_
   show T X _ _ _
   refine T.seq ?_
   refine T.region ?_
   refine TL.op1 (OpR.pure rfl) rfl ?_
   refine TL.op1 (OpR.pure rfl) rfl ?_
   refine TL.op1 (OpR.pure rfl) rfl ?_
   refine TL.nil ?_
   show T X _ _ _
   refine T.ret ?_
   obtain rfl := Option.some.inj h0
   exact PostG.retP (ks := []) (Gst.only [4, 5] rfl) undef (ResL.cons (ResV.tmp rfl) (ResL.cons (ResV.tmp rfl) ResL.nil)) rfl rfl rfl rfl
 refine T.condF rfl (not_t (c2)) ?_
 refine T.skip ?_
 show T X _ _ _
 refine T.seq ?_
 refine T.region ?_
 refine TL.op1 (OpR.pure rfl) rfl ?_
 obtain ⟨q3, hq3, h0⟩ := bnd_some h0
 rcases q3 with _ | z4
 · dsimp only at h0
   refine TL.op1 (OpR.cast (OpR.pure rfl) (congrArg eOP (Option.some.inj hq3))) rfl ?_
   refine TL.op1 (OpR.pure rfl) rfl ?_
   refine TL.nil ?_
   show T X _ _ _
   refine T.seq ?_
   refine T.block ?_
   obtain ⟨n7, n12⟩ := loop_some h0
   refine T.loop (fun n S' => ∃ S'', Gst S' S'' ∧ ∃ s6 : Unit, S'' = ⟨[(7, .val (.pointer none)), (5, .val (.bool false)), (4, .val (.int .i64 0)), (1, .val (.int .i64 a1))], [], 41⟩ ∧ iter tree_Tree_int_At.l1 n s6 = some res) n7 ?_ ?_
   · exact ⟨_, Gst.only [1, 4, 5, 7] rfl, (), rfl, n12⟩
   rintro n7 _ ⟨_, g, s6, rfl, i11⟩
   refine T.ghost g ?_
   obtain ⟨m8, q9, rfl, q10, i11⟩ := iter_succ i11
   unfold tree_Tree_int_At.l1 at q10
   refine T.seq ?_
   refine T.seq ?_
   refine T.region ?_
   refine TL.op1 (OpR.pure rfl) rfl ?_
   exact (by cases q10)
 dsimp only at h0
 obtain ⟨x14, hx14, h0⟩ := bnd_some h0
 rw [o_tree_Node_int_eq hx14] at hq3
 refine TL.op1 (OpR.cast (OpR.pure rfl) (congrArg eOP (Option.some.inj hq3))) rfl ?_
 refine TL.op1 (OpR.pure rfl) rfl ?_
 refine TL.nil ?_
 show T X _ _ _
 refine T.seq ?_
 obtain ⟨t15, ht15, h0⟩ := bnd_some h0
 refine T.cutC (fun S' => S' = ⟨[(7, .nod [.sl 1 (List.map eNP t15.2.1), .sl 1 (List.map (eI .i64) t15.2.2.1), .val (.int .i64 t15.2.2.2)]), (5, .val (.bool false)), (4, .val (.int .i64 0)), (1, .val (.int .i64 t15.1))], [], 41⟩) (fun _ h => h) ?_ ?_
 rotate_left
 · rintro _ rfl
   show T X _ _ _
   refine T.seq ?_
   refine T.region ?_
   refine TL.op1 (OpR.pure rfl) rfl ?_
   refine TL.op1 (OpR.pure rfl) rfl ?_
   refine TL.op1 (OpR.pure rfl) rfl ?_
   refine TL.op1 (OpR.pure rfl) rfl ?_
   refine TL.op1 (OpR.pure rfl) rfl ?_
   obtain ⟨x29, hx29, h0⟩ := bnd_some h0
   refine TL.op1 (OpR.indexM (eI .i64) hx29 rfl rfl rfl rfl rfl) rfl ?_
   refine TL.op1 (OpR.pure rfl) rfl ?_
   refine TL.op1 (OpR.pure rfl) rfl ?_
   refine TL.op1 (OpR.pure rfl) rfl ?_
   refine TL.nil ?_
   show T X _ _ _
   refine T.ret ?_
   obtain rfl := Option.some.inj h0
   exact PostG.retP (ks := []) (Gst.only [4, 5] rfl) undef (ResL.cons (ResV.tmp rfl) (ResL.cons (ResV.tmp rfl) ResL.nil)) rfl rfl rfl rfl
 refine T.block ?_
 obtain ⟨n17, n22⟩ := loop_some ht15
 refine T.loop (fun n S' => ∃ S'', Gst S' S'' ∧ ∃ s16 : Int × (List NP) × (List Int) × Int, S'' = ⟨[(7, .nod [.sl 1 (List.map eNP s16.2.1), .sl 1 (List.map (eI .i64) s16.2.2.1), .val (.int .i64 s16.2.2.2)]), (5, .val (.bool false)), (4, .val (.int .i64 0)), (1, .val (.int .i64 s16.1))], [], 41⟩ ∧ iter tree_Tree_int_At.l2 n s16 = some t15) n17 ?_ ?_
 · exact ⟨_, Gst.only [1, 4, 5, 7] rfl, (a1, x14.fKids, x14.fItems, x14.fN), rfl, n22⟩
 rintro n17 _ ⟨_, g, s16, rfl, i21⟩
 refine T.ghost g ?_
 obtain ⟨m18, q19, rfl, q20, i21⟩ := iter_succ i21
 unfold tree_Tree_int_At.l2 at q20
 refine T.seq ?_
 refine T.seq ?_
 refine T.region ?_
 refine TL.op1 (OpR.pure rfl) rfl ?_
 obtain ⟨x24, hx24, q20⟩ := bnd_some q20
 refine TL.op1 (OpR.call0 fn82 (tree_Node_int_flat_c hx24) rfl) rfl ?_
 refine TL.op1 (OpR.pure rfl) rfl ?_
 refine TL.nil ?_
 show T X _ _ _
 rcases ite_some q20 with ⟨c25, q20⟩ | ⟨c25, q20⟩
 · refine T.condF rfl (not_t (c25)) ?_
   refine T.exit ?_
   obtain rfl := Option.some.inj q20
   obtain rfl : _ = _ := i21
   exact ⟨_, Gst.only [1, 4, 5, 7] rfl, rfl⟩
 refine T.condT rfl (not_f (eq_false_of_ne_true c25)) ?_
 refine T.skip ?_
 show T X _ _ _
 refine T.block ?_
 refine T.seq ?_
 refine T.region ?_
 refine TL.op1 (OpR.pure rfl) rfl ?_
 refine TL.op1 (OpR.pure rfl) rfl ?_
 obtain ⟨x26, hx26, q20⟩ := bnd_some q20
 refine TL.op1 (OpR.call0 fn83 (tree_Node_int_kid_c hx26) rfl) rfl ?_
 refine TL.op1 (OpR.pure rfl) rfl ?_
 refine TL.op1 (OpR.pure rfl) rfl ?_
 refine TL.op1 (OpR.pure rfl) rfl ?_
 refine TL.op1 (OpR.pure rfl) rfl ?_
 refine TL.op1 (OpR.pure rfl) rfl ?_
 refine TL.nil ?_
 show T X _ _ _
 refine T.region ?_
 refine TL.op1 (OpR.pure rfl) rfl ?_
 refine TL.op1 (OpR.pure rfl) rfl ?_
 refine TL.op1 (OpR.pure rfl) rfl ?_
 refine TL.op1 (OpR.pure rfl) rfl ?_
 refine TL.op1 (OpR.pure rfl) rfl ?_
 obtain ⟨x27, hx27, q20⟩ := bnd_some q20
 obtain ⟨x28, hx28, q20⟩ := bnd_some q20
 rw [o_tree_Node_int_eq hx28] at hx27
 refine TL.op1 (OpR.indexM eNP hx27 rfl rfl rfl rfl rfl) rfl ?_
 refine TL.op1 (OpR.pure rfl) rfl ?_
 refine TL.op1 (OpR.pure rfl) rfl ?_
 refine TL.op1 (OpR.pure rfl) rfl ?_
 refine TL.op1 (OpR.pure rfl) rfl ?_
 refine TL.nil ?_
 obtain rfl := Option.some.inj q20
 exact ⟨m18, Nat.lt_succ_self _, _, Gst.only [1, 4, 5, 7] rfl, (x26.2, x28.fKids, x28.fItems, x28.fN), rfl, i21⟩
noncomputable def law09_awake : Option Bool :=
  bnd (tree_Of_int [1, 2, 3, 4, 5, 6, 7]) fun x1 =>
  bnd (tree_Tree_int_Insert x1 7 8) fun x3 =>
  bnd (tree_Tree_int_Root x1) fun x5 =>
  match x5 with
  | .inl x5 =>
      bnd (tree_Tree_int_At x3.1 7) fun x6 =>
      some false
  | .inr x5 =>
      bnd (tree_Tree_int_At x3.1 7) fun x7 =>
      bnd (if (x5.1.length : Int) = 2 then
        bnd (tree_Tree_int_Height x1) fun x10 =>
        if x10 = 2 then
          if x3.2 = true then
            bnd (tree_Tree_int_Len x3.1) fun x13 =>
            if x13 = 8 then
              if x7.2 = true then
                if x7.1 = 8 then
                  bnd (tree_Tree_int_Len x1) fun x17 =>
                  some (x17 == 7)
                else
                  some false
              else
                some false
            else
              some false
          else
            some false
        else
          some false
      else
        some false : Option Bool) fun t8 =>
      some t8
set_option maxHeartbeats 4000000 in
theorem law09_awake_c {res : Bool} (h0 : law09_awake = some res) : CallF X 17 [] [] (fun x => .val (.bool res)) (fun x => []) := by
 unfold law09_awake at h0
 refine CallF.mkG (X := X) rfl Try.func17 rfl rfl Try.ntmps17 rfl rfl ?_
 refine T.seq ?_
 refine T.region ?_
 refine TL.op1 (OpR.pure rfl) rfl ?_
 refine TL.nil ?_
 show T X _ _ _
 refine T.seq ?_
 refine T.region ?_
 refine TL.op1 (OpR.lit rfl rfl rfl rfl rfl rfl rfl) rfl ?_
 obtain ⟨x1, hx1, h0⟩ := bnd_some h0
 refine TL.op1 (OpR.call0 fn12 (tree_Of_int_c hx1) rfl) rfl ?_
 refine TL.op (OpR.alloc rfl rfl (fun _ => rfl)) rfl (fun p2 => ?_)
 refine TL.op0 (OpR.store 0 rfl rfl rfl rfl rfl rfl rfl rfl) ?_
 refine TL.nil ?_
 show T X _ _ _
 refine T.seq ?_
 refine T.region ?_
 refine TL.op1 (OpR.loadPtr 0 rfl rfl rfl rfl) rfl ?_
 obtain ⟨x3, hx3, h0⟩ := bnd_some h0
 refine TL.op1 (OpR.call0 fn49 (tree_Tree_int_Insert_c hx3) rfl) rfl ?_
 refine TL.op1 (OpR.pure rfl) rfl ?_
 refine TL.op1 (OpR.pure rfl) rfl ?_
 refine TL.op1 (OpR.pure rfl) rfl ?_
 refine TL.op (OpR.alloc rfl rfl (fun _ => rfl)) rfl (fun p4 => ?_)
 refine TL.op0 (OpR.store 1 rfl rfl rfl rfl rfl rfl rfl rfl) ?_
 refine TL.op1 (OpR.pure rfl) rfl ?_
 refine TL.nil ?_
 show T X _ _ _
 refine T.seq ?_
 refine T.region ?_
 refine TL.op1 (OpR.loadPtr 0 rfl rfl rfl rfl) rfl ?_
 obtain ⟨x5, hx5, h0⟩ := bnd_some h0
 rcases x5 with x5 | x5
 · dsimp only at h0
   refine TL.op1 (OpR.call0 fn46 (tree_Tree_int_Root_cx1 hx5) rfl) rfl ?_
   refine TL.op1 (OpR.pure rfl) rfl ?_
   refine TL.nil ?_
   show T X _ _ _
   refine T.seq ?_
   refine T.region ?_
   refine TL.op1 (OpR.loadPtr 1 rfl rfl rfl rfl) rfl ?_
   obtain ⟨x6, hx6, h0⟩ := bnd_some h0
   refine TL.op1 (OpR.call0 fn55 (tree_Tree_int_At_c hx6) rfl) rfl ?_
   refine TL.op1 (OpR.pure rfl) rfl ?_
   refine TL.op1 (OpR.pure rfl) rfl ?_
   refine TL.op1 (OpR.pure rfl) rfl ?_
   refine TL.op1 (OpR.pure rfl) rfl ?_
   refine TL.op1 (OpR.pure rfl) rfl ?_
   refine TL.nil ?_
   show T X _ _ _
   refine T.seq ?_
   refine T.region ?_
   refine TL.op1 (OpR.pure rfl) rfl ?_
   refine TL.op1 (OpR.ptrNe rfl rfl rfl) rfl ?_
   refine TL.op1 (OpR.pure rfl) rfl ?_
   refine TL.off rfl rfl rfl rfl rfl rfl rfl ?_
   refine TL.off rfl rfl rfl rfl rfl rfl rfl ?_
   refine TL.off rfl rfl rfl rfl rfl rfl rfl ?_
   refine TL.off rfl rfl rfl rfl rfl rfl rfl ?_
   refine TL.off rfl rfl rfl rfl rfl rfl rfl ?_
   refine TL.off rfl rfl rfl rfl rfl rfl rfl ?_
   refine TL.op1 (OpR.pickF rfl rfl rfl) rfl ?_
   refine TL.op1 (OpR.pure rfl) rfl ?_
   refine TL.off rfl rfl rfl rfl rfl rfl rfl ?_
   refine TL.off rfl rfl rfl rfl rfl rfl rfl ?_
   refine TL.off rfl rfl rfl rfl rfl rfl rfl ?_
   refine TL.op1 (OpR.pickF rfl rfl rfl) rfl ?_
   refine TL.op1 (OpR.pure rfl) rfl ?_
   refine TL.off rfl rfl rfl rfl rfl rfl rfl ?_
   refine TL.op1 (OpR.pickF rfl rfl rfl) rfl ?_
   refine TL.op1 (OpR.pure rfl) rfl ?_
   refine TL.off rfl rfl rfl rfl rfl rfl rfl ?_
   refine TL.off rfl rfl rfl rfl rfl rfl rfl ?_
   refine TL.off rfl rfl rfl rfl rfl rfl rfl ?_
   refine TL.op1 (OpR.pickF rfl rfl rfl) rfl ?_
   refine TL.op1 (OpR.pure rfl) rfl ?_
   refine TL.off rfl rfl rfl rfl rfl rfl rfl ?_
   refine TL.op1 (OpR.pickF rfl rfl rfl) rfl ?_
   refine TL.op1 (OpR.pure rfl) rfl ?_
   refine TL.off rfl rfl rfl rfl rfl rfl rfl ?_
   refine TL.off rfl rfl rfl rfl rfl rfl rfl ?_
   refine TL.op1 (OpR.pickF rfl rfl rfl) rfl ?_
   refine TL.op1 (OpR.pure rfl) rfl ?_
   refine TL.off rfl rfl rfl rfl rfl rfl rfl ?_
   refine TL.off rfl rfl rfl rfl rfl rfl rfl ?_
   refine TL.off rfl rfl rfl rfl rfl rfl rfl ?_
   refine TL.op1 (OpR.pickF rfl rfl rfl) rfl ?_
   refine TL.op1 (OpR.pure rfl) rfl ?_
   refine TL.nil ?_
   show T X _ _ _
   refine T.ret ?_
   obtain rfl := Option.some.inj h0
   exact PostG.retP (ks := []) (Gst.trans (Gst.only [0] rfl) (Gst.pick [] rfl rfl)) undef (ResL.cons (ResV.tmp rfl) ResL.nil) rfl rfl rfl rfl
 dsimp only at h0
 refine TL.op1 (OpR.call0 fn46 (tree_Tree_int_Root_cx2 hx5) rfl) rfl ?_
 refine TL.op1 (OpR.pure rfl) rfl ?_
 refine TL.nil ?_
 show T X _ _ _
 refine T.seq ?_
 refine T.region ?_
 refine TL.op1 (OpR.loadPtr 1 rfl rfl rfl rfl) rfl ?_
 obtain ⟨x7, hx7, h0⟩ := bnd_some h0
 refine TL.op1 (OpR.call0 fn55 (tree_Tree_int_At_c hx7) rfl) rfl ?_
 refine TL.op1 (OpR.pure rfl) rfl ?_
 refine TL.op1 (OpR.pure rfl) rfl ?_
 refine TL.op1 (OpR.pure rfl) rfl ?_
 refine TL.op1 (OpR.pure rfl) rfl ?_
 refine TL.op1 (OpR.pure rfl) rfl ?_
 refine TL.nil ?_
 show T X _ _ _
 refine T.seq ?_
 obtain ⟨t8, ht8, h0⟩ := bnd_some h0
 refine T.cutC (fun S' => S' = ⟨[(0, .val (.bool t8))], [], 56⟩) (fun _ h => h) ?_ ?_
 rotate_left
 · rintro _ rfl
   show T X _ _ _
   refine T.ret ?_
   obtain rfl := Option.some.inj h0
   exact PostG.retP (ks := []) (Gst.only [0] rfl) undef (ResL.cons (ResV.tmp rfl) ResL.nil) rfl rfl rfl rfl
 refine T.region ?_
 refine TL.op1 (OpR.pure rfl) rfl ?_
 refine TL.op1 (OpR.nodNe rfl rfl rfl) rfl ?_
 refine TL.op1 (OpR.pure rfl) rfl ?_
 refine TL.on rfl rfl rfl rfl rfl ?_
 refine TL.op1 (OpR.pure rfl) rfl ?_
 refine TL.on rfl rfl rfl rfl rfl ?_
 refine TL.op1 (OpR.pure rfl) rfl ?_
 refine TL.on rfl rfl rfl rfl rfl ?_
 refine TL.op1 (OpR.pure rfl) rfl ?_
 refine TL.on rfl rfl rfl rfl rfl ?_
 refine TL.op1 (OpR.pure rfl) rfl ?_
 refine TL.on rfl rfl rfl rfl rfl ?_
 refine TL.op1 (OpR.cast (OpR.pure rfl) (intE (lenM _ _))) rfl ?_
 refine TL.on rfl rfl rfl rfl rfl ?_
 refine TL.op1 (OpR.pure rfl) rfl ?_
 refine TL.op1 (OpR.pickT rfl rfl rfl) rfl ?_
 refine TL.op1 (OpR.pure rfl) rfl ?_
 rcases ite_some ht8 with ⟨c9, ht8⟩ | ⟨c9, ht8⟩
 rotate_left
 · refine TL.off rfl rfl rfl rfl (beq_eq_false_iff_ne.2 c9) rfl rfl ?_
   refine TL.off rfl rfl rfl rfl (beq_eq_false_iff_ne.2 c9) rfl rfl ?_
   refine TL.off rfl rfl rfl rfl (beq_eq_false_iff_ne.2 c9) rfl rfl ?_
   refine TL.op1 (OpR.pickF rfl (beq_eq_false_iff_ne.2 c9) rfl) rfl ?_
   refine TL.op1 (OpR.pure rfl) rfl ?_
   refine TL.off rfl rfl rfl rfl rfl rfl rfl ?_
   refine TL.op1 (OpR.pickF rfl rfl rfl) rfl ?_
   refine TL.op1 (OpR.pure rfl) rfl ?_
   refine TL.off rfl rfl rfl rfl rfl rfl rfl ?_
   refine TL.off rfl rfl rfl rfl rfl rfl rfl ?_
   refine TL.off rfl rfl rfl rfl rfl rfl rfl ?_
   refine TL.op1 (OpR.pickF rfl rfl rfl) rfl ?_
   refine TL.op1 (OpR.pure rfl) rfl ?_
   refine TL.off rfl rfl rfl rfl rfl rfl rfl ?_
   refine TL.op1 (OpR.pickF rfl rfl rfl) rfl ?_
   refine TL.op1 (OpR.pure rfl) rfl ?_
   refine TL.off rfl rfl rfl rfl rfl rfl rfl ?_
   refine TL.off rfl rfl rfl rfl rfl rfl rfl ?_
   refine TL.op1 (OpR.pickF rfl rfl rfl) rfl ?_
   refine TL.op1 (OpR.pure rfl) rfl ?_
   refine TL.off rfl rfl rfl rfl rfl rfl rfl ?_
   refine TL.off rfl rfl rfl rfl rfl rfl rfl ?_
   refine TL.off rfl rfl rfl rfl rfl rfl rfl ?_
   refine TL.op1 (OpR.pickF rfl rfl rfl) rfl ?_
   refine TL.op1 (OpR.pure rfl) rfl ?_
   refine TL.nil ?_
   obtain rfl := Option.some.inj ht8
   exact ⟨_, Gst.trans (Gst.only [0] rfl) (Gst.pick [] rfl rfl), rfl⟩
 refine TL.on rfl rfl rfl rfl (beq_iff_eq.2 c9) ?_
 refine TL.op1 (OpR.loadPtr 0 rfl rfl rfl rfl) rfl ?_
 refine TL.on rfl rfl rfl rfl (beq_iff_eq.2 c9) ?_
 obtain ⟨x10, hx10, ht8⟩ := bnd_some ht8
 refine TL.op1 (OpR.call0 fn47 (tree_Tree_int_Height_c hx10) rfl) rfl ?_
 refine TL.on rfl rfl rfl rfl (beq_iff_eq.2 c9) ?_
 refine TL.op1 (OpR.pure rfl) rfl ?_
 refine TL.op1 (OpR.pickT rfl (beq_iff_eq.2 c9) rfl) rfl ?_
 refine TL.op1 (OpR.pure rfl) rfl ?_
 rcases ite_some ht8 with ⟨c11, ht8⟩ | ⟨c11, ht8⟩
 rotate_left
 · refine TL.off rfl rfl rfl rfl (beq_eq_false_iff_ne.2 c11) rfl rfl ?_
   refine TL.op1 (OpR.pickF rfl (beq_eq_false_iff_ne.2 c11) rfl) rfl ?_
   refine TL.op1 (OpR.pure rfl) rfl ?_
   refine TL.off rfl rfl rfl rfl rfl rfl rfl ?_
   refine TL.off rfl rfl rfl rfl rfl rfl rfl ?_
   refine TL.off rfl rfl rfl rfl rfl rfl rfl ?_
   refine TL.op1 (OpR.pickF rfl rfl rfl) rfl ?_
   refine TL.op1 (OpR.pure rfl) rfl ?_
   refine TL.off rfl rfl rfl rfl rfl rfl rfl ?_
   refine TL.op1 (OpR.pickF rfl rfl rfl) rfl ?_
   refine TL.op1 (OpR.pure rfl) rfl ?_
   refine TL.off rfl rfl rfl rfl rfl rfl rfl ?_
   refine TL.off rfl rfl rfl rfl rfl rfl rfl ?_
   refine TL.op1 (OpR.pickF rfl rfl rfl) rfl ?_
   refine TL.op1 (OpR.pure rfl) rfl ?_
   refine TL.off rfl rfl rfl rfl rfl rfl rfl ?_
   refine TL.off rfl rfl rfl rfl rfl rfl rfl ?_
   refine TL.off rfl rfl rfl rfl rfl rfl rfl ?_
   refine TL.op1 (OpR.pickF rfl rfl rfl) rfl ?_
   refine TL.op1 (OpR.pure rfl) rfl ?_
   refine TL.nil ?_
   obtain rfl := Option.some.inj ht8
   exact ⟨_, Gst.trans (Gst.only [0] rfl) (Gst.pick [] rfl rfl), rfl⟩
 refine TL.on rfl rfl rfl rfl (beq_iff_eq.2 c11) ?_
 refine TL.op1 (OpR.pure rfl) rfl ?_
 refine TL.op1 (OpR.pickT rfl (beq_iff_eq.2 c11) rfl) rfl ?_
 refine TL.op1 (OpR.pure rfl) rfl ?_
 rcases ite_some ht8 with ⟨c12, ht8⟩ | ⟨c12, ht8⟩
 rotate_left
 · refine TL.off rfl rfl rfl rfl (eq_false_of_ne_true c12) rfl rfl ?_
   refine TL.off rfl rfl rfl rfl (eq_false_of_ne_true c12) rfl rfl ?_
   refine TL.off rfl rfl rfl rfl (eq_false_of_ne_true c12) rfl rfl ?_
   refine TL.op1 (OpR.pickF rfl (eq_false_of_ne_true c12) rfl) rfl ?_
   refine TL.op1 (OpR.pure rfl) rfl ?_
   refine TL.off rfl rfl rfl rfl rfl rfl rfl ?_
   refine TL.op1 (OpR.pickF rfl rfl rfl) rfl ?_
   refine TL.op1 (OpR.pure rfl) rfl ?_
   refine TL.off rfl rfl rfl rfl rfl rfl rfl ?_
   refine TL.off rfl rfl rfl rfl rfl rfl rfl ?_
   refine TL.op1 (OpR.pickF rfl rfl rfl) rfl ?_
   refine TL.op1 (OpR.pure rfl) rfl ?_
   refine TL.off rfl rfl rfl rfl rfl rfl rfl ?_
   refine TL.off rfl rfl rfl rfl rfl rfl rfl ?_
   refine TL.off rfl rfl rfl rfl rfl rfl rfl ?_
   refine TL.op1 (OpR.pickF rfl rfl rfl) rfl ?_
   refine TL.op1 (OpR.pure rfl) rfl ?_
   refine TL.nil ?_
   obtain rfl := Option.some.inj ht8
   exact ⟨_, Gst.trans (Gst.only [0] rfl) (Gst.pick [] rfl rfl), rfl⟩
 refine TL.on rfl rfl rfl rfl (c12) ?_
 refine TL.op1 (OpR.loadPtr 1 rfl rfl rfl rfl) rfl ?_
 refine TL.on rfl rfl rfl rfl (c12) ?_
 obtain ⟨x13, hx13, ht8⟩ := bnd_some ht8
 refine TL.op1 (OpR.call0 fn45 (tree_Tree_int_Len_c hx13) rfl) rfl ?_
 refine TL.on rfl rfl rfl rfl (c12) ?_
 refine TL.op1 (OpR.pure rfl) rfl ?_
 refine TL.op1 (OpR.pickT rfl (c12) rfl) rfl ?_
 refine TL.op1 (OpR.pure rfl) rfl ?_
 rcases ite_some ht8 with ⟨c14, ht8⟩ | ⟨c14, ht8⟩
 rotate_left
 · refine TL.off rfl rfl rfl rfl (beq_eq_false_iff_ne.2 c14) rfl rfl ?_
   refine TL.op1 (OpR.pickF rfl (beq_eq_false_iff_ne.2 c14) rfl) rfl ?_
   refine TL.op1 (OpR.pure rfl) rfl ?_
   refine TL.off rfl rfl rfl rfl rfl rfl rfl ?_
   refine TL.off rfl rfl rfl rfl rfl rfl rfl ?_
   refine TL.op1 (OpR.pickF rfl rfl rfl) rfl ?_
   refine TL.op1 (OpR.pure rfl) rfl ?_
   refine TL.off rfl rfl rfl rfl rfl rfl rfl ?_
   refine TL.off rfl rfl rfl rfl rfl rfl rfl ?_
   refine TL.off rfl rfl rfl rfl rfl rfl rfl ?_
   refine TL.op1 (OpR.pickF rfl rfl rfl) rfl ?_
   refine TL.op1 (OpR.pure rfl) rfl ?_
   refine TL.nil ?_
   obtain rfl := Option.some.inj ht8
   exact ⟨_, Gst.trans (Gst.only [0] rfl) (Gst.pick [] rfl rfl), rfl⟩
 refine TL.on rfl rfl rfl rfl (beq_iff_eq.2 c14) ?_
 refine TL.op1 (OpR.pure rfl) rfl ?_
 refine TL.op1 (OpR.pickT rfl (beq_iff_eq.2 c14) rfl) rfl ?_
 refine TL.op1 (OpR.pure rfl) rfl ?_
 rcases ite_some ht8 with ⟨c15, ht8⟩ | ⟨c15, ht8⟩
 rotate_left
 · refine TL.off rfl rfl rfl rfl (eq_false_of_ne_true c15) rfl rfl ?_
   refine TL.off rfl rfl rfl rfl (eq_false_of_ne_true c15) rfl rfl ?_
   refine TL.op1 (OpR.pickF rfl (eq_false_of_ne_true c15) rfl) rfl ?_
   refine TL.op1 (OpR.pure rfl) rfl ?_
   refine TL.off rfl rfl rfl rfl rfl rfl rfl ?_
   refine TL.off rfl rfl rfl rfl rfl rfl rfl ?_
   refine TL.off rfl rfl rfl rfl rfl rfl rfl ?_
   refine TL.op1 (OpR.pickF rfl rfl rfl) rfl ?_
   refine TL.op1 (OpR.pure rfl) rfl ?_
   refine TL.nil ?_
   obtain rfl := Option.some.inj ht8
   exact ⟨_, Gst.trans (Gst.only [0] rfl) (Gst.pick [] rfl rfl), rfl⟩
 refine TL.on rfl rfl rfl rfl (c15) ?_
 refine TL.op1 (OpR.pure rfl) rfl ?_
 refine TL.on rfl rfl rfl rfl (c15) ?_
 refine TL.op1 (OpR.pure rfl) rfl ?_
 refine TL.op1 (OpR.pickT rfl (c15) rfl) rfl ?_
 refine TL.op1 (OpR.pure rfl) rfl ?_
 rcases ite_some ht8 with ⟨c16, ht8⟩ | ⟨c16, ht8⟩
 rotate_left
 · refine TL.off rfl rfl rfl rfl (beq_eq_false_iff_ne.2 c16) rfl rfl ?_
   refine TL.off rfl rfl rfl rfl (beq_eq_false_iff_ne.2 c16) rfl rfl ?_
   refine TL.off rfl rfl rfl rfl (beq_eq_false_iff_ne.2 c16) rfl rfl ?_
   refine TL.op1 (OpR.pickF rfl (beq_eq_false_iff_ne.2 c16) rfl) rfl ?_
   refine TL.op1 (OpR.pure rfl) rfl ?_
   refine TL.nil ?_
   obtain rfl := Option.some.inj ht8
   exact ⟨_, Gst.trans (Gst.only [0] rfl) (Gst.pick [] rfl rfl), rfl⟩
 refine TL.on rfl rfl rfl rfl (beq_iff_eq.2 c16) ?_
 refine TL.op1 (OpR.loadPtr 0 rfl rfl rfl rfl) rfl ?_
 refine TL.on rfl rfl rfl rfl (beq_iff_eq.2 c16) ?_
 obtain ⟨x17, hx17, ht8⟩ := bnd_some ht8
 refine TL.op1 (OpR.call0 fn45 (tree_Tree_int_Len_c hx17) rfl) rfl ?_
 refine TL.on rfl rfl rfl rfl (beq_iff_eq.2 c16) ?_
 refine TL.op1 (OpR.pure rfl) rfl ?_
 refine TL.op1 (OpR.pickT rfl (beq_iff_eq.2 c16) rfl) rfl ?_
 refine TL.op1 (OpR.pure rfl) rfl ?_
 refine TL.nil ?_
 obtain rfl := Option.some.inj ht8
 exact ⟨_, Gst.trans (Gst.only [0] rfl) (Gst.pick [] rfl rfl), rfl⟩
end Go.Proofs.Ytkmdfaodbiknlaa.S
