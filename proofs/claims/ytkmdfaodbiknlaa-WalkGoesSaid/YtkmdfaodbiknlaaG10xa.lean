/- Printed by a program of this session's own (gen.py): Lean functions for Go functions, and the proofs that the Go code comes to their answers. -/
import Derived.Test.YtkmdfaodbiknlaaG2xa
import Derived.Test.YtkmdfaodbiknlaaG4xa
set_option linter.unusedVariables false
set_option linter.unusedSimpArgs false
set_option maxRecDepth 20000
namespace Go.Proofs.Ytkmdfaodbiknlaa.S
open Go Go.Sm
attribute [local irreducible] T TL OpR CallT iter loop
noncomputable def tree_joined_int.body (self : (List NP) → (List Int) → Int → (List NP) → (List Int) → Int → Int → Int → Option (List NP)) (a0 : List NP) (a1 : List Int) (a2 : Int) (a3 : List NP) (a4 : List Int) (a5 : Int) (a6 : Int) (a7 : Int) : Option (List NP) :=
  if a6 > a7 then
    bnd (idx a0 (w64 ((a0.length : Int) - 1))) fun x3 =>
    bnd (o_tree_Node_int x3) fun x4 =>
    bnd (self x4.fKids x4.fItems x4.fN a3 a4 a5 (w64 (a6 - 1)) a7) fun x5 =>
    bnd (tree_splice_tree_Node_int a0 (w64 ((a0.length : Int) - 1)) (w64 ((w64 ((a0.length : Int) - 1)) + 1)) x5) fun x6 =>
    bnd (tree_inners_int x6) fun x7 =>
    some x7
  else
    if a6 < a7 then
      bnd (idx a3 0) fun x10 =>
      bnd (o_tree_Node_int x10) fun x11 =>
      bnd (self a0 a1 a2 x11.fKids x11.fItems x11.fN a6 (w64 (a7 - 1))) fun x12 =>
      bnd (tree_splice_tree_Node_int a3 0 1 x12) fun x13 =>
      bnd (tree_inners_int x13) fun x14 =>
      some x14
    else
      bnd (tree_glue_int a0 a1 a2 a3 a4 a5) fun x15 =>
      some x15
noncomputable def tree_joined_int : Nat → (List NP) → (List Int) → Int → (List NP) → (List Int) → Int → Int → Int → Option (List NP)
  | 0 => fun _ _ _ _ _ _ _ _ => none
  | n + 1 => tree_joined_int.body (tree_joined_int n)
set_option maxHeartbeats 4000000 in
theorem tree_joined_int_c {fu : Nat} {a0 : List NP} {a1 : List Int} {a2 : Int} {a3 : List NP} {a4 : List Int} {a5 : Int} {a6 : Int} {a7 : Int} {res : (List NP)} (h0 : tree_joined_int fu a0 a1 a2 a3 a4 a5 a6 a7 = some res) : CallF X 64 [.nod [.sl 1 (List.map eNP a0), .sl 1 (List.map (eI .i64) a1), .val (.int .i64 a2)], .nod [.sl 1 (List.map eNP a3), .sl 1 (List.map (eI .i64) a4), .val (.int .i64 a5)], .val (.int .i64 a6), .val (.int .i64 a7)] [] (fun x => .sl 1 (List.map eNP res)) (fun x => []) := by
 induction fu generalizing a0 a1 a2 a3 a4 a5 a6 a7 res
 · exact nomatch h0
 rename_i fu ih
 replace h0 : tree_joined_int.body (tree_joined_int fu) a0 a1 a2 a3 a4 a5 a6 a7 = some res := h0
 unfold tree_joined_int.body at h0
 refine CallF.mkG (X := X) rfl Try.func64 rfl rfl Try.ntmps64 rfl rfl ?_
 refine T.seq ?_
 refine T.region ?_
 refine TL.op1 (OpR.pure rfl) rfl ?_
 refine TL.nil ?_
 show T X _ _ _
 refine T.seq ?_
 refine T.block ?_
 refine T.seq ?_
 refine T.region ?_
 refine TL.op1 (OpR.pure rfl) rfl ?_
 refine TL.op1 (OpR.pure rfl) rfl ?_
 refine TL.op1 (OpR.pure rfl) rfl ?_
 refine TL.op1 (OpR.pure rfl) rfl ?_
 refine TL.nil ?_
 show T X _ _ _
 rcases ite_some h0 with ⟨c1, h0⟩ | ⟨c1, h0⟩
 · refine T.condT rfl (decide_eq_true c1) ?_
   refine T.seq ?_
   refine T.region ?_
   refine TL.op1 (OpR.pure rfl) rfl ?_
   refine TL.op1 (OpR.pure rfl) rfl ?_
   refine TL.op1 (OpR.pure rfl) rfl ?_
   refine TL.op1 (OpR.pure rfl) rfl ?_
   refine TL.op1 (OpR.cast (OpR.pure rfl) (intE (lenM _ _))) rfl ?_
   refine TL.op1 (OpR.pure rfl) rfl ?_
   refine TL.op1 (OpR.pure rfl) rfl ?_
   refine TL.nil ?_
   show T X _ _ _
   refine T.seq ?_
   obtain ⟨x3, hx3, h0⟩ := bnd_some h0
   obtain ⟨x4, hx4, h0⟩ := bnd_some h0
   rw [o_tree_Node_int_eq hx4] at hx3
   obtain ⟨x5, hx5, h0⟩ := bnd_some h0
   obtain ⟨x6, hx6, h0⟩ := bnd_some h0
   obtain ⟨x7, hx7, h0⟩ := bnd_some h0
   refine T.drawQ drawsX [.nod [.sl 1 (List.map eNP a0), .sl 1 (List.map (eI .i64) a1), .val (.int .i64 a2)], .nod [.sl 1 (List.map eNP a0), .sl 1 (List.map (eI .i64) a1), .val (.int .i64 a2)], .nod [.sl 1 (List.map eNP a0), .sl 1 (List.map (eI .i64) a1), .val (.int .i64 a2)], .sl 1 (List.map eNP a0), .val (.int .i64 (w64 ((a0.length : Int) - 1))), .val (.int .i64 (w64 ((a0.length : Int) - 1))), .val (.int .i64 (w64 ((w64 ((a0.length : Int) - 1)) + 1))), .nod [.sl 1 (List.map eNP a0), .sl 1 (List.map (eI .i64) a1), .val (.int .i64 a2)], .nod [.sl 1 (List.map eNP a0), .sl 1 (List.map (eI .i64) a1), .val (.int .i64 a2)], .nod [.sl 1 (List.map eNP a0), .sl 1 (List.map (eI .i64) a1), .val (.int .i64 a2)], .sl 1 (List.map eNP a0), .val (.int .i64 (w64 ((a0.length : Int) - 1))), .nod [.nod [.sl 1 (List.map eNP x4.fKids), .sl 1 (List.map (eI .i64) x4.fItems), .val (.int .i64 x4.fN)]], .nod [.sl 1 (List.map eNP x4.fKids), .sl 1 (List.map (eI .i64) x4.fItems), .val (.int .i64 x4.fN)], .nod [.sl 1 (List.map eNP a3), .sl 1 (List.map (eI .i64) a4), .val (.int .i64 a5)], .val (.int .i64 a6), .val (.int .i64 (w64 (a6 - 1))), .val (.int .i64 a7), .sl 1 (List.map eNP x5), .sl 1 (List.map eNP x6), .sl 1 (List.map eNP x7), .sl 1 (List.map eNP x7)] [0, 1, 2, 3, 8, 9, 10, 11, 12, 13, 14, 15, 16, 17, 18, 19, 20, 21, 22, 23, 24, 25, 26, 27, 28, 29, 30, 31, 32, 33, 34, 35, 36, 37, 38, 39, 40] (by decide +kernel) rfl ?_ rfl ?_
   rotate_left
   · show T X _ _ _
     refine T.ret ?_
     obtain rfl := Option.some.inj h0
     exact PostG.retP (ks := []) (Gst.only [8] rfl) undef (ResL.cons (ResV.tmp rfl) ResL.nil) rfl rfl rfl rfl
   refine OpsQ.yes (Want.plain rfl) rfl (OpR.pure rfl) ?_
   refine OpsQ.yes (Want.plain rfl) rfl (OpR.pure rfl) ?_
   refine OpsQ.yes (Want.plain rfl) rfl (OpR.pure rfl) ?_
   refine OpsQ.yes (Want.plain rfl) rfl (OpR.pure rfl) ?_
   refine OpsQ.yes (Want.plain rfl) rfl (OpR.pure rfl) ?_
   refine OpsQ.yes (Want.plain rfl) rfl (OpR.pure rfl) ?_
   refine OpsQ.yes (Want.plain rfl) rfl (OpR.pure rfl) ?_
   refine OpsQ.yes (Want.plain rfl) rfl (OpR.pure rfl) ?_
   refine OpsQ.yes (Want.plain rfl) rfl (OpR.pure rfl) ?_
   refine OpsQ.yes (Want.plain rfl) rfl (OpR.pure rfl) ?_
   refine OpsQ.yes (Want.plain rfl) rfl (OpR.pure rfl) ?_
   refine OpsQ.yes (Want.plain rfl) rfl (OpR.pure rfl) ?_
   refine OpsQ.yes (Want.plain rfl) rfl (OpR.indexM eNP hx3 rfl rfl rfl rfl rfl) ?_
   refine OpsQ.yes (Want.plain rfl) rfl (OpR.pure rfl) ?_
   refine OpsQ.yes (Want.plain rfl) rfl (OpR.pure rfl) ?_
   refine OpsQ.yes (Want.plain rfl) rfl (OpR.pure rfl) ?_
   refine OpsQ.yes (Want.plain rfl) rfl (OpR.pure rfl) ?_
   refine OpsQ.yes (Want.plain rfl) rfl (OpR.pure rfl) ?_
   refine OpsQ.yes (Want.plain rfl) rfl (OpR.call0 fn64 (ih hx5) rfl) ?_
   refine OpsQ.yes (Want.plain rfl) rfl (OpR.call0 fn92 (tree_splice_tree_Node_int_c hx6) rfl) ?_
   refine OpsQ.yes (Want.plain rfl) rfl (OpR.call0 fn74 (tree_inners_int_c hx7) rfl) ?_
   refine OpsQ.yes (Want.plain rfl) rfl (OpR.pure rfl) ?_
   exact OpsQ.nil
 refine T.condF rfl (decide_eq_false c1) ?_
 refine T.seq ?_
 refine T.region ?_
 refine TL.op1 (OpR.pure rfl) rfl ?_
 refine TL.op1 (OpR.pure rfl) rfl ?_
 refine TL.op1 (OpR.pure rfl) rfl ?_
 refine TL.op1 (OpR.pure rfl) rfl ?_
 refine TL.nil ?_
 show T X _ _ _
 rcases ite_some h0 with ⟨c8, h0⟩ | ⟨c8, h0⟩
 rotate_left
 · refine T.condF rfl (decide_eq_false c8) ?_
   refine T.skip ?_
   show T X _ _ _
   refine T.seq ?_
   refine T.region ?_
   refine TL.op1 (OpR.pure rfl) rfl ?_
   refine TL.op1 (OpR.pure rfl) rfl ?_
   obtain ⟨x15, hx15, h0⟩ := bnd_some h0
   refine TL.op1 (OpR.call0 fn93 (tree_glue_int_c hx15) rfl) rfl ?_
   refine TL.op1 (OpR.pure rfl) rfl ?_
   refine TL.nil ?_
   show T X _ _ _
   refine T.ret ?_
   obtain rfl := Option.some.inj h0
   exact PostG.retP (ks := []) (Gst.only [8] rfl) undef (ResL.cons (ResV.tmp rfl) ResL.nil) rfl rfl rfl rfl
 refine T.condT rfl (decide_eq_true c8) ?_
 refine T.seq ?_
 obtain ⟨x10, hx10, h0⟩ := bnd_some h0
 obtain ⟨x11, hx11, h0⟩ := bnd_some h0
 rw [o_tree_Node_int_eq hx11] at hx10
 obtain ⟨x12, hx12, h0⟩ := bnd_some h0
 obtain ⟨x13, hx13, h0⟩ := bnd_some h0
 obtain ⟨x14, hx14, h0⟩ := bnd_some h0
 refine T.drawQ drawsX [.nod [.sl 1 (List.map eNP a3), .sl 1 (List.map (eI .i64) a4), .val (.int .i64 a5)], .nod [.sl 1 (List.map eNP a3), .sl 1 (List.map (eI .i64) a4), .val (.int .i64 a5)], .nod [.sl 1 (List.map eNP a3), .sl 1 (List.map (eI .i64) a4), .val (.int .i64 a5)], .sl 1 (List.map eNP a3), .nod [.sl 1 (List.map eNP a0), .sl 1 (List.map (eI .i64) a1), .val (.int .i64 a2)], .nod [.sl 1 (List.map eNP a3), .sl 1 (List.map (eI .i64) a4), .val (.int .i64 a5)], .nod [.sl 1 (List.map eNP a3), .sl 1 (List.map (eI .i64) a4), .val (.int .i64 a5)], .nod [.sl 1 (List.map eNP a3), .sl 1 (List.map (eI .i64) a4), .val (.int .i64 a5)], .sl 1 (List.map eNP a3), .nod [.nod [.sl 1 (List.map eNP x11.fKids), .sl 1 (List.map (eI .i64) x11.fItems), .val (.int .i64 x11.fN)]], .nod [.sl 1 (List.map eNP x11.fKids), .sl 1 (List.map (eI .i64) x11.fItems), .val (.int .i64 x11.fN)], .val (.int .i64 a6), .val (.int .i64 a7), .val (.int .i64 (w64 (a7 - 1))), .sl 1 (List.map eNP x12), .sl 1 (List.map eNP x13), .sl 1 (List.map eNP x14), .sl 1 (List.map eNP x14)] [0, 1, 2, 3, 8, 10, 11, 12, 13, 41, 42, 43, 44, 45, 46, 47, 48, 49, 50, 51, 52, 53, 54, 55, 56, 57, 58, 59, 60, 61] (by decide +kernel) rfl ?_ rfl ?_
 rotate_left
 · show T X _ _ _
   refine T.ret ?_
   obtain rfl := Option.some.inj h0
   exact PostG.retP (ks := []) (Gst.only [8] rfl) undef (ResL.cons (ResV.tmp rfl) ResL.nil) rfl rfl rfl rfl
 refine OpsQ.yes (Want.plain rfl) rfl (OpR.pure rfl) ?_
 refine OpsQ.yes (Want.plain rfl) rfl (OpR.pure rfl) ?_
 refine OpsQ.yes (Want.plain rfl) rfl (OpR.pure rfl) ?_
 refine OpsQ.yes (Want.plain rfl) rfl (OpR.pure rfl) ?_
 refine OpsQ.yes (Want.plain rfl) rfl (OpR.pure rfl) ?_
 refine OpsQ.yes (Want.plain rfl) rfl (OpR.pure rfl) ?_
 refine OpsQ.yes (Want.plain rfl) rfl (OpR.pure rfl) ?_
 refine OpsQ.yes (Want.plain rfl) rfl (OpR.pure rfl) ?_
 refine OpsQ.yes (Want.plain rfl) rfl (OpR.pure rfl) ?_
 refine OpsQ.yes (Want.plain rfl) rfl (OpR.indexM eNP hx10 rfl rfl rfl rfl rfl) ?_
 refine OpsQ.yes (Want.plain rfl) rfl (OpR.pure rfl) ?_
 refine OpsQ.yes (Want.plain rfl) rfl (OpR.pure rfl) ?_
 refine OpsQ.yes (Want.plain rfl) rfl (OpR.pure rfl) ?_
 refine OpsQ.yes (Want.plain rfl) rfl (OpR.pure rfl) ?_
 refine OpsQ.yes (Want.plain rfl) rfl (OpR.call0 fn64 (ih hx12) rfl) ?_
 refine OpsQ.yes (Want.plain rfl) rfl (OpR.call0 fn92 (tree_splice_tree_Node_int_c hx13) rfl) ?_
 refine OpsQ.yes (Want.plain rfl) rfl (OpR.call0 fn74 (tree_inners_int_c hx14) rfl) ?_
 refine OpsQ.yes (Want.plain rfl) rfl (OpR.pure rfl) ?_
 exact OpsQ.nil
noncomputable def tree_Join_int (a0 : tree_Tree_int) (a1 : tree_Tree_int) : Option tree_Tree_int :=
  bnd (some a0.fRoot) fun q2 => match q2 with
    | none =>
      some a1
    | some z3 =>
      bnd (o_tree_Node_int z3) fun x4 =>
      bnd (some a1.fRoot) fun q5 => match q5 with
        | none =>
          some a0
        | some z6 =>
          bnd (o_tree_Node_int z6) fun x7 =>
          bnd (tree_Tree_int_Height a0) fun x9 =>
          bnd (tree_Tree_int_Height a1) fun x10 =>
          bnd (tree_joined_int 64 x4.fKids x4.fItems x4.fN x7.fKids x7.fItems x7.fN x9 x10) fun x11 =>
          bnd (tree_above_int x11) fun x12 =>
          some x12
set_option maxHeartbeats 4000000 in
theorem tree_Join_int_c {a0 : tree_Tree_int} {a1 : tree_Tree_int} {res : tree_Tree_int} (h0 : tree_Join_int a0 a1 = some res) : CallF X 25 [.agg [(eOP a0.fRoot)], .agg [(eOP a1.fRoot)]] [] (fun x => .agg [(eOP res.fRoot)]) (fun x => []) := by
 unfold tree_Join_int at h0
 refine CallF.mkG (X := X) rfl Try.func25 rfl rfl Try.ntmps25 rfl rfl ?_
 refine T.seq ?_
 refine T.region ?_
 refine TL.op1 (OpR.boxImm rfl rfl) rfl ?_
 refine TL.op1 (OpR.boxImm rfl rfl) rfl ?_
 refine TL.op (OpR.alloc rfl rfl (fun _ => rfl)) rfl (fun p1 => ?_)
 refine TL.nil ?_
 show T X _ _ _
 refine T.seq ?_
 refine T.block ?_
 refine T.seq ?_
 refine T.region ?_
 refine TL.op1 (OpR.pure rfl) rfl ?_
 obtain ⟨q2, hq2, h0⟩ := bnd_some h0
 rcases q2 with _ | z3
 · dsimp only at h0
   refine TL.op1 (OpR.cast (OpR.pure rfl) (congrArg eOP (Option.some.inj hq2))) rfl ?_
   refine TL.op1 (OpR.ptrNil rfl rfl rfl) rfl ?_
   refine TL.op1 (OpR.pure rfl) rfl ?_
   refine TL.nil ?_
   show T X _ _ _
   refine T.condT rfl rfl ?_
   refine T.seq ?_
   refine T.region ?_
   refine TL.op1 (OpR.pure rfl) rfl ?_
   refine TL.op0 (OpR.store 0 rfl rfl rfl rfl rfl rfl rfl rfl) ?_
   refine TL.nil ?_
   show T X _ _ _
   refine T.ret ?_
   obtain rfl := Option.some.inj h0
   exact PostG.retP (ks := []) (Gst.only [4] rfl) undef (ResL.cons (ResV.var 0 rfl rfl rfl rfl) ResL.nil) rfl rfl rfl rfl
 dsimp only at h0
 obtain ⟨x4, hx4, h0⟩ := bnd_some h0
 rw [o_tree_Node_int_eq hx4] at hq2
 refine TL.op1 (OpR.cast (OpR.pure rfl) (congrArg eOP (Option.some.inj hq2))) rfl ?_
 refine TL.op1 (OpR.nodNil rfl rfl rfl) rfl ?_
 refine TL.op1 (OpR.pure rfl) rfl ?_
 refine TL.nil ?_
 show T X _ _ _
 refine T.condF rfl rfl ?_
 refine T.seq ?_
 refine T.region ?_
 refine TL.op1 (OpR.pure rfl) rfl ?_
 obtain ⟨q5, hq5, h0⟩ := bnd_some h0
 rcases q5 with _ | z6
 · dsimp only at h0
   refine TL.op1 (OpR.cast (OpR.pure rfl) (congrArg eOP (Option.some.inj hq5))) rfl ?_
   refine TL.op1 (OpR.ptrNil rfl rfl rfl) rfl ?_
   refine TL.op1 (OpR.pure rfl) rfl ?_
   refine TL.nil ?_
   show T X _ _ _
   refine T.condT rfl rfl ?_
   refine T.seq ?_
   refine T.region ?_
   refine TL.op1 (OpR.pure rfl) rfl ?_
   refine TL.op0 (OpR.store 0 rfl rfl rfl rfl rfl rfl rfl rfl) ?_
   refine TL.nil ?_
   show T X _ _ _
   refine T.ret ?_
   obtain rfl := Option.some.inj h0
   exact PostG.retP (ks := []) (Gst.only [4] rfl) undef (ResL.cons (ResV.var 0 rfl rfl rfl rfl) ResL.nil) rfl rfl rfl rfl
 dsimp only at h0
 obtain ⟨x7, hx7, h0⟩ := bnd_some h0
 rw [o_tree_Node_int_eq hx7] at hq5
 refine TL.op1 (OpR.cast (OpR.pure rfl) (congrArg eOP (Option.some.inj hq5))) rfl ?_
 refine TL.op1 (OpR.nodNil rfl rfl rfl) rfl ?_
 refine TL.op1 (OpR.pure rfl) rfl ?_
 refine TL.nil ?_
 show T X _ _ _
 refine T.condF rfl rfl ?_
 refine T.skip ?_
 show T X _ _ _
 refine T.seq ?_
 obtain ⟨x9, hx9, h0⟩ := bnd_some h0
 obtain ⟨x10, hx10, h0⟩ := bnd_some h0
 obtain ⟨x11, hx11, h0⟩ := bnd_some h0
 obtain ⟨x12, hx12, h0⟩ := bnd_some h0
 refine T.drawS drawsX (fun env8 => [.nod [(eOP a0.fRoot)], .nod [.sl 1 (List.map eNP x4.fKids), .sl 1 (List.map (eI .i64) x4.fItems), .val (.int .i64 x4.fN)], .nod [(eOP a1.fRoot)], .nod [.sl 1 (List.map eNP x7.fKids), .sl 1 (List.map (eI .i64) x7.fItems), .val (.int .i64 x7.fN)], .agg [(eOP a0.fRoot)], .val (.int .i64 x9), .agg [(eOP a1.fRoot)], .val (.int .i64 x10), .sl 1 (List.map eNP x11), .agg [(eOP x12.fRoot)], .dead]) (fun D env8 => [(bif D 10 then .var (blk p1) [(eOP x12.fRoot)] 27 else .var (blk p1) [(eOP none)] 27)]) [0, 1, 0, 4, 0, 16, 0, 112, 255, 511, 1023] [0, 1, 2, 3, 4, 5, 6, 7, 8, 10, 11, 12, 13, 15, 16, 17, 18, 19, 20, 21, 22, 23, 24] (fun env8 => [.var (blk p1) [(eOP x12.fRoot)] 27]) (by decide +kernel) (by decide +kernel) (fun _ => rfl) (fun _ => rfl) ?_ (fun _ => rfl) (fun _ => rfl) ?_
 rotate_left
 · intro env8
   show T X _ _ _
   refine T.ret ?_
   obtain rfl := Option.some.inj h0
   exact PostG.retP (ks := []) (Gst.only [4] rfl) undef (ResL.cons (ResV.var 0 rfl rfl rfl rfl) ResL.nil) rfl rfl rfl rfl
 refine oS (d := .nod [(eOP a0.fRoot)]) (fun _ => Want.plain rfl) (fun _ => rfl) (fun _ _ _ => rfl) (fun _ _ => OpR.pure rfl) (fun _ _ _ _ _ _ _ => rfl) ?_
 refine oS (d := .nod [.sl 1 (List.map eNP x4.fKids), .sl 1 (List.map (eI .i64) x4.fItems), .val (.int .i64 x4.fN)]) (fun _ => Want.plain rfl) (fun _ => rfl) (fun _ _ _ => rfl) (fun _ _ => OpR.cast (OpR.pure rfl) (congrArg eOP (Option.some.inj hq2))) (fun _ _ _ _ _ _ _ => rfl) ?_
 refine oS (d := .nod [(eOP a1.fRoot)]) (fun _ => Want.plain rfl) (fun _ => rfl) (fun _ _ _ => rfl) (fun _ _ => OpR.pure rfl) (fun _ _ _ _ _ _ _ => rfl) ?_
 refine oS (d := .nod [.sl 1 (List.map eNP x7.fKids), .sl 1 (List.map (eI .i64) x7.fItems), .val (.int .i64 x7.fN)]) (fun _ => Want.plain rfl) (fun _ => rfl) (fun _ _ _ => rfl) (fun _ _ => OpR.cast (OpR.pure rfl) (congrArg eOP (Option.some.inj hq5))) (fun _ _ _ _ _ _ _ => rfl) ?_
 refine oS (d := .agg [(eOP a0.fRoot)]) (fun _ => Want.plain rfl) (fun _ => rfl) (fun _ _ _ => rfl) (fun _ _ => OpR.pure rfl) (fun _ _ _ _ _ _ _ => rfl) ?_
 refine oS (d := .val (.int .i64 x9)) (fun _ => Want.plain rfl) (fun _ => rfl) (fun _ _ _ => rfl) (fun _ _ => OpR.call0 fn47 (tree_Tree_int_Height_c hx9) rfl) (fun _ _ _ _ _ _ _ => rfl) ?_
 refine oS (d := .agg [(eOP a1.fRoot)]) (fun _ => Want.plain rfl) (fun _ => rfl) (fun _ _ _ => rfl) (fun _ _ => OpR.pure rfl) (fun _ _ _ _ _ _ _ => rfl) ?_
 refine oS (d := .val (.int .i64 x10)) (fun _ => Want.plain rfl) (fun _ => rfl) (fun _ _ _ => rfl) (fun _ _ => OpR.call0 fn47 (tree_Tree_int_Height_c hx10) rfl) (fun _ _ _ _ _ _ _ => rfl) ?_
 refine oS (d := .sl 1 (List.map eNP x11)) (fun _ => Want.plain rfl) (fun _ => rfl) (fun _ _ _ => rfl) (fun _ _ => OpR.call0 fn64 (tree_joined_int_c hx11) rfl) (fun _ _ _ _ _ _ _ => rfl) ?_
 refine oS (d := .agg [(eOP x12.fRoot)]) (fun _ => Want.plain rfl) (fun _ => rfl) (fun _ _ _ => rfl) (fun _ _ => OpR.call0 fn43 (tree_above_int_c hx12) rfl) (fun _ _ _ _ _ _ _ => rfl) ?_
 refine OpsS.cons' true ?_ (fun _ _ _ _ _ _ _ => rfl) ?_
 · intro D env8 hA
   exact OpS.yes (o0 := [.var (blk p1) [(eOP none)] 27]) (o1 := fun x => [.var (blk p1) [(eOP x12.fRoot)] 27]) (d := fun x => .dead) (Want.plain rfl) (by first | rfl | simp only [hA.me, cond_true, cond_false, List.cons_append, List.nil_append, List.append_nil]) (fun x => by first | rfl | simp only [ins_self, upd_self, hA.me, cond_true, cond_false, List.cons_append, List.nil_append, List.append_nil]) (fun x => rfl) (OpR.store 0 rfl rfl rfl rfl rfl rfl rfl rfl)
 exact trivial
noncomputable def tree_split_int.body (self : (List NP) → (List Int) → Int → Int → Option (tree_Tree_int × tree_Tree_int)) (a0 : List NP) (a1 : List Int) (a2 : Int) (a3 : Int) : Option (tree_Tree_int × tree_Tree_int) :=
  bnd (tree_Node_int_flat a0 a1 a2) fun x3 =>
  if x3 = true then
    bnd (cut a1 0 a3) fun x6 =>
    bnd (tree_Of_int x6) fun x7 =>
    bnd (cut a1 a3 (a1.length : Int)) fun x8 =>
    bnd (tree_Of_int x8) fun x9 =>
    some (x7, x9)
  else
    bnd (tree_Node_int_kid a0 a1 a2 a3) fun x10 =>
    bnd (idx a0 x10.1) fun x11 =>
    bnd (o_tree_Node_int x11) fun x12 =>
    bnd (self x12.fKids x12.fItems x12.fN x10.2) fun x13 =>
    bnd (cut a0 0 x10.1) fun x17 =>
    bnd (tree_above_int x17) fun x18 =>
    bnd (tree_Join_int x18 x13.1) fun x19 =>
    bnd (cut a0 (w64 (x10.1 + 1)) (a0.length : Int)) fun x20 =>
    bnd (tree_above_int x20) fun x21 =>
    bnd (tree_Join_int x13.2 x21) fun x22 =>
    some (x19, x22)
noncomputable def tree_split_int : Nat → (List NP) → (List Int) → Int → Int → Option (tree_Tree_int × tree_Tree_int)
  | 0 => fun _ _ _ _ => none
  | n + 1 => tree_split_int.body (tree_split_int n)
set_option maxHeartbeats 4000000 in
theorem tree_split_int_c {fu : Nat} {a0 : List NP} {a1 : List Int} {a2 : Int} {a3 : Int} {res : tree_Tree_int × tree_Tree_int} (h0 : tree_split_int fu a0 a1 a2 a3 = some res) : CallF X 63 [.nod [.sl 1 (List.map eNP a0), .sl 1 (List.map (eI .i64) a1), .val (.int .i64 a2)], .val (.int .i64 a3)] [] (fun x => .tup [.agg [(eOP res.1.fRoot)], .agg [(eOP res.2.fRoot)]]) (fun x => []) := by
 induction fu generalizing a0 a1 a2 a3 res
 · exact nomatch h0
 rename_i fu ih
 replace h0 : tree_split_int.body (tree_split_int fu) a0 a1 a2 a3 = some res := h0
 unfold tree_split_int.body at h0
 refine CallF.mkG (X := X) rfl Try.func63 rfl rfl Try.ntmps63 rfl rfl ?_
 refine T.seq ?_
 refine T.region ?_
 refine TL.op (OpR.alloc rfl rfl (fun _ => rfl)) rfl (fun p1 => ?_)
 refine TL.op (OpR.alloc rfl rfl (fun _ => rfl)) rfl (fun p2 => ?_)
 refine TL.nil ?_
 show T X _ _ _
 refine T.seq ?_
 refine T.seq ?_
 refine T.region ?_
 refine TL.op1 (OpR.pure rfl) rfl ?_
 obtain ⟨x3, hx3, h0⟩ := bnd_some h0
 refine TL.op1 (OpR.call0 fn82 (tree_Node_int_flat_c hx3) rfl) rfl ?_
 refine TL.nil ?_
 show T X _ _ _
 rcases ite_some h0 with ⟨c4, h0⟩ | ⟨c4, h0⟩
 · refine T.condT rfl (c4) ?_
   refine T.seq ?_
   obtain ⟨x6, hx6, h0⟩ := bnd_some h0
   obtain ⟨x7, hx7, h0⟩ := bnd_some h0
   obtain ⟨x8, hx8, h0⟩ := bnd_some h0
   obtain ⟨x9, hx9, h0⟩ := bnd_some h0
   refine T.drawS drawsX (fun env5 => [.nod [.sl 1 (List.map eNP a0), .sl 1 (List.map (eI .i64) a1), .val (.int .i64 a2)], .nod [.sl 1 (List.map eNP a0), .sl 1 (List.map (eI .i64) a1), .val (.int .i64 a2)], .nod [.sl 1 (List.map (eI .i64) a1), .val (.int .i64 a2)], .sl 1 (List.map (eI .i64) a1), .val (.int .i64 a3), .sl 1 (List.map (eI .i64) x6), .agg [(eOP x7.fRoot)], .nod [.sl 1 (List.map eNP a0), .sl 1 (List.map (eI .i64) a1), .val (.int .i64 a2)], .nod [.sl 1 (List.map eNP a0), .sl 1 (List.map (eI .i64) a1), .val (.int .i64 a2)], .nod [.sl 1 (List.map (eI .i64) a1), .val (.int .i64 a2)], .sl 1 (List.map (eI .i64) a1), .val (.int .i64 a3), .sl 1 (List.map (eI .i64) x8), .agg [(eOP x9.fRoot)], .dead, .dead]) (fun D env5 => [(bif D 14 then .var (blk p1) [(eOP x7.fRoot)] 27 else .var (blk p1) [(eOP none)] 27), (bif D 15 then .var (blk p2) [(eOP x9.fRoot)] 27 else .var (blk p2) [(eOP none)] 27)]) [0, 1, 3, 7, 0, 31, 63, 0, 128, 384, 896, 0, 3968, 8191, 16383, 32767] [0, 1, 4, 5, 10, 11, 12, 13, 14, 15, 16, 17, 18, 19, 20, 21, 22, 23, 24, 25] (fun env5 => [.var (blk p1) [(eOP x7.fRoot)] 27, .var (blk p2) [(eOP x9.fRoot)] 27]) (by decide +kernel) (by decide +kernel) (fun _ => rfl) (fun _ => rfl) ?_ (fun _ => rfl) (fun _ => rfl) ?_
   rotate_left
   · intro env5
     show T X _ _ _
     refine T.ret ?_
     obtain rfl := Option.some.inj h0
     exact PostG.retP (ks := []) (Gst.only [4, 5] rfl) undef (ResL.cons (ResV.var 0 rfl rfl rfl rfl) (ResL.cons (ResV.var 1 rfl rfl rfl rfl) ResL.nil)) rfl rfl rfl rfl
   refine oS (d := .nod [.sl 1 (List.map eNP a0), .sl 1 (List.map (eI .i64) a1), .val (.int .i64 a2)]) (fun _ => Want.plain rfl) (fun _ => rfl) (fun _ _ _ => rfl) (fun _ _ => OpR.pure rfl) (fun _ _ _ _ _ _ _ => rfl) ?_
   refine oS (d := .nod [.sl 1 (List.map eNP a0), .sl 1 (List.map (eI .i64) a1), .val (.int .i64 a2)]) (fun _ => Want.plain rfl) (fun _ => rfl) (fun _ _ _ => rfl) (fun _ _ => OpR.pure rfl) (fun _ _ _ _ _ _ _ => rfl) ?_
   refine oS (d := .nod [.sl 1 (List.map (eI .i64) a1), .val (.int .i64 a2)]) (fun _ => Want.plain rfl) (fun _ => rfl) (fun _ _ _ => rfl) (fun _ _ => OpR.pure rfl) (fun _ _ _ _ _ _ _ => rfl) ?_
   refine oS (d := .sl 1 (List.map (eI .i64) a1)) (fun _ => Want.plain rfl) (fun _ => rfl) (fun _ _ _ => rfl) (fun _ _ => OpR.pure rfl) (fun _ _ _ _ _ _ _ => rfl) ?_
   refine oS (d := .val (.int .i64 a3)) (fun _ => Want.plain rfl) (fun _ => rfl) (fun _ _ _ => rfl) (fun _ _ => OpR.pure rfl) (fun _ _ _ _ _ _ _ => rfl) ?_
   refine oS (d := .sl 1 (List.map (eI .i64) x6)) (fun _ => Want.plain rfl) (fun _ => rfl) (fun _ _ _ => rfl) (fun _ _ => OpR.sliceM (sz := 1) (eI .i64) hx6 rfl rfl rfl rfl BdM.none (BdM.some rfl) rfl) (fun _ _ _ _ _ _ _ => rfl) ?_
   refine oS (d := .agg [(eOP x7.fRoot)]) (fun _ => Want.plain rfl) (fun _ => rfl) (fun _ _ _ => rfl) (fun _ _ => OpR.call0 fn12 (tree_Of_int_c hx7) rfl) (fun _ _ _ _ _ _ _ => rfl) ?_
   refine oS (d := .nod [.sl 1 (List.map eNP a0), .sl 1 (List.map (eI .i64) a1), .val (.int .i64 a2)]) (fun _ => Want.plain rfl) (fun _ => rfl) (fun _ _ _ => rfl) (fun _ _ => OpR.pure rfl) (fun _ _ _ _ _ _ _ => rfl) ?_
   refine oS (d := .nod [.sl 1 (List.map eNP a0), .sl 1 (List.map (eI .i64) a1), .val (.int .i64 a2)]) (fun _ => Want.plain rfl) (fun _ => rfl) (fun _ _ _ => rfl) (fun _ _ => OpR.pure rfl) (fun _ _ _ _ _ _ _ => rfl) ?_
   refine oS (d := .nod [.sl 1 (List.map (eI .i64) a1), .val (.int .i64 a2)]) (fun _ => Want.plain rfl) (fun _ => rfl) (fun _ _ _ => rfl) (fun _ _ => OpR.pure rfl) (fun _ _ _ _ _ _ _ => rfl) ?_
   refine oS (d := .sl 1 (List.map (eI .i64) a1)) (fun _ => Want.plain rfl) (fun _ => rfl) (fun _ _ _ => rfl) (fun _ _ => OpR.pure rfl) (fun _ _ _ _ _ _ _ => rfl) ?_
   refine oS (d := .val (.int .i64 a3)) (fun _ => Want.plain rfl) (fun _ => rfl) (fun _ _ _ => rfl) (fun _ _ => OpR.pure rfl) (fun _ _ _ _ _ _ _ => rfl) ?_
   refine oS (d := .sl 1 (List.map (eI .i64) x8)) (fun _ => Want.plain rfl) (fun _ => rfl) (fun _ _ _ => rfl) (fun _ _ => OpR.sliceM (sz := 1) (eI .i64) hx8 rfl rfl rfl rfl (BdM.some rfl) BdM.none rfl) (fun _ _ _ _ _ _ _ => rfl) ?_
   refine oS (d := .agg [(eOP x9.fRoot)]) (fun _ => Want.plain rfl) (fun _ => rfl) (fun _ _ _ => rfl) (fun _ _ => OpR.call0 fn12 (tree_Of_int_c hx9) rfl) (fun _ _ _ _ _ _ _ => rfl) ?_
   refine OpsS.cons' true ?_ (fun _ _ _ _ _ _ _ => rfl) ?_
   · intro D env5 hA
     have e15 : D 15 = false := hA.no 15 _ rfl rfl
     exact OpS.yes (o0 := [.var (blk p1) [(eOP none)] 27, .var (blk p2) [(eOP none)] 27]) (o1 := fun x => [.var (blk p1) [(eOP x7.fRoot)] 27, .var (blk p2) [(eOP none)] 27]) (d := fun x => .dead) (Want.plain rfl) (by first | rfl | simp only [e15, hA.me, cond_true, cond_false, List.cons_append, List.nil_append, List.append_nil]) (fun x => by first | rfl | simp only [ins_self, ins_ne D (show 14 ≠ 15 by decide), upd_self, e15, hA.me, cond_true, cond_false, List.cons_append, List.nil_append, List.append_nil]) (fun x => rfl) (OpR.store 0 rfl rfl rfl rfl rfl rfl rfl rfl)
   refine OpsS.cons' true ?_ (fun _ _ _ _ _ _ _ => rfl) ?_
   · intro D env5 hA
     have e14 : D 14 = true := hA.yes 14 _ rfl rfl
     exact OpS.yes (o0 := [.var (blk p1) [(eOP x7.fRoot)] 27, .var (blk p2) [(eOP none)] 27]) (o1 := fun x => [.var (blk p1) [(eOP x7.fRoot)] 27, .var (blk p2) [(eOP x9.fRoot)] 27]) (d := fun x => .dead) (Want.plain rfl) (by first | rfl | simp only [e14, hA.me, cond_true, cond_false, List.cons_append, List.nil_append, List.append_nil]) (fun x => by first | rfl | simp only [ins_self, ins_ne D (show 15 ≠ 14 by decide), upd_self, e14, hA.me, cond_true, cond_false, List.cons_append, List.nil_append, List.append_nil]) (fun x => rfl) (OpR.store 1 rfl rfl rfl rfl rfl rfl rfl rfl)
   exact trivial
 refine T.condF rfl (eq_false_of_ne_true c4) ?_
 refine T.skip ?_
 show T X _ _ _
 refine T.seq ?_
 refine T.region ?_
 refine TL.op1 (OpR.pure rfl) rfl ?_
 refine TL.op1 (OpR.pure rfl) rfl ?_
 obtain ⟨x10, hx10, h0⟩ := bnd_some h0
 refine TL.op1 (OpR.call0 fn83 (tree_Node_int_kid_c hx10) rfl) rfl ?_
 refine TL.op1 (OpR.pure rfl) rfl ?_
 refine TL.op1 (OpR.pure rfl) rfl ?_
 refine TL.op1 (OpR.pure rfl) rfl ?_
 refine TL.op1 (OpR.pure rfl) rfl ?_
 refine TL.op1 (OpR.pure rfl) rfl ?_
 refine TL.nil ?_
 show T X _ _ _
 refine T.seq ?_
 refine T.region ?_
 refine TL.op1 (OpR.pure rfl) rfl ?_
 refine TL.op1 (OpR.pure rfl) rfl ?_
 refine TL.op1 (OpR.pure rfl) rfl ?_
 refine TL.op1 (OpR.pure rfl) rfl ?_
 refine TL.op1 (OpR.pure rfl) rfl ?_
 obtain ⟨x11, hx11, h0⟩ := bnd_some h0
 obtain ⟨x12, hx12, h0⟩ := bnd_some h0
 rw [o_tree_Node_int_eq hx12] at hx11
 refine TL.op1 (OpR.indexM eNP hx11 rfl rfl rfl rfl rfl) rfl ?_
 refine TL.op1 (OpR.pure rfl) rfl ?_
 refine TL.op1 (OpR.pure rfl) rfl ?_
 obtain ⟨x13, hx13, h0⟩ := bnd_some h0
 refine TL.op1 (OpR.call0 fn63 (ih hx13) rfl) rfl ?_
 refine TL.op1 (OpR.pure rfl) rfl ?_
 refine TL.op1 (OpR.pure rfl) rfl ?_
 refine TL.op1 (OpR.pure rfl) rfl ?_
 refine TL.op (OpR.alloc rfl rfl (fun _ => rfl)) rfl (fun p14 => ?_)
 refine TL.op (OpR.alloc rfl rfl (fun _ => rfl)) rfl (fun p15 => ?_)
 refine TL.op0 (OpR.store 2 rfl rfl rfl rfl rfl rfl rfl rfl) ?_
 refine TL.op0 (OpR.store 3 rfl rfl rfl rfl rfl rfl rfl rfl) ?_
 refine TL.nil ?_
 show T X _ _ _
 refine T.seq ?_
 obtain ⟨x17, hx17, h0⟩ := bnd_some h0
 obtain ⟨x18, hx18, h0⟩ := bnd_some h0
 obtain ⟨x19, hx19, h0⟩ := bnd_some h0
 obtain ⟨x20, hx20, h0⟩ := bnd_some h0
 obtain ⟨x21, hx21, h0⟩ := bnd_some h0
 obtain ⟨x22, hx22, h0⟩ := bnd_some h0
 refine T.drawS drawsX (fun env16 => [.nod [.sl 1 (List.map eNP a0), .sl 1 (List.map (eI .i64) a1), .val (.int .i64 a2)], .nod [.sl 1 (List.map eNP a0), .sl 1 (List.map (eI .i64) a1), .val (.int .i64 a2)], .nod [.sl 1 (List.map eNP a0), .sl 1 (List.map (eI .i64) a1), .val (.int .i64 a2)], .sl 1 (List.map eNP a0), .val (.int .i64 x10.1), .sl 1 (List.map eNP x17), .agg [(eOP x18.fRoot)], .agg [(eOP x13.1.fRoot)], .agg [(eOP x19.fRoot)], .agg [(eOP x13.2.fRoot)], .nod [.sl 1 (List.map eNP a0), .sl 1 (List.map (eI .i64) a1), .val (.int .i64 a2)], .nod [.sl 1 (List.map eNP a0), .sl 1 (List.map (eI .i64) a1), .val (.int .i64 a2)], .nod [.sl 1 (List.map eNP a0), .sl 1 (List.map (eI .i64) a1), .val (.int .i64 a2)], .sl 1 (List.map eNP a0), .val (.int .i64 x10.1), .val (.int .i64 (w64 (x10.1 + 1))), .sl 1 (List.map eNP x20), .agg [(eOP x21.fRoot)], .agg [(eOP x22.fRoot)], .dead, .dead]) (fun D env16 => [(bif D 19 then .var (blk p1) [(eOP x19.fRoot)] 27 else .var (blk p1) [(eOP none)] 27), (bif D 20 then .var (blk p2) [(eOP x22.fRoot)] 27 else .var (blk p2) [(eOP none)] 27), .var (blk p14) [(eOP x13.1.fRoot)] 27, .var (blk p15) [(eOP x13.2.fRoot)] 27]) [0, 1, 3, 7, 0, 31, 63, 0, 255, 0, 0, 1024, 3072, 7168, 0, 16384, 64512, 130559, 262143, 524287, 1048575] [0, 1, 4, 5, 6, 7, 8, 9, 10, 11, 26, 27, 28, 29, 30, 31, 32, 33, 34, 35, 36, 37, 38, 39, 40, 41, 42, 43, 44, 45, 46, 47, 48, 49, 50, 51, 52, 53, 54, 55, 56, 57, 58, 59, 60, 61, 62] (fun env16 => [.var (blk p1) [(eOP x19.fRoot)] 27, .var (blk p2) [(eOP x22.fRoot)] 27, .var (blk p14) [(eOP x13.1.fRoot)] 27, .var (blk p15) [(eOP x13.2.fRoot)] 27]) (by decide +kernel) (by decide +kernel) (fun _ => rfl) (fun _ => rfl) ?_ (fun _ => rfl) (fun _ => rfl) ?_
 rotate_left
 · intro env16
   show T X _ _ _
   refine T.ret ?_
   obtain rfl := Option.some.inj h0
   exact PostG.retP (ks := []) (Gst.trans (Gst.only [4, 5] rfl) (Gst.pick [0, 1] rfl rfl)) undef (ResL.cons (ResV.var 0 rfl rfl rfl rfl) (ResL.cons (ResV.var 1 rfl rfl rfl rfl) ResL.nil)) rfl rfl rfl rfl
 refine oS (d := .nod [.sl 1 (List.map eNP a0), .sl 1 (List.map (eI .i64) a1), .val (.int .i64 a2)]) (fun _ => Want.plain rfl) (fun _ => rfl) (fun _ _ _ => rfl) (fun _ _ => OpR.pure rfl) (fun _ _ _ _ _ _ _ => rfl) ?_
 refine oS (d := .nod [.sl 1 (List.map eNP a0), .sl 1 (List.map (eI .i64) a1), .val (.int .i64 a2)]) (fun _ => Want.plain rfl) (fun _ => rfl) (fun _ _ _ => rfl) (fun _ _ => OpR.pure rfl) (fun _ _ _ _ _ _ _ => rfl) ?_
 refine oS (d := .nod [.sl 1 (List.map eNP a0), .sl 1 (List.map (eI .i64) a1), .val (.int .i64 a2)]) (fun _ => Want.plain rfl) (fun _ => rfl) (fun _ _ _ => rfl) (fun _ _ => OpR.pure rfl) (fun _ _ _ _ _ _ _ => rfl) ?_
 refine oS (d := .sl 1 (List.map eNP a0)) (fun _ => Want.plain rfl) (fun _ => rfl) (fun _ _ _ => rfl) (fun _ _ => OpR.pure rfl) (fun _ _ _ _ _ _ _ => rfl) ?_
 refine oS (d := .val (.int .i64 x10.1)) (fun _ => Want.plain rfl) (fun _ => rfl) (fun _ _ _ => rfl) (fun _ _ => OpR.pure rfl) (fun _ _ _ _ _ _ _ => rfl) ?_
 refine oS (d := .sl 1 (List.map eNP x17)) (fun _ => Want.plain rfl) (fun _ => rfl) (fun _ _ _ => rfl) (fun _ _ => OpR.sliceM (sz := 1) eNP hx17 rfl rfl rfl rfl BdM.none (BdM.some rfl) rfl) (fun _ _ _ _ _ _ _ => rfl) ?_
 refine oS (d := .agg [(eOP x18.fRoot)]) (fun _ => Want.plain rfl) (fun _ => rfl) (fun _ _ _ => rfl) (fun _ _ => OpR.call0 fn43 (tree_above_int_c hx18) rfl) (fun _ _ _ _ _ _ _ => rfl) ?_
 refine oS (d := .agg [(eOP x13.1.fRoot)]) (fun _ => Want.plain rfl) (fun _ => rfl) (fun _ _ _ => rfl) (fun _ _ => OpR.loadPtr 2 rfl rfl rfl rfl) (fun _ _ _ _ _ _ _ => rfl) ?_
 refine oS (d := .agg [(eOP x19.fRoot)]) (fun _ => Want.plain rfl) (fun _ => rfl) (fun _ _ _ => rfl) (fun _ _ => OpR.call0 fn25 (tree_Join_int_c hx19) rfl) (fun _ _ _ _ _ _ _ => rfl) ?_
 refine oS (d := .agg [(eOP x13.2.fRoot)]) (fun _ => Want.plain rfl) (fun _ => rfl) (fun _ _ _ => rfl) (fun _ _ => OpR.loadPtr 3 rfl rfl rfl rfl) (fun _ _ _ _ _ _ _ => rfl) ?_
 refine oS (d := .nod [.sl 1 (List.map eNP a0), .sl 1 (List.map (eI .i64) a1), .val (.int .i64 a2)]) (fun _ => Want.plain rfl) (fun _ => rfl) (fun _ _ _ => rfl) (fun _ _ => OpR.pure rfl) (fun _ _ _ _ _ _ _ => rfl) ?_
 refine oS (d := .nod [.sl 1 (List.map eNP a0), .sl 1 (List.map (eI .i64) a1), .val (.int .i64 a2)]) (fun _ => Want.plain rfl) (fun _ => rfl) (fun _ _ _ => rfl) (fun _ _ => OpR.pure rfl) (fun _ _ _ _ _ _ _ => rfl) ?_
 refine oS (d := .nod [.sl 1 (List.map eNP a0), .sl 1 (List.map (eI .i64) a1), .val (.int .i64 a2)]) (fun _ => Want.plain rfl) (fun _ => rfl) (fun _ _ _ => rfl) (fun _ _ => OpR.pure rfl) (fun _ _ _ _ _ _ _ => rfl) ?_
 refine oS (d := .sl 1 (List.map eNP a0)) (fun _ => Want.plain rfl) (fun _ => rfl) (fun _ _ _ => rfl) (fun _ _ => OpR.pure rfl) (fun _ _ _ _ _ _ _ => rfl) ?_
 refine oS (d := .val (.int .i64 x10.1)) (fun _ => Want.plain rfl) (fun _ => rfl) (fun _ _ _ => rfl) (fun _ _ => OpR.pure rfl) (fun _ _ _ _ _ _ _ => rfl) ?_
 refine oS (d := .val (.int .i64 (w64 (x10.1 + 1)))) (fun _ => Want.plain rfl) (fun _ => rfl) (fun _ _ _ => rfl) (fun _ _ => OpR.pure rfl) (fun _ _ _ _ _ _ _ => rfl) ?_
 refine oS (d := .sl 1 (List.map eNP x20)) (fun _ => Want.plain rfl) (fun _ => rfl) (fun _ _ _ => rfl) (fun _ _ => OpR.sliceM (sz := 1) eNP hx20 rfl rfl rfl rfl (BdM.some rfl) BdM.none rfl) (fun _ _ _ _ _ _ _ => rfl) ?_
 refine oS (d := .agg [(eOP x21.fRoot)]) (fun _ => Want.plain rfl) (fun _ => rfl) (fun _ _ _ => rfl) (fun _ _ => OpR.call0 fn43 (tree_above_int_c hx21) rfl) (fun _ _ _ _ _ _ _ => rfl) ?_
 refine oS (d := .agg [(eOP x22.fRoot)]) (fun _ => Want.plain rfl) (fun _ => rfl) (fun _ _ _ => rfl) (fun _ _ => OpR.call0 fn25 (tree_Join_int_c hx22) rfl) (fun _ _ _ _ _ _ _ => rfl) ?_
 refine OpsS.cons' true ?_ (fun _ _ _ _ _ _ _ => rfl) ?_
 · intro D env16 hA
   have e20 : D 20 = false := hA.no 20 _ rfl rfl
   exact OpS.yes (o0 := [.var (blk p1) [(eOP none)] 27, .var (blk p2) [(eOP none)] 27, .var (blk p14) [(eOP x13.1.fRoot)] 27, .var (blk p15) [(eOP x13.2.fRoot)] 27]) (o1 := fun x => [.var (blk p1) [(eOP x19.fRoot)] 27, .var (blk p2) [(eOP none)] 27, .var (blk p14) [(eOP x13.1.fRoot)] 27, .var (blk p15) [(eOP x13.2.fRoot)] 27]) (d := fun x => .dead) (Want.plain rfl) (by first | rfl | simp only [e20, hA.me, cond_true, cond_false, List.cons_append, List.nil_append, List.append_nil]) (fun x => by first | rfl | simp only [ins_self, ins_ne D (show 19 ≠ 20 by decide), upd_self, e20, hA.me, cond_true, cond_false, List.cons_append, List.nil_append, List.append_nil]) (fun x => rfl) (OpR.store 0 rfl rfl rfl rfl rfl rfl rfl rfl)
 refine OpsS.cons' true ?_ (fun _ _ _ _ _ _ _ => rfl) ?_
 · intro D env16 hA
   have e19 : D 19 = true := hA.yes 19 _ rfl rfl
   exact OpS.yes (o0 := [.var (blk p1) [(eOP x19.fRoot)] 27, .var (blk p2) [(eOP none)] 27, .var (blk p14) [(eOP x13.1.fRoot)] 27, .var (blk p15) [(eOP x13.2.fRoot)] 27]) (o1 := fun x => [.var (blk p1) [(eOP x19.fRoot)] 27, .var (blk p2) [(eOP x22.fRoot)] 27, .var (blk p14) [(eOP x13.1.fRoot)] 27, .var (blk p15) [(eOP x13.2.fRoot)] 27]) (d := fun x => .dead) (Want.plain rfl) (by first | rfl | simp only [e19, hA.me, cond_true, cond_false, List.cons_append, List.nil_append, List.append_nil]) (fun x => by first | rfl | simp only [ins_self, ins_ne D (show 20 ≠ 19 by decide), upd_self, e19, hA.me, cond_true, cond_false, List.cons_append, List.nil_append, List.append_nil]) (fun x => rfl) (OpR.store 1 rfl rfl rfl rfl rfl rfl rfl rfl)
 exact trivial
noncomputable def tree_Tree_int_Split (a0 : tree_Tree_int) (a1 : Int) : Option (tree_Tree_int × tree_Tree_int) :=
  bnd (if a1 ≤ 0 then
    some true
  else
    bnd (some a0.fRoot) fun q5 => match q5 with
      | none =>
        some true
      | some z6 =>
        bnd (o_tree_Node_int z6) fun x7 =>
        some false : Option Bool) fun t3 =>
  if t3 = true then
    some ((⟨none⟩ : tree_Tree_int), a0)
  else
    bnd (tree_Tree_int_Len a0) fun x10 =>
    if a1 ≥ x10 then
      some (a0, (⟨none⟩ : tree_Tree_int))
    else
      bnd (some a0.fRoot) fun q12 => match q12 with
        | none =>
          none
        | some z13 =>
          bnd (o_tree_Node_int z13) fun x14 =>
          bnd (tree_split_int 64 x14.fKids x14.fItems x14.fN a1) fun x15 =>
          some (x15.1, x15.2)
set_option maxHeartbeats 4000000 in
theorem tree_Tree_int_Split_c {a0 : tree_Tree_int} {a1 : Int} {res : tree_Tree_int × tree_Tree_int} (h0 : tree_Tree_int_Split a0 a1 = some res) : CallF X 23 [.agg [(eOP a0.fRoot)], .val (.int .i64 a1)] [] (fun x => .tup [.agg [(eOP res.1.fRoot)], .agg [(eOP res.2.fRoot)]]) (fun x => []) := by
 unfold tree_Tree_int_Split at h0
 refine CallF.mkG (X := X) rfl Try.func23 rfl rfl Try.ntmps23 rfl rfl ?_
 refine T.seq ?_
 refine T.region ?_
 refine TL.op1 (OpR.boxImm rfl rfl) rfl ?_
 refine TL.op (OpR.alloc rfl rfl (fun _ => rfl)) rfl (fun p1 => ?_)
 refine TL.op (OpR.alloc rfl rfl (fun _ => rfl)) rfl (fun p2 => ?_)
 refine TL.nil ?_
 show T X _ _ _
 refine T.seq ?_
 refine T.block ?_
 refine T.seq ?_
 obtain ⟨t3, ht3, h0⟩ := bnd_some h0
 refine T.cutC (fun S' => S' = ⟨[(6, .val (.bool t3)), (5, .val (.pointer (some ⟨(blk p2), 0, none⟩))), (4, .val (.pointer (some ⟨(blk p1), 0, none⟩))), (2, .nod [(eOP a0.fRoot)]), (1, .val (.int .i64 a1))], [.var (blk p1) [(eOP none)] 27, .var (blk p2) [(eOP none)] 27], 29⟩) (fun _ h => h) ?_ ?_
 · refine T.region ?_
   refine TL.op1 (OpR.pure rfl) rfl ?_
   refine TL.op1 (OpR.pure rfl) rfl ?_
   refine TL.op1 (OpR.pure rfl) rfl ?_
   rcases ite_some ht3 with ⟨c4, ht3⟩ | ⟨c4, ht3⟩
   · refine TL.off rfl rfl rfl rfl (decide_eq_true c4) rfl rfl ?_
     refine TL.off rfl rfl rfl rfl (decide_eq_true c4) rfl rfl ?_
     refine TL.off rfl rfl rfl rfl (decide_eq_true c4) rfl rfl ?_
     refine TL.op1 (OpR.pickT rfl (decide_eq_true c4) rfl) rfl ?_
     refine TL.op1 (OpR.pure rfl) rfl ?_
     refine TL.nil ?_
     obtain rfl := Option.some.inj ht3
     exact ⟨_, Gst.only [1, 2, 4, 5, 6] rfl, rfl⟩
   refine TL.on rfl rfl rfl rfl (decide_eq_false c4) ?_
   refine TL.op1 (OpR.pure rfl) rfl ?_
   refine TL.on rfl rfl rfl rfl (decide_eq_false c4) ?_
   obtain ⟨q5, hq5, ht3⟩ := bnd_some ht3
   rcases q5 with _ | z6
   · dsimp only at ht3
     refine TL.op1 (OpR.cast (OpR.pure rfl) (congrArg eOP (Option.some.inj hq5))) rfl ?_
     refine TL.on rfl rfl rfl rfl (decide_eq_false c4) ?_
     refine TL.op1 (OpR.ptrNil rfl rfl rfl) rfl ?_
     refine TL.op1 (OpR.pickF rfl (decide_eq_false c4) rfl) rfl ?_
     refine TL.op1 (OpR.pure rfl) rfl ?_
     refine TL.nil ?_
     obtain rfl := Option.some.inj ht3
     exact ⟨_, Gst.only [1, 2, 4, 5, 6] rfl, rfl⟩
   dsimp only at ht3
   obtain ⟨x7, hx7, ht3⟩ := bnd_some ht3
   rw [o_tree_Node_int_eq hx7] at hq5
   refine TL.op1 (OpR.cast (OpR.pure rfl) (congrArg eOP (Option.some.inj hq5))) rfl ?_
   refine TL.on rfl rfl rfl rfl (decide_eq_false c4) ?_
   refine TL.op1 (OpR.nodNil rfl rfl rfl) rfl ?_
   refine TL.op1 (OpR.pickF rfl (decide_eq_false c4) rfl) rfl ?_
   refine TL.op1 (OpR.pure rfl) rfl ?_
   refine TL.nil ?_
   obtain rfl := Option.some.inj ht3
   exact ⟨_, Gst.only [1, 2, 4, 5, 6] rfl, rfl⟩
 rintro _ rfl
 show T X _ _ _
 rcases ite_some h0 with ⟨c8, h0⟩ | ⟨c8, h0⟩
 · refine T.condT rfl (c8) ?_
   refine T.seq ?_
   refine T.drawS drawsX (fun env9 => [.agg [(eOP none)], .agg [(eOP a0.fRoot)], .dead, .dead]) (fun D env9 => [.var (blk p1) [(eOP none)] 27, (bif D 3 then .var (blk p2) [(eOP a0.fRoot)] 27 else .var (blk p2) [(eOP none)] 27)]) [0, 0, 1, 7] [1, 2, 4, 5, 6, 14, 15] (fun env9 => [.var (blk p1) [(eOP none)] 27, .var (blk p2) [(eOP a0.fRoot)] 27]) (by decide +kernel) (by decide +kernel) (fun _ => rfl) (fun _ => rfl) ?_ (fun _ => rfl) (fun _ => rfl) ?_
   rotate_left
   · intro env9
     show T X _ _ _
     refine T.ret ?_
     obtain rfl := Option.some.inj h0
     exact PostG.retP (ks := []) (Gst.only [4, 5] rfl) undef (ResL.cons (ResV.var 0 rfl rfl rfl rfl) (ResL.cons (ResV.var 1 rfl rfl rfl rfl) ResL.nil)) rfl rfl rfl rfl
   refine oS (d := .agg [(eOP none)]) (fun _ => Want.plain rfl) (fun _ => rfl) (fun _ _ _ => rfl) (fun _ _ => OpR.build rfl rfl rfl rfl rfl) (fun _ _ _ _ _ _ _ => rfl) ?_
   refine oS (d := .agg [(eOP a0.fRoot)]) (fun _ => Want.plain rfl) (fun _ => rfl) (fun _ _ _ => rfl) (fun _ _ => OpR.pure rfl) (fun _ _ _ _ _ _ _ => rfl) ?_
   refine oS (d := .dead) (fun _ => Want.plain rfl) (fun _ => rfl) (fun _ _ _ => rfl) (fun _ _ => OpR.store 0 rfl rfl rfl rfl rfl rfl rfl rfl) (fun _ _ _ _ _ _ _ => rfl) ?_
   refine OpsS.cons' true ?_ (fun _ _ _ _ _ _ _ => rfl) ?_
   · intro D env9 hA
     exact OpS.yes (o0 := [.var (blk p1) [(eOP none)] 27, .var (blk p2) [(eOP none)] 27]) (o1 := fun x => [.var (blk p1) [(eOP none)] 27, .var (blk p2) [(eOP a0.fRoot)] 27]) (d := fun x => .dead) (Want.plain rfl) (by first | rfl | simp only [hA.me, cond_true, cond_false, List.cons_append, List.nil_append, List.append_nil]) (fun x => by first | rfl | simp only [ins_self, upd_self, hA.me, cond_true, cond_false, List.cons_append, List.nil_append, List.append_nil]) (fun x => rfl) (OpR.store 1 rfl rfl rfl rfl rfl rfl rfl rfl)
   exact trivial
 refine T.condF rfl (eq_false_of_ne_true c8) ?_
 refine T.seq ?_
 refine T.region ?_
 refine TL.op1 (OpR.pure rfl) rfl ?_
 refine TL.op1 (OpR.pure rfl) rfl ?_
 obtain ⟨x10, hx10, h0⟩ := bnd_some h0
 refine TL.op1 (OpR.call0 fn45 (tree_Tree_int_Len_c hx10) rfl) rfl ?_
 refine TL.op1 (OpR.pure rfl) rfl ?_
 refine TL.op1 (OpR.pure rfl) rfl ?_
 refine TL.nil ?_
 show T X _ _ _
 rcases ite_some h0 with ⟨c11, h0⟩ | ⟨c11, h0⟩
 · refine T.condT rfl (decide_eq_true c11) ?_
   refine T.seq ?_
   refine T.region ?_
   refine TL.op1 (OpR.pure rfl) rfl ?_
   refine TL.op1 (OpR.build rfl rfl rfl rfl rfl) rfl ?_
   refine TL.op0 (OpR.store 0 rfl rfl rfl rfl rfl rfl rfl rfl) ?_
   refine TL.op0 (OpR.store 1 rfl rfl rfl rfl rfl rfl rfl rfl) ?_
   refine TL.nil ?_
   show T X _ _ _
   refine T.ret ?_
   obtain rfl := Option.some.inj h0
   exact PostG.retP (ks := []) (Gst.only [4, 5] rfl) undef (ResL.cons (ResV.var 0 rfl rfl rfl rfl) (ResL.cons (ResV.var 1 rfl rfl rfl rfl) ResL.nil)) rfl rfl rfl rfl
 refine T.condF rfl (decide_eq_false c11) ?_
 refine T.skip ?_
 show T X _ _ _
 refine T.seq ?_
 refine T.region ?_
 refine TL.op1 (OpR.pure rfl) rfl ?_
 obtain ⟨q12, hq12, h0⟩ := bnd_some h0
 rcases q12 with _ | z13
 · dsimp only at h0
   refine TL.op1 (OpR.cast (OpR.pure rfl) (congrArg eOP (Option.some.inj hq12))) rfl ?_
   refine TL.op1 (OpR.pure rfl) rfl ?_
   exact (by cases h0)
 dsimp only at h0
 obtain ⟨x14, hx14, h0⟩ := bnd_some h0
 rw [o_tree_Node_int_eq hx14] at hq12
 refine TL.op1 (OpR.cast (OpR.pure rfl) (congrArg eOP (Option.some.inj hq12))) rfl ?_
 refine TL.op1 (OpR.pure rfl) rfl ?_
 obtain ⟨x15, hx15, h0⟩ := bnd_some h0
 refine TL.op1 (OpR.call0 fn63 (tree_split_int_c hx15) rfl) rfl ?_
 refine TL.op1 (OpR.pure rfl) rfl ?_
 refine TL.op1 (OpR.pure rfl) rfl ?_
 refine TL.op0 (OpR.store 0 rfl rfl rfl rfl rfl rfl rfl rfl) ?_
 refine TL.op0 (OpR.store 1 rfl rfl rfl rfl rfl rfl rfl rfl) ?_
 refine TL.nil ?_
 show T X _ _ _
 refine T.ret ?_
 obtain rfl := Option.some.inj h0
 exact PostG.retP (ks := []) (Gst.only [4, 5] rfl) undef (ResL.cons (ResV.var 0 rfl rfl rfl rfl) (ResL.cons (ResV.var 1 rfl rfl rfl rfl) ResL.nil)) rfl rfl rfl rfl
end Go.Proofs.Ytkmdfaodbiknlaa.S
