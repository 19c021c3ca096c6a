/- Printed by a program of this session's own (gen.py): Lean functions for Go functions, and the proofs that the Go code comes to their answers. -/
import Derived.Test.YtkmdfaodbiknlaaG2xa
import Derived.Test.YtkmdfaodbiknlaaG10xa
import Derived.Test.YtkmdfaodbiknlaaG4xa
set_option linter.unusedVariables false
set_option linter.unusedSimpArgs false
set_option maxRecDepth 20000
namespace Go.Proofs.Ytkmdfaodbiknlaa.S
open Go Go.Sm
attribute [local irreducible] T TL OpR CallT iter loop
noncomputable def law10_few (a0 : List Int) : Option (List Int) :=
  if (a0.length : Int) > 300 then
    bnd (cut a0 0 300) fun x2 =>
    some x2
  else
    some a0
set_option maxHeartbeats 4000000 in
theorem law10_few_c {a0 : List Int} {res : (List Int)} (h0 : law10_few a0 = some res) : CallF X 26 [.sl 1 (List.map (eI .i64) a0)] [] (fun x => .sl 1 (List.map (eI .i64) res)) (fun x => []) := by
 unfold law10_few at h0
 refine CallF.mkG (X := X) rfl Try.func26 rfl rfl Try.ntmps26 rfl rfl ?_
 refine T.seq ?_
 refine T.region ?_
 refine TL.op1 (OpR.pure rfl) rfl ?_
 refine TL.nil ?_
 show T X _ _ _
 refine T.seq ?_
 refine T.seq ?_
 refine T.region ?_
 refine TL.op1 (OpR.pure rfl) rfl ?_
 refine TL.op1 (OpR.cast (OpR.pure rfl) (intE (lenM _ _))) rfl ?_
 refine TL.op1 (OpR.pure rfl) rfl ?_
 refine TL.nil ?_
 show T X _ _ _
 rcases ite_some h0 with ⟨c1, h0⟩ | ⟨c1, h0⟩
 rotate_left
 · refine T.condF rfl (decide_eq_false c1) ?_
   refine T.skip ?_
   show T X _ _ _
   refine T.seq ?_
   refine T.region ?_
   refine TL.op1 (OpR.pure rfl) rfl ?_
   refine TL.op1 (OpR.pure rfl) rfl ?_
   refine TL.nil ?_
   show T X _ _ _
   refine T.ret ?_
   obtain rfl := Option.some.inj h0
   exact PostG.retP (ks := []) (Gst.only [2] rfl) undef (ResL.cons (ResV.tmp rfl) ResL.nil) rfl rfl rfl rfl
 refine T.condT rfl (decide_eq_true c1) ?_
 refine T.seq ?_
 refine T.region ?_
 refine TL.op1 (OpR.pure rfl) rfl ?_
 obtain ⟨x2, hx2, h0⟩ := bnd_some h0
 refine TL.op1 (OpR.sliceM (sz := 1) (eI .i64) hx2 rfl rfl rfl rfl BdM.none (BdM.some rfl) rfl) rfl ?_
 refine TL.op1 (OpR.pure rfl) rfl ?_
 refine TL.nil ?_
 show T X _ _ _
 refine T.ret ?_
 obtain rfl := Option.some.inj h0
 exact PostG.retP (ks := []) (Gst.only [2] rfl) undef (ResL.cons (ResV.tmp rfl) ResL.nil) rfl rfl rfl rfl
noncomputable def walk_stretch_int (a0 : tree_Tree_int) (a1 : Int) (a2 : Int) : Option (Int × Int) :=
  bnd (tree_Tree_int_Len a0) fun x1 =>
  bnd (some (if x1 < (if 0 > a1 then 0 else a1) then x1 else (if 0 > a1 then 0 else a1))) fun x2 =>
  bnd (tree_Tree_int_Len a0) fun x3 =>
  bnd (some (if x3 < (if x2 > a2 then x2 else a2) then x3 else (if x2 > a2 then x2 else a2))) fun x4 =>
  some (x2, x4)
set_option maxHeartbeats 4000000 in
theorem walk_stretch_int_c {a0 : tree_Tree_int} {a1 : Int} {a2 : Int} {res : Int × Int} (h0 : walk_stretch_int a0 a1 a2 = some res) : CallF X 65 [.agg [(eOP a0.fRoot)], .val (.int .i64 a1), .val (.int .i64 a2)] [] (fun x => .tup [.val (.int .i64 res.1), .val (.int .i64 res.2)]) (fun x => []) := by
 unfold walk_stretch_int at h0
 refine CallF.mkG (X := X) rfl Try.func65 rfl rfl Try.ntmps65 rfl rfl ?_
 refine T.seq ?_
 refine T.region ?_
 refine TL.op1 (OpR.boxImm rfl rfl) rfl ?_
 refine TL.op1 (OpR.pure rfl) rfl ?_
 refine TL.op1 (OpR.pure rfl) rfl ?_
 refine TL.nil ?_
 show T X _ _ _
 refine T.seq ?_
 refine T.region ?_
 refine TL.op1 (OpR.pure rfl) rfl ?_
 refine TL.op1 (OpR.pure rfl) rfl ?_
 refine TL.op1 (OpR.pure rfl) rfl ?_
 obtain ⟨x1, hx1, h0⟩ := bnd_some h0
 refine TL.op1 (OpR.call0 fn45 (tree_Tree_int_Len_c hx1) rfl) rfl ?_
 obtain ⟨x2, hx2, h0⟩ := bnd_some h0
 refine TL.op1 (OpR.cast (OpR.pure rfl) (intE (Option.some.inj hx2))) rfl ?_
 refine TL.op1 (OpR.pure rfl) rfl ?_
 refine TL.nil ?_
 show T X _ _ _
 refine T.seq ?_
 refine T.region ?_
 refine TL.op1 (OpR.pure rfl) rfl ?_
 refine TL.op1 (OpR.pure rfl) rfl ?_
 refine TL.op1 (OpR.pure rfl) rfl ?_
 refine TL.op1 (OpR.pure rfl) rfl ?_
 refine TL.op1 (OpR.pure rfl) rfl ?_
 obtain ⟨x3, hx3, h0⟩ := bnd_some h0
 refine TL.op1 (OpR.call0 fn45 (tree_Tree_int_Len_c hx3) rfl) rfl ?_
 obtain ⟨x4, hx4, h0⟩ := bnd_some h0
 refine TL.op1 (OpR.cast (OpR.pure rfl) (intE (Option.some.inj hx4))) rfl ?_
 refine TL.op1 (OpR.pure rfl) rfl ?_
 refine TL.op1 (OpR.pure rfl) rfl ?_
 refine TL.nil ?_
 show T X _ _ _
 refine T.ret ?_
 obtain rfl := Option.some.inj h0
 exact PostG.retP (ks := []) (Gst.only [6, 7] rfl) undef (ResL.cons (ResV.tmp rfl) (ResL.cons (ResV.tmp rfl) ResL.nil)) rfl rfl rfl rfl
noncomputable def walk_Slice_int (a0 : tree_Tree_int) (a1 : Int) (a2 : Int) : Option tree_Tree_int :=
  bnd (walk_stretch_int a0 a1 a2) fun x2 =>
  bnd (tree_Tree_int_Split a0 x2.2) fun x3 =>
  bnd (tree_Tree_int_Split x3.1 x2.1) fun x6 =>
  some x6.2
set_option maxHeartbeats 4000000 in
theorem walk_Slice_int_c {a0 : tree_Tree_int} {a1 : Int} {a2 : Int} {res : tree_Tree_int} (h0 : walk_Slice_int a0 a1 a2 = some res) : CallF X 27 [.agg [(eOP a0.fRoot)], .val (.int .i64 a1), .val (.int .i64 a2)] [] (fun x => .agg [(eOP res.fRoot)]) (fun x => []) := by
 unfold walk_Slice_int at h0
 refine CallF.mkG (X := X) rfl Try.func27 rfl rfl Try.ntmps27 rfl rfl ?_
 refine T.seq ?_
 refine T.region ?_
 refine TL.op1 (OpR.boxImm rfl rfl) rfl ?_
 refine TL.op (OpR.alloc rfl rfl (fun _ => rfl)) rfl (fun p1 => ?_)
 refine TL.nil ?_
 show T X _ _ _
 refine T.seq ?_
 refine T.region ?_
 refine TL.op1 (OpR.pure rfl) rfl ?_
 refine TL.op1 (OpR.pure rfl) rfl ?_
 refine TL.op1 (OpR.pure rfl) rfl ?_
 obtain ⟨x2, hx2, h0⟩ := bnd_some h0
 refine TL.op1 (OpR.call0 fn65 (walk_stretch_int_c hx2) rfl) rfl ?_
 refine TL.op1 (OpR.pure rfl) rfl ?_
 refine TL.op1 (OpR.pure rfl) rfl ?_
 refine TL.op1 (OpR.pure rfl) rfl ?_
 refine TL.op1 (OpR.pure rfl) rfl ?_
 refine TL.op1 (OpR.pure rfl) rfl ?_
 refine TL.nil ?_
 show T X _ _ _
 refine T.seq ?_
 refine T.region ?_
 refine TL.op1 (OpR.pure rfl) rfl ?_
 refine TL.op1 (OpR.pure rfl) rfl ?_
 obtain ⟨x3, hx3, h0⟩ := bnd_some h0
 refine TL.op1 (OpR.call0 fn23 (tree_Tree_int_Split_c hx3) rfl) rfl ?_
 refine TL.op1 (OpR.pure rfl) rfl ?_
 refine TL.op1 (OpR.pure rfl) rfl ?_
 refine TL.op1 (OpR.pure rfl) rfl ?_
 refine TL.op (OpR.alloc rfl rfl (fun _ => rfl)) rfl (fun p4 => ?_)
 refine TL.op (OpR.alloc rfl rfl (fun _ => rfl)) rfl (fun p5 => ?_)
 refine TL.op0 (OpR.store 1 rfl rfl rfl rfl rfl rfl rfl rfl) ?_
 refine TL.op0 (OpR.store 2 rfl rfl rfl rfl rfl rfl rfl rfl) ?_
 refine TL.nil ?_
 show T X _ _ _
 refine T.seq ?_
 refine T.region ?_
 refine TL.op1 (OpR.loadPtr 1 rfl rfl rfl rfl) rfl ?_
 refine TL.op1 (OpR.pure rfl) rfl ?_
 obtain ⟨x6, hx6, h0⟩ := bnd_some h0
 refine TL.op1 (OpR.call0 fn23 (tree_Tree_int_Split_c hx6) rfl) rfl ?_
 refine TL.op1 (OpR.pure rfl) rfl ?_
 refine TL.op1 (OpR.pure rfl) rfl ?_
 refine TL.op1 (OpR.pure rfl) rfl ?_
 refine TL.op (OpR.alloc rfl rfl (fun _ => rfl)) rfl (fun p7 => ?_)
 refine TL.op (OpR.alloc rfl rfl (fun _ => rfl)) rfl (fun p8 => ?_)
 refine TL.op0 (OpR.store 3 rfl rfl rfl rfl rfl rfl rfl rfl) ?_
 refine TL.op0 (OpR.store 4 rfl rfl rfl rfl rfl rfl rfl rfl) ?_
 refine TL.nil ?_
 show T X _ _ _
 refine T.seq ?_
 refine T.region ?_
 refine TL.op1 (OpR.loadPtr 4 rfl rfl rfl rfl) rfl ?_
 refine TL.op0 (OpR.store 0 rfl rfl rfl rfl rfl rfl rfl rfl) ?_
 refine TL.nil ?_
 show T X _ _ _
 refine T.ret ?_
 obtain rfl := Option.some.inj h0
 exact PostG.retP (ks := []) (Gst.trans (Gst.only [6] rfl) (Gst.pick [0] rfl rfl)) undef (ResL.cons (ResV.var 0 rfl rfl rfl rfl) ResL.nil) rfl rfl rfl rfl
noncomputable def walk_Splice_int (a0 : tree_Tree_int) (a1 : Int) (a2 : Int) (a3 : tree_Tree_int) : Option tree_Tree_int :=
  bnd (walk_stretch_int a0 a1 a2) fun x2 =>
  bnd (tree_Tree_int_Split a0 x2.1) fun x3 =>
  bnd (tree_Tree_int_Split a0 x2.2) fun x6 =>
  bnd (tree_Join_int x3.1 a3) fun x10 =>
  bnd (tree_Join_int x10 x6.2) fun x11 =>
  some x11
set_option maxHeartbeats 4000000 in
theorem walk_Splice_int_c {a0 : tree_Tree_int} {a1 : Int} {a2 : Int} {a3 : tree_Tree_int} {res : tree_Tree_int} (h0 : walk_Splice_int a0 a1 a2 a3 = some res) : CallF X 29 [.agg [(eOP a0.fRoot)], .val (.int .i64 a1), .val (.int .i64 a2), .agg [(eOP a3.fRoot)]] [] (fun x => .agg [(eOP res.fRoot)]) (fun x => []) := by
 unfold walk_Splice_int at h0
 refine CallF.mkG (X := X) rfl Try.func29 rfl rfl Try.ntmps29 rfl rfl ?_
 refine T.seq ?_
 refine T.region ?_
 refine TL.op1 (OpR.boxImm rfl rfl) rfl ?_
 refine TL.op1 (OpR.boxImm rfl rfl) rfl ?_
 refine TL.op (OpR.alloc rfl rfl (fun _ => rfl)) rfl (fun p1 => ?_)
 refine TL.nil ?_
 show T X _ _ _
 refine T.seq ?_
 refine T.region ?_
 refine TL.op1 (OpR.pure rfl) rfl ?_
 refine TL.op1 (OpR.pure rfl) rfl ?_
 refine TL.op1 (OpR.pure rfl) rfl ?_
 obtain ⟨x2, hx2, h0⟩ := bnd_some h0
 refine TL.op1 (OpR.call0 fn65 (walk_stretch_int_c hx2) rfl) rfl ?_
 refine TL.op1 (OpR.pure rfl) rfl ?_
 refine TL.op1 (OpR.pure rfl) rfl ?_
 refine TL.op1 (OpR.pure rfl) rfl ?_
 refine TL.op1 (OpR.pure rfl) rfl ?_
 refine TL.op1 (OpR.pure rfl) rfl ?_
 refine TL.nil ?_
 show T X _ _ _
 refine T.seq ?_
 refine T.region ?_
 refine TL.op1 (OpR.pure rfl) rfl ?_
 refine TL.op1 (OpR.pure rfl) rfl ?_
 obtain ⟨x3, hx3, h0⟩ := bnd_some h0
 refine TL.op1 (OpR.call0 fn23 (tree_Tree_int_Split_c hx3) rfl) rfl ?_
 refine TL.op1 (OpR.pure rfl) rfl ?_
 refine TL.op1 (OpR.pure rfl) rfl ?_
 refine TL.op1 (OpR.pure rfl) rfl ?_
 refine TL.op (OpR.alloc rfl rfl (fun _ => rfl)) rfl (fun p4 => ?_)
 refine TL.op (OpR.alloc rfl rfl (fun _ => rfl)) rfl (fun p5 => ?_)
 refine TL.op0 (OpR.store 1 rfl rfl rfl rfl rfl rfl rfl rfl) ?_
 refine TL.op0 (OpR.store 2 rfl rfl rfl rfl rfl rfl rfl rfl) ?_
 refine TL.nil ?_
 show T X _ _ _
 refine T.seq ?_
 refine T.region ?_
 refine TL.op1 (OpR.pure rfl) rfl ?_
 refine TL.op1 (OpR.pure rfl) rfl ?_
 obtain ⟨x6, hx6, h0⟩ := bnd_some h0
 refine TL.op1 (OpR.call0 fn23 (tree_Tree_int_Split_c hx6) rfl) rfl ?_
 refine TL.op1 (OpR.pure rfl) rfl ?_
 refine TL.op1 (OpR.pure rfl) rfl ?_
 refine TL.op1 (OpR.pure rfl) rfl ?_
 refine TL.op (OpR.alloc rfl rfl (fun _ => rfl)) rfl (fun p7 => ?_)
 refine TL.op (OpR.alloc rfl rfl (fun _ => rfl)) rfl (fun p8 => ?_)
 refine TL.op0 (OpR.store 3 rfl rfl rfl rfl rfl rfl rfl rfl) ?_
 refine TL.op0 (OpR.store 4 rfl rfl rfl rfl rfl rfl rfl rfl) ?_
 refine TL.nil ?_
 show T X _ _ _
 refine T.seq ?_
 obtain ⟨x10, hx10, h0⟩ := bnd_some h0
 obtain ⟨x11, hx11, h0⟩ := bnd_some h0
 refine T.drawS drawsX (fun env9 => [.agg [(eOP x3.1.fRoot)], .agg [(eOP a3.fRoot)], .agg [(eOP x10.fRoot)], .agg [(eOP x6.2.fRoot)], .agg [(eOP x11.fRoot)], .dead]) (fun D env9 => [(bif D 5 then .var (blk p1) [(eOP x11.fRoot)] 27 else .var (blk p1) [(eOP none)] 27), .var (blk p4) [(eOP x3.1.fRoot)] 27, .var (blk p5) [(eOP x3.2.fRoot)] 27, .var (blk p7) [(eOP x6.1.fRoot)] 27, .var (blk p8) [(eOP x6.2.fRoot)] 27]) [0, 0, 3, 0, 15, 31] [0, 1, 2, 3, 4, 7, 8, 9, 10, 11, 12, 13, 14, 15, 16, 17, 18, 19, 20, 21, 22, 23, 24, 25, 26, 27, 28, 29, 30, 31, 32, 33, 34, 35, 36] (fun env9 => [.var (blk p1) [(eOP x11.fRoot)] 27, .var (blk p4) [(eOP x3.1.fRoot)] 27, .var (blk p5) [(eOP x3.2.fRoot)] 27, .var (blk p7) [(eOP x6.1.fRoot)] 27, .var (blk p8) [(eOP x6.2.fRoot)] 27]) (by decide +kernel) (by decide +kernel) (fun _ => rfl) (fun _ => rfl) ?_ (fun _ => rfl) (fun _ => rfl) ?_
 rotate_left
 · intro env9
   show T X _ _ _
   refine T.ret ?_
   obtain rfl := Option.some.inj h0
   exact PostG.retP (ks := []) (Gst.trans (Gst.only [8] rfl) (Gst.pick [0] rfl rfl)) undef (ResL.cons (ResV.var 0 rfl rfl rfl rfl) ResL.nil) rfl rfl rfl rfl
 refine oS (d := .agg [(eOP x3.1.fRoot)]) (fun _ => Want.plain rfl) (fun _ => rfl) (fun _ _ _ => rfl) (fun _ _ => OpR.loadPtr 1 rfl rfl rfl rfl) (fun _ _ _ _ _ _ _ => rfl) ?_
 refine oS (d := .agg [(eOP a3.fRoot)]) (fun _ => Want.plain rfl) (fun _ => rfl) (fun _ _ _ => rfl) (fun _ _ => OpR.pure rfl) (fun _ _ _ _ _ _ _ => rfl) ?_
 refine oS (d := .agg [(eOP x10.fRoot)]) (fun _ => Want.plain rfl) (fun _ => rfl) (fun _ _ _ => rfl) (fun _ _ => OpR.call0 fn25 (tree_Join_int_c hx10) rfl) (fun _ _ _ _ _ _ _ => rfl) ?_
 refine oS (d := .agg [(eOP x6.2.fRoot)]) (fun _ => Want.plain rfl) (fun _ => rfl) (fun _ _ _ => rfl) (fun _ _ => OpR.loadPtr 4 rfl rfl rfl rfl) (fun _ _ _ _ _ _ _ => rfl) ?_
 refine oS (d := .agg [(eOP x11.fRoot)]) (fun _ => Want.plain rfl) (fun _ => rfl) (fun _ _ _ => rfl) (fun _ _ => OpR.call0 fn25 (tree_Join_int_c hx11) rfl) (fun _ _ _ _ _ _ _ => rfl) ?_
 refine OpsS.cons' true ?_ (fun _ _ _ _ _ _ _ => rfl) ?_
 · intro D env9 hA
   exact OpS.yes (o0 := [.var (blk p1) [(eOP none)] 27, .var (blk p4) [(eOP x3.1.fRoot)] 27, .var (blk p5) [(eOP x3.2.fRoot)] 27, .var (blk p7) [(eOP x6.1.fRoot)] 27, .var (blk p8) [(eOP x6.2.fRoot)] 27]) (o1 := fun x => [.var (blk p1) [(eOP x11.fRoot)] 27, .var (blk p4) [(eOP x3.1.fRoot)] 27, .var (blk p5) [(eOP x3.2.fRoot)] 27, .var (blk p7) [(eOP x6.1.fRoot)] 27, .var (blk p8) [(eOP x6.2.fRoot)] 27]) (d := fun x => .dead) (Want.plain rfl) (by first | rfl | simp only [hA.me, cond_true, cond_false, List.cons_append, List.nil_append, List.append_nil]) (fun x => by first | rfl | simp only [ins_self, upd_self, hA.me, cond_true, cond_false, List.cons_append, List.nil_append, List.append_nil]) (fun x => rfl) (OpR.store 0 rfl rfl rfl rfl rfl rfl rfl rfl)
 exact trivial
noncomputable def walk_Move_int (a0 : tree_Tree_int) (a1 : Int) (a2 : Int) (a3 : Int) : Option tree_Tree_int :=
  bnd (walk_Slice_int a0 a1 a2) fun x2 =>
  bnd (walk_Splice_int a0 a1 a2 (⟨none⟩ : tree_Tree_int)) fun x4 =>
  bnd (walk_Splice_int x4 a3 a3 x2) fun x6 =>
  some x6
set_option maxHeartbeats 4000000 in
theorem walk_Move_int_c {a0 : tree_Tree_int} {a1 : Int} {a2 : Int} {a3 : Int} {res : tree_Tree_int} (h0 : walk_Move_int a0 a1 a2 a3 = some res) : CallF X 31 [.agg [(eOP a0.fRoot)], .val (.int .i64 a1), .val (.int .i64 a2), .val (.int .i64 a3)] [] (fun x => .agg [(eOP res.fRoot)]) (fun x => []) := by
 unfold walk_Move_int at h0
 refine CallF.mkG (X := X) rfl Try.func31 rfl rfl Try.ntmps31 rfl rfl ?_
 refine T.seq ?_
 refine T.region ?_
 refine TL.op1 (OpR.boxImm rfl rfl) rfl ?_
 refine TL.op (OpR.alloc rfl rfl (fun _ => rfl)) rfl (fun p1 => ?_)
 refine TL.nil ?_
 show T X _ _ _
 refine T.seq ?_
 refine T.region ?_
 refine TL.op1 (OpR.pure rfl) rfl ?_
 refine TL.op1 (OpR.pure rfl) rfl ?_
 refine TL.op1 (OpR.pure rfl) rfl ?_
 obtain ⟨x2, hx2, h0⟩ := bnd_some h0
 refine TL.op1 (OpR.call0 fn27 (walk_Slice_int_c hx2) rfl) rfl ?_
 refine TL.op (OpR.alloc rfl rfl (fun _ => rfl)) rfl (fun p3 => ?_)
 refine TL.op0 (OpR.store 1 rfl rfl rfl rfl rfl rfl rfl rfl) ?_
 refine TL.nil ?_
 show T X _ _ _
 refine T.seq ?_
 refine T.region ?_
 refine TL.op1 (OpR.pure rfl) rfl ?_
 refine TL.op1 (OpR.pure rfl) rfl ?_
 refine TL.op1 (OpR.pure rfl) rfl ?_
 refine TL.op1 (OpR.build rfl rfl rfl rfl rfl) rfl ?_
 obtain ⟨x4, hx4, h0⟩ := bnd_some h0
 refine TL.op1 (OpR.call0 fn29 (walk_Splice_int_c hx4) rfl) rfl ?_
 refine TL.op (OpR.alloc rfl rfl (fun _ => rfl)) rfl (fun p5 => ?_)
 refine TL.op0 (OpR.store 2 rfl rfl rfl rfl rfl rfl rfl rfl) ?_
 refine TL.nil ?_
 show T X _ _ _
 refine T.seq ?_
 refine T.region ?_
 refine TL.op1 (OpR.loadPtr 2 rfl rfl rfl rfl) rfl ?_
 refine TL.op1 (OpR.pure rfl) rfl ?_
 refine TL.op1 (OpR.pure rfl) rfl ?_
 refine TL.op1 (OpR.loadPtr 1 rfl rfl rfl rfl) rfl ?_
 obtain ⟨x6, hx6, h0⟩ := bnd_some h0
 refine TL.op1 (OpR.call0 fn29 (walk_Splice_int_c hx6) rfl) rfl ?_
 refine TL.op0 (OpR.store 0 rfl rfl rfl rfl rfl rfl rfl rfl) ?_
 refine TL.nil ?_
 show T X _ _ _
 refine T.ret ?_
 obtain rfl := Option.some.inj h0
 exact PostG.retP (ks := []) (Gst.trans (Gst.only [8] rfl) (Gst.pick [0] rfl rfl)) undef (ResL.cons (ResV.var 0 rfl rfl rfl rfl) ResL.nil) rfl rfl rfl rfl
noncomputable def walk_Range_int (a0 : tree_Tree_int) (a1 : Int) (a2 : Int) : Option (Int × Int × (Option NP)) :=
  bnd (walk_stretch_int a0 a1 a2) fun x4 =>
  some (x4.1, x4.2, a0.fRoot)
set_option maxHeartbeats 4000000 in
theorem walk_Range_int_c {a0 : tree_Tree_int} {a1 : Int} {a2 : Int} {res : Int × Int × (Option NP)} (h0 : walk_Range_int a0 a1 a2 = some res) : CallF X 40 [.agg [(eOP a0.fRoot)], .val (.int .i64 a1), .val (.int .i64 a2)] [] (fun x => .fn (.func 68) [] [.val (.pointer (some ⟨(blk (vn x 0)), 0, none⟩)), .val (.pointer (some ⟨(blk (vn x 1)), 0, none⟩)), .val (.pointer (some ⟨(blk (vn x 2)), 0, none⟩))]) (fun x => [.var (blk (vn x 0)) [.val (.int .i64 res.1)] 3, .var (blk (vn x 1)) [.val (.int .i64 res.2.1)] 3, .var (blk (vn x 2)) [(eOP res.2.2)] 27]) := by
 unfold walk_Range_int at h0
 refine CallF.mkG (X := X) rfl Try.func40 rfl rfl Try.ntmps40 rfl rfl ?_
 refine T.seq ?_
 refine T.region ?_
 refine TL.op (OpR.boxVar rfl rfl (fun _ => rfl)) rfl (fun p1 => ?_)
 refine TL.op (OpR.boxVar rfl rfl (fun _ => rfl)) rfl (fun p2 => ?_)
 refine TL.op (OpR.boxVar rfl rfl (fun _ => rfl)) rfl (fun p3 => ?_)
 refine TL.op1 (OpR.pure rfl) rfl ?_
 refine TL.nil ?_
 show T X _ _ _
 refine T.seq ?_
 refine T.region ?_
 refine TL.op1 (OpR.loadPtr 0 rfl rfl rfl rfl) rfl ?_
 refine TL.op1 (OpR.loadPtr 1 rfl rfl rfl rfl) rfl ?_
 refine TL.op1 (OpR.loadPtr 2 rfl rfl rfl rfl) rfl ?_
 obtain ⟨x4, hx4, h0⟩ := bnd_some h0
 refine TL.op1 (OpR.call0 fn65 (walk_stretch_int_c hx4) rfl) rfl ?_
 refine TL.op1 (OpR.pure rfl) rfl ?_
 refine TL.op1 (OpR.pure rfl) rfl ?_
 refine TL.op1 (OpR.pure rfl) rfl ?_
 refine TL.op0 (OpR.store 1 rfl rfl rfl rfl rfl rfl rfl rfl) ?_
 refine TL.op0 (OpR.store 2 rfl rfl rfl rfl rfl rfl rfl rfl) ?_
 refine TL.nil ?_
 show T X _ _ _
 refine T.seq ?_
 refine T.region ?_
 refine TL.op1 (OpR.pure rfl) rfl ?_
 refine TL.op1 (OpR.pure rfl) rfl ?_
 refine TL.nil ?_
 show T X _ _ _
 refine T.ret ?_
 obtain rfl := Option.some.inj h0
 exact PostG.retP (ks := [0, 1, 2]) (Gst.trans (Gst.only [6] rfl) (Gst.pick [1, 2, 0] rfl rfl)) (.tuple #[p2, p3, p1]) (ResL.cons (ResV.tmp rfl) ResL.nil) rfl rfl rfl rfl
noncomputable def walk_stack_int_down.l1 (a4 : Int) (s4 : (List NP) × (List Int) × Int × Int × (List walk_frame_int)) (s14 : Int × Int) : Option (Lp (Int × Int) (Int × Int)) :=
  bnd (if s14.2 < (w64 ((s4.1.length : Int) - 1)) then
    bnd (idx s4.1 s14.2) fun x24 =>
    bnd (o_tree_Node_int x24) fun x25 =>
    some (decide (a4 ≥ (w64 (s14.1 + x25.fN))))
  else
    some false : Option Bool) fun t22 =>
  if t22 = true then
    bnd (idx s4.1 s14.2) fun x27 =>
    bnd (o_tree_Node_int x27) fun x28 =>
    some (Lp.next (w64 (s14.1 + x28.fN), w64 (s14.2 + 1)))
  else
    some (Lp.done (s14.1, s14.2))
noncomputable def walk_stack_int_down.l2 (a4 : Int) (s4 : (List NP) × (List Int) × Int × Int × (List walk_frame_int)) : Option (Lp ((List NP) × (List Int) × Int × Int × (List walk_frame_int)) ((List NP) × (List Int) × Int × Int × (List walk_frame_int))) :=
  if (s4.1.length : Int) > 0 then
    bnd (loop (walk_stack_int_down.l1 a4 s4) (s4.2.2.2.1, 0) : Option (Int × Int)) fun t13 =>
    bnd (app 24 s4.2.2.2.2 [(⟨(some (c_tree_Node_int (⟨s4.1, s4.2.1, s4.2.2.1⟩ : tree_Node_int))), t13.1, t13.2⟩ : walk_frame_int)]) fun x29 =>
    bnd (idx s4.1 t13.2) fun x31 =>
    bnd (o_tree_Node_int x31) fun x32 =>
    some (Lp.next (x32.fKids, x32.fItems, x32.fN, t13.1, x29))
  else
    some (Lp.done (s4.1, s4.2.1, s4.2.2.1, s4.2.2.2.1, s4.2.2.2.2))
noncomputable def walk_stack_int_down (a0 : List NP) (a1 : List Int) (a2 : Int) (a3 : Int) (a4 : Int) : Option (List walk_frame_int) :=
  bnd (loop (walk_stack_int_down.l2 a4) (a0, a1, a2, a3, []) : Option ((List NP) × (List Int) × Int × Int × (List walk_frame_int))) fun t1 =>
  bnd (app 24 t1.2.2.2.2 [(⟨(some (c_tree_Node_int (⟨t1.1, t1.2.1, t1.2.2.1⟩ : tree_Node_int))), t1.2.2.2.1, w64 (a4 - t1.2.2.2.1)⟩ : walk_frame_int)]) fun x33 =>
  some x33
set_option maxHeartbeats 4000000 in
theorem walk_stack_int_down_c {a0 : List NP} {a1 : List Int} {a2 : Int} {a3 : Int} {a4 : Int} {b0 : Nat} {res : (List walk_frame_int)} (h0 : walk_stack_int_down a0 a1 a2 a3 a4 = some res) : CallF X 69 [.val (.pointer (some ⟨b0, 0, none⟩)), .nod [.sl 1 (List.map eNP a0), .sl 1 (List.map (eI .i64) a1), .val (.int .i64 a2)], .val (.int .i64 a3), .val (.int .i64 a4)] [.var b0 [.val (.slice none 0 0)] 109] (fun x => .tup []) (fun x => [.var b0 [.val (vn x 0)] 109, .row (vn x 0) (List.map e_walk_frame_int res) 3 114]) := by
 unfold walk_stack_int_down at h0
 refine CallF.mkG (X := X) rfl Try.func69 rfl rfl Try.ntmps69 rfl rfl ?_
 refine T.seq ?_
 obtain ⟨t1, ht1, h0⟩ := bnd_some h0
 refine T.cutC (fun S' => ∃ y2 : Value, S' = ⟨[(3, .val (.int .i64 a4)), (2, .val (.int .i64 t1.2.2.2.1)), (1, .nod [.sl 1 (List.map eNP t1.1), .sl 1 (List.map (eI .i64) t1.2.1), .val (.int .i64 t1.2.2.1)]), (0, .val (.pointer (some ⟨b0, 0, none⟩)))], [.var b0 [.val y2] 109, .row y2 (List.map e_walk_frame_int t1.2.2.2.2) 3 114], 88⟩) (fun _ h => h) ?_ ?_
 rotate_left
 · rintro _ ⟨y2, rfl⟩
   show T X _ _ _
   refine T.region ?_
   refine TL.op1 (OpR.pure rfl) rfl ?_
   refine TL.op1 (OpR.pure rfl) rfl ?_
   refine TL.op1 (OpR.pure rfl) rfl ?_
   refine TL.op1 (OpR.pure rfl) rfl ?_
   refine TL.op1 (OpR.loadPtr 0 rfl rfl rfl rfl) rfl ?_
   refine TL.op1 (OpR.pure rfl) rfl ?_
   refine TL.op1 (OpR.pure rfl) rfl ?_
   refine TL.op1 (OpR.pure rfl) rfl ?_
   refine TL.op1 (OpR.pure rfl) rfl ?_
   refine TL.op1 (OpR.pure rfl) rfl ?_
   refine TL.op1 (OpR.build rfl rfl rfl rfl rfl) rfl ?_
   refine TL.op1 (OpR.lit rfl rfl rfl rfl rfl rfl rfl) rfl ?_
   obtain ⟨x33, hx33, h0⟩ := bnd_some h0
   refine TL.op (OpR.appendM (m := [(⟨(some (c_tree_Node_int (⟨t1.1, t1.2.1, t1.2.2.1⟩ : tree_Node_int))), t1.2.2.2.1, w64 (a4 - t1.2.2.2.1)⟩ : walk_frame_int)]) e_walk_frame_int 1 hx33 rfl rfl rfl rfl rfl rfl rfl rfl rfl (fun _ => rfl)) rfl (fun v34 => ?_)
   refine TL.op1 (OpR.pure rfl) rfl ?_
   refine TL.op1 (OpR.pure rfl) rfl ?_
   refine TL.op0 (OpR.store 0 rfl rfl rfl rfl rfl rfl rfl rfl) ?_
   refine TL.nil ?_
   obtain rfl := Option.some.inj h0
   exact PostG.finP (ks := [0, 1]) (Gst.only [] rfl) (.tuple #[v34]) ResL.nil rfl rfl rfl rfl
 refine T.block ?_
 obtain ⟨n5, n10⟩ := loop_some ht1
 refine T.loop (fun n S' => ∃ S'', Gst S' S'' ∧ ∃ y3 : Value, ∃ s4 : (List NP) × (List Int) × Int × Int × (List walk_frame_int), S'' = ⟨[(3, .val (.int .i64 a4)), (2, .val (.int .i64 s4.2.2.2.1)), (1, .nod [.sl 1 (List.map eNP s4.1), .sl 1 (List.map (eI .i64) s4.2.1), .val (.int .i64 s4.2.2.1)]), (0, .val (.pointer (some ⟨b0, 0, none⟩)))], [.var b0 [.val y3] 109, .row y3 (List.map e_walk_frame_int s4.2.2.2.2) 3 114], 88⟩ ∧ iter (walk_stack_int_down.l2 a4) n s4 = some t1) n5 ?_ ?_
 · exact ⟨_, Gst.trans (Gst.only [0, 1, 2, 3] rfl) (Gst.nilRow (ow := [.var b0 [.val (.slice none 0 0)] 109]) 3 114 rfl), (.slice none 0 0), (a0, a1, a2, a3, []), rfl, n10⟩
 rintro n5 _ ⟨_, g, y3, s4, rfl, i9⟩
 refine T.ghost g ?_
 obtain ⟨m6, q7, rfl, q8, i9⟩ := iter_succ i9
 unfold walk_stack_int_down.l2 at q8
 refine T.seq ?_
 refine T.seq ?_
 refine T.region ?_
 refine TL.op1 (OpR.pure rfl) rfl ?_
 refine TL.op1 (OpR.pure rfl) rfl ?_
 refine TL.op1 (OpR.pure rfl) rfl ?_
 refine TL.op1 (OpR.pure rfl) rfl ?_
 refine TL.op1 (OpR.cast (OpR.pure rfl) (intE (lenM _ _))) rfl ?_
 refine TL.op1 (OpR.pure rfl) rfl ?_
 refine TL.nil ?_
 show T X _ _ _
 rcases ite_some q8 with ⟨c12, q8⟩ | ⟨c12, q8⟩
 rotate_left
 · refine T.condF rfl (decide_eq_false c12) ?_
   refine T.exit ?_
   obtain rfl := Option.some.inj q8
   obtain rfl : _ = _ := i9
   exact ⟨_, Gst.only [0, 1, 2, 3] rfl, y3, rfl⟩
 refine T.condT rfl (decide_eq_true c12) ?_
 refine T.skip ?_
 show T X _ _ _
 refine T.block ?_
 refine T.seq ?_
 refine T.region ?_
 refine TL.op1 (OpR.pure rfl) rfl ?_
 refine TL.nil ?_
 show T X _ _ _
 refine T.seq ?_
 obtain ⟨t13, ht13, q8⟩ := bnd_some q8
 refine T.cutC (fun S' => S' = ⟨[(8, .val (.int .i64 t13.2)), (3, .val (.int .i64 a4)), (2, .val (.int .i64 t13.1)), (1, .nod [.sl 1 (List.map eNP s4.1), .sl 1 (List.map (eI .i64) s4.2.1), .val (.int .i64 s4.2.2.1)]), (0, .val (.pointer (some ⟨b0, 0, none⟩)))], [.var b0 [.val y3] 109, .row y3 (List.map e_walk_frame_int s4.2.2.2.2) 3 114], 88⟩) (fun _ h => h) ?_ ?_
 rotate_left
 · rintro _ rfl
   show T X _ _ _
   refine T.seq ?_
   refine T.region ?_
   refine TL.op1 (OpR.pure rfl) rfl ?_
   refine TL.op1 (OpR.pure rfl) rfl ?_
   refine TL.op1 (OpR.pure rfl) rfl ?_
   refine TL.op1 (OpR.pure rfl) rfl ?_
   refine TL.op1 (OpR.loadPtr 0 rfl rfl rfl rfl) rfl ?_
   refine TL.op1 (OpR.pure rfl) rfl ?_
   refine TL.op1 (OpR.pure rfl) rfl ?_
   refine TL.op1 (OpR.pure rfl) rfl ?_
   refine TL.op1 (OpR.build rfl rfl rfl rfl rfl) rfl ?_
   refine TL.op1 (OpR.lit rfl rfl rfl rfl rfl rfl rfl) rfl ?_
   obtain ⟨x29, hx29, q8⟩ := bnd_some q8
   refine TL.op (OpR.appendM (m := [(⟨(some (c_tree_Node_int (⟨s4.1, s4.2.1, s4.2.2.1⟩ : tree_Node_int))), t13.1, t13.2⟩ : walk_frame_int)]) e_walk_frame_int 1 hx29 rfl rfl rfl rfl rfl rfl rfl rfl rfl (fun _ => rfl)) rfl (fun v30 => ?_)
   refine TL.op1 (OpR.pure rfl) rfl ?_
   refine TL.op1 (OpR.pure rfl) rfl ?_
   refine TL.op0 (OpR.store 0 rfl rfl rfl rfl rfl rfl rfl rfl) ?_
   refine TL.nil ?_
   show T X _ _ _
   refine T.region ?_
   refine TL.op1 (OpR.pure rfl) rfl ?_
   refine TL.op1 (OpR.pure rfl) rfl ?_
   refine TL.op1 (OpR.pure rfl) rfl ?_
   refine TL.op1 (OpR.pure rfl) rfl ?_
   refine TL.op1 (OpR.pure rfl) rfl ?_
   obtain ⟨x31, hx31, q8⟩ := bnd_some q8
   obtain ⟨x32, hx32, q8⟩ := bnd_some q8
   rw [o_tree_Node_int_eq hx32] at hx31
   refine TL.op1 (OpR.indexM eNP hx31 rfl rfl rfl rfl rfl) rfl ?_
   refine TL.op1 (OpR.pure rfl) rfl ?_
   refine TL.op1 (OpR.pure rfl) rfl ?_
   refine TL.nil ?_
   obtain rfl := Option.some.inj q8
   exact ⟨m6, Nat.lt_succ_self _, _, Gst.only [0, 1, 2, 3] rfl, v30, (x32.fKids, x32.fItems, x32.fN, t13.1, x29), rfl, i9⟩
 refine T.block ?_
 obtain ⟨n15, n20⟩ := loop_some ht13
 refine T.loop (fun n S' => ∃ S'', Gst S' S'' ∧ ∃ s14 : Int × Int, S'' = ⟨[(8, .val (.int .i64 s14.2)), (3, .val (.int .i64 a4)), (2, .val (.int .i64 s14.1)), (1, .nod [.sl 1 (List.map eNP s4.1), .sl 1 (List.map (eI .i64) s4.2.1), .val (.int .i64 s4.2.2.1)]), (0, .val (.pointer (some ⟨b0, 0, none⟩)))], [.var b0 [.val y3] 109, .row y3 (List.map e_walk_frame_int s4.2.2.2.2) 3 114], 88⟩ ∧ iter (walk_stack_int_down.l1 a4 s4) n s14 = some t13) n15 ?_ ?_
 · exact ⟨_, Gst.only [0, 1, 2, 3, 8] rfl, (s4.2.2.2.1, 0), rfl, n20⟩
 rintro n15 _ ⟨_, g, s14, rfl, i19⟩
 refine T.ghost g ?_
 obtain ⟨m16, q17, rfl, q18, i19⟩ := iter_succ i19
 unfold walk_stack_int_down.l1 at q18
 refine T.seq ?_
 refine T.seq ?_
 obtain ⟨t22, ht22, q18⟩ := bnd_some q18
 refine T.cutC (fun S' => S' = ⟨[(38, .val (.bool t22)), (8, .val (.int .i64 s14.2)), (3, .val (.int .i64 a4)), (2, .val (.int .i64 s14.1)), (1, .nod [.sl 1 (List.map eNP s4.1), .sl 1 (List.map (eI .i64) s4.2.1), .val (.int .i64 s4.2.2.1)]), (0, .val (.pointer (some ⟨b0, 0, none⟩)))], [.var b0 [.val y3] 109, .row y3 (List.map e_walk_frame_int s4.2.2.2.2) 3 114], 88⟩) (fun _ h => h) ?_ ?_
 rotate_left
 · rintro _ rfl
   show T X _ _ _
   rcases ite_some q18 with ⟨c26, q18⟩ | ⟨c26, q18⟩
   rotate_left
   · refine T.condF rfl (eq_false_of_ne_true c26) ?_
     refine T.exit ?_
     obtain rfl := Option.some.inj q18
     obtain rfl : _ = _ := i19
     exact ⟨_, Gst.only [0, 1, 2, 3, 8] rfl, rfl⟩
   refine T.condT rfl (c26) ?_
   refine T.skip ?_
   show T X _ _ _
   refine T.block ?_
   refine T.seq ?_
   refine T.region ?_
   refine TL.op1 (OpR.pure rfl) rfl ?_
   refine TL.op1 (OpR.pure rfl) rfl ?_
   refine TL.op1 (OpR.pure rfl) rfl ?_
   refine TL.op1 (OpR.pure rfl) rfl ?_
   refine TL.op1 (OpR.pure rfl) rfl ?_
   refine TL.op1 (OpR.pure rfl) rfl ?_
   obtain ⟨x27, hx27, q18⟩ := bnd_some q18
   obtain ⟨x28, hx28, q18⟩ := bnd_some q18
   rw [o_tree_Node_int_eq hx28] at hx27
   refine TL.op1 (OpR.indexM eNP hx27 rfl rfl rfl rfl rfl) rfl ?_
   refine TL.op1 (OpR.pure rfl) rfl ?_
   refine TL.op1 (OpR.pure rfl) rfl ?_
   refine TL.op1 (OpR.pure rfl) rfl ?_
   refine TL.op1 (OpR.pure rfl) rfl ?_
   refine TL.op1 (OpR.pure rfl) rfl ?_
   refine TL.op1 (OpR.pure rfl) rfl ?_
   refine TL.nil ?_
   show T X _ _ _
   refine T.region ?_
   refine TL.op1 (OpR.pure rfl) rfl ?_
   refine TL.op1 (OpR.pure rfl) rfl ?_
   refine TL.op1 (OpR.pure rfl) rfl ?_
   refine TL.nil ?_
   obtain rfl := Option.some.inj q18
   exact ⟨m16, Nat.lt_succ_self _, _, Gst.only [0, 1, 2, 3, 8] rfl, (w64 (s14.1 + x28.fN), w64 (s14.2 + 1)), rfl, i19⟩
 refine T.region ?_
 refine TL.op1 (OpR.pure rfl) rfl ?_
 refine TL.op1 (OpR.pure rfl) rfl ?_
 refine TL.op1 (OpR.pure rfl) rfl ?_
 refine TL.op1 (OpR.pure rfl) rfl ?_
 refine TL.op1 (OpR.pure rfl) rfl ?_
 refine TL.op1 (OpR.cast (OpR.pure rfl) (intE (lenM _ _))) rfl ?_
 refine TL.op1 (OpR.pure rfl) rfl ?_
 refine TL.op1 (OpR.pure rfl) rfl ?_
 refine TL.op1 (OpR.pure rfl) rfl ?_
 rcases ite_some ht22 with ⟨c23, ht22⟩ | ⟨c23, ht22⟩
 rotate_left
 · refine TL.off rfl rfl rfl rfl (decide_eq_false c23) rfl rfl ?_
   refine TL.off rfl rfl rfl rfl (decide_eq_false c23) rfl rfl ?_
   refine TL.off rfl rfl rfl rfl (decide_eq_false c23) rfl rfl ?_
   refine TL.off rfl rfl rfl rfl (decide_eq_false c23) rfl rfl ?_
   refine TL.off rfl rfl rfl rfl (decide_eq_false c23) rfl rfl ?_
   refine TL.off rfl rfl rfl rfl (decide_eq_false c23) rfl rfl ?_
   refine TL.off rfl rfl rfl rfl (decide_eq_false c23) rfl rfl ?_
   refine TL.off rfl rfl rfl rfl (decide_eq_false c23) rfl rfl ?_
   refine TL.off rfl rfl rfl rfl (decide_eq_false c23) rfl rfl ?_
   refine TL.off rfl rfl rfl rfl (decide_eq_false c23) rfl rfl ?_
   refine TL.off rfl rfl rfl rfl (decide_eq_false c23) rfl rfl ?_
   refine TL.off rfl rfl rfl rfl (decide_eq_false c23) rfl rfl ?_
   refine TL.off rfl rfl rfl rfl (decide_eq_false c23) rfl rfl ?_
   refine TL.off rfl rfl rfl rfl (decide_eq_false c23) rfl rfl ?_
   refine TL.op1 (OpR.pickF rfl (decide_eq_false c23) rfl) rfl ?_
   refine TL.nil ?_
   obtain rfl := Option.some.inj ht22
   exact ⟨_, Gst.only [0, 1, 2, 3, 8, 38] rfl, rfl⟩
 refine TL.on rfl rfl rfl rfl (decide_eq_true c23) ?_
 refine TL.op1 (OpR.pure rfl) rfl ?_
 refine TL.on rfl rfl rfl rfl (decide_eq_true c23) ?_
 refine TL.op1 (OpR.pure rfl) rfl ?_
 refine TL.on rfl rfl rfl rfl (decide_eq_true c23) ?_
 refine TL.op1 (OpR.pure rfl) rfl ?_
 refine TL.on rfl rfl rfl rfl (decide_eq_true c23) ?_
 refine TL.op1 (OpR.pure rfl) rfl ?_
 refine TL.on rfl rfl rfl rfl (decide_eq_true c23) ?_
 refine TL.op1 (OpR.pure rfl) rfl ?_
 refine TL.on rfl rfl rfl rfl (decide_eq_true c23) ?_
 refine TL.op1 (OpR.pure rfl) rfl ?_
 refine TL.on rfl rfl rfl rfl (decide_eq_true c23) ?_
 refine TL.op1 (OpR.pure rfl) rfl ?_
 refine TL.on rfl rfl rfl rfl (decide_eq_true c23) ?_
 obtain ⟨x24, hx24, ht22⟩ := bnd_some ht22
 obtain ⟨x25, hx25, ht22⟩ := bnd_some ht22
 rw [o_tree_Node_int_eq hx25] at hx24
 refine TL.op1 (OpR.indexM eNP hx24 rfl rfl rfl rfl rfl) rfl ?_
 refine TL.on rfl rfl rfl rfl (decide_eq_true c23) ?_
 refine TL.op1 (OpR.pure rfl) rfl ?_
 refine TL.on rfl rfl rfl rfl (decide_eq_true c23) ?_
 refine TL.op1 (OpR.pure rfl) rfl ?_
 refine TL.on rfl rfl rfl rfl (decide_eq_true c23) ?_
 refine TL.op1 (OpR.pure rfl) rfl ?_
 refine TL.on rfl rfl rfl rfl (decide_eq_true c23) ?_
 refine TL.op1 (OpR.pure rfl) rfl ?_
 refine TL.on rfl rfl rfl rfl (decide_eq_true c23) ?_
 refine TL.op1 (OpR.pure rfl) rfl ?_
 refine TL.on rfl rfl rfl rfl (decide_eq_true c23) ?_
 refine TL.op1 (OpR.pure rfl) rfl ?_
 refine TL.op1 (OpR.pickT rfl (decide_eq_true c23) rfl) rfl ?_
 refine TL.nil ?_
 obtain rfl := Option.some.inj ht22
 exact ⟨_, Gst.only [0, 1, 2, 3, 8, 38] rfl, rfl⟩
noncomputable def walk_stack_int_top (a0 : List walk_frame_int) : Option Int :=
  bnd (idx a0 (w64 ((a0.length : Int) - 1))) fun x2 =>
  some (w64 ((a0.length : Int) - 1))
set_option maxHeartbeats 4000000 in
theorem walk_stack_int_top_c {a0 : List walk_frame_int} {b0 : Nat} {v1 : Value} {res : Int} (h0 : walk_stack_int_top a0 = some res) : CallF X 70 [.val (.pointer (some ⟨b0, 0, none⟩))] [.var b0 [.val v1] 109, .row v1 (List.map e_walk_frame_int a0) 3 114] (fun x => .val (.pointer (some ⟨blk v1, res.toNat * 3, none⟩))) (fun x => [.var b0 [.val v1] 109, .row v1 (List.map e_walk_frame_int a0) 3 114]) := by
 unfold walk_stack_int_top at h0
 refine CallF.mkG (X := X) rfl Try.func70 rfl rfl Try.ntmps70 rfl rfl ?_
 refine T.seq ?_
 refine T.region ?_
 refine TL.op1 (OpR.pure rfl) rfl ?_
 refine TL.nil ?_
 show T X _ _ _
 refine T.seq ?_
 obtain ⟨x2, hx2, h0⟩ := bnd_some h0
 refine T.drawQ drawsX [.val (.pointer (some ⟨b0, 0, none⟩)), .val (.pointer (some ⟨b0, 0, none⟩)), .val (.pointer (some ⟨b0, 0, none⟩)), .val v1, .val (.pointer (some ⟨b0, 0, none⟩)), .val (.pointer (some ⟨b0, 0, none⟩)), .val (.pointer (some ⟨b0, 0, none⟩)), .val v1, .val (.int .i64 (a0.length : Int)), .val (.int .i64 (w64 ((a0.length : Int) - 1))), .val (.pointer (some ⟨blk v1, (w64 ((a0.length : Int) - 1)).toNat * 3, none⟩)), .val (.pointer (some ⟨blk v1, (w64 ((a0.length : Int) - 1)).toNat * 3, none⟩))] [0, 2, 3, 4, 5, 6, 7, 8, 9, 10, 11, 12, 13] (by decide +kernel) rfl ?_ rfl ?_
 rotate_left
 · show T X _ _ _
   refine T.ret ?_
   obtain rfl := Option.some.inj h0
   exact PostG.retP (ks := [0, 1]) (Gst.only [2] rfl) undef (ResL.cons (ResV.tmp rfl) ResL.nil) rfl rfl rfl rfl
 refine OpsQ.yes (Want.plain rfl) rfl (OpR.pure rfl) ?_
 refine OpsQ.yes (Want.plain rfl) rfl (OpR.pure rfl) ?_
 refine OpsQ.yes (Want.plain rfl) rfl (OpR.pure rfl) ?_
 refine OpsQ.yes (Want.plain rfl) rfl (OpR.loadPtr 0 rfl rfl rfl rfl) ?_
 refine OpsQ.yes (Want.plain rfl) rfl (OpR.pure rfl) ?_
 refine OpsQ.yes (Want.plain rfl) rfl (OpR.pure rfl) ?_
 refine OpsQ.yes (Want.plain rfl) rfl (OpR.pure rfl) ?_
 refine OpsQ.yes (Want.plain rfl) rfl (OpR.loadPtr 0 rfl rfl rfl rfl) ?_
 refine OpsQ.yes (Want.plain rfl) rfl (OpR.rowLenM e_walk_frame_int 1 rfl rfl rfl rfl) ?_
 refine OpsQ.yes (Want.plain rfl) rfl (OpR.pure rfl) ?_
 refine OpsQ.yes (Want.plain rfl) rfl (OpR.rowIndexM e_walk_frame_int 1 hx2 rfl rfl rfl rfl rfl rfl rfl) ?_
 refine OpsQ.yes (Want.plain rfl) rfl (OpR.pure rfl) ?_
 exact OpsQ.nil
noncomputable def walk_stack_int_down_2.l1 (a4 : Int) (s4 : (List NP) × (List Int) × Int × Int × (List walk_frame_int)) (s14 : Int × Int) : Option (Lp (Int × Int) (Int × Int)) :=
  bnd (if s14.2 < (w64 ((s4.1.length : Int) - 1)) then
    bnd (idx s4.1 s14.2) fun x24 =>
    bnd (o_tree_Node_int x24) fun x25 =>
    some (decide (a4 ≥ (w64 (s14.1 + x25.fN))))
  else
    some false : Option Bool) fun t22 =>
  if t22 = true then
    bnd (idx s4.1 s14.2) fun x27 =>
    bnd (o_tree_Node_int x27) fun x28 =>
    some (Lp.next (w64 (s14.1 + x28.fN), w64 (s14.2 + 1)))
  else
    some (Lp.done (s14.1, s14.2))
noncomputable def walk_stack_int_down_2.l2 (a4 : Int) (s4 : (List NP) × (List Int) × Int × Int × (List walk_frame_int)) : Option (Lp ((List NP) × (List Int) × Int × Int × (List walk_frame_int)) ((List NP) × (List Int) × Int × Int × (List walk_frame_int))) :=
  if (s4.1.length : Int) > 0 then
    bnd (loop (walk_stack_int_down_2.l1 a4 s4) (s4.2.2.2.1, 0) : Option (Int × Int)) fun t13 =>
    bnd (app 24 s4.2.2.2.2 [(⟨(some (c_tree_Node_int (⟨s4.1, s4.2.1, s4.2.2.1⟩ : tree_Node_int))), t13.1, t13.2⟩ : walk_frame_int)]) fun x29 =>
    bnd (idx s4.1 t13.2) fun x31 =>
    bnd (o_tree_Node_int x31) fun x32 =>
    some (Lp.next (x32.fKids, x32.fItems, x32.fN, t13.1, x29))
  else
    some (Lp.done (s4.1, s4.2.1, s4.2.2.1, s4.2.2.2.1, s4.2.2.2.2))
noncomputable def walk_stack_int_down_2 (a0 : List NP) (a1 : List Int) (a2 : Int) (a3 : Int) (a4 : Int) (a5 : List walk_frame_int) : Option (List walk_frame_int) :=
  bnd (loop (walk_stack_int_down_2.l2 a4) (a0, a1, a2, a3, a5) : Option ((List NP) × (List Int) × Int × Int × (List walk_frame_int))) fun t1 =>
  bnd (app 24 t1.2.2.2.2 [(⟨(some (c_tree_Node_int (⟨t1.1, t1.2.1, t1.2.2.1⟩ : tree_Node_int))), t1.2.2.2.1, w64 (a4 - t1.2.2.2.1)⟩ : walk_frame_int)]) fun x33 =>
  some x33
set_option maxHeartbeats 4000000 in
theorem walk_stack_int_down_2_c {a0 : List NP} {a1 : List Int} {a2 : Int} {a3 : Int} {a4 : Int} {a5 : List walk_frame_int} {b0 : Nat} {v1 : Value} {res : (List walk_frame_int)} (h0 : walk_stack_int_down_2 a0 a1 a2 a3 a4 a5 = some res) : CallF X 69 [.val (.pointer (some ⟨b0, 0, none⟩)), .nod [.sl 1 (List.map eNP a0), .sl 1 (List.map (eI .i64) a1), .val (.int .i64 a2)], .val (.int .i64 a3), .val (.int .i64 a4)] [.var b0 [.val v1] 109, .row v1 (List.map e_walk_frame_int a5) 3 114] (fun x => .tup []) (fun x => [.var b0 [.val (vn x 0)] 109, .row (vn x 0) (List.map e_walk_frame_int res) 3 114]) := by
 unfold walk_stack_int_down_2 at h0
 refine CallF.mkG (X := X) rfl Try.func69 rfl rfl Try.ntmps69 rfl rfl ?_
 refine T.seq ?_
 obtain ⟨t1, ht1, h0⟩ := bnd_some h0
 refine T.cutC (fun S' => ∃ y2 : Value, S' = ⟨[(3, .val (.int .i64 a4)), (2, .val (.int .i64 t1.2.2.2.1)), (1, .nod [.sl 1 (List.map eNP t1.1), .sl 1 (List.map (eI .i64) t1.2.1), .val (.int .i64 t1.2.2.1)]), (0, .val (.pointer (some ⟨b0, 0, none⟩)))], [.var b0 [.val y2] 109, .row y2 (List.map e_walk_frame_int t1.2.2.2.2) 3 114], 88⟩) (fun _ h => h) ?_ ?_
 rotate_left
 · rintro _ ⟨y2, rfl⟩
   show T X _ _ _
   refine T.region ?_
   refine TL.op1 (OpR.pure rfl) rfl ?_
   refine TL.op1 (OpR.pure rfl) rfl ?_
   refine TL.op1 (OpR.pure rfl) rfl ?_
   refine TL.op1 (OpR.pure rfl) rfl ?_
   refine TL.op1 (OpR.loadPtr 0 rfl rfl rfl rfl) rfl ?_
   refine TL.op1 (OpR.pure rfl) rfl ?_
   refine TL.op1 (OpR.pure rfl) rfl ?_
   refine TL.op1 (OpR.pure rfl) rfl ?_
   refine TL.op1 (OpR.pure rfl) rfl ?_
   refine TL.op1 (OpR.pure rfl) rfl ?_
   refine TL.op1 (OpR.build rfl rfl rfl rfl rfl) rfl ?_
   refine TL.op1 (OpR.lit rfl rfl rfl rfl rfl rfl rfl) rfl ?_
   obtain ⟨x33, hx33, h0⟩ := bnd_some h0
   refine TL.op (OpR.appendM (m := [(⟨(some (c_tree_Node_int (⟨t1.1, t1.2.1, t1.2.2.1⟩ : tree_Node_int))), t1.2.2.2.1, w64 (a4 - t1.2.2.2.1)⟩ : walk_frame_int)]) e_walk_frame_int 1 hx33 rfl rfl rfl rfl rfl rfl rfl rfl rfl (fun _ => rfl)) rfl (fun v34 => ?_)
   refine TL.op1 (OpR.pure rfl) rfl ?_
   refine TL.op1 (OpR.pure rfl) rfl ?_
   refine TL.op0 (OpR.store 0 rfl rfl rfl rfl rfl rfl rfl rfl) ?_
   refine TL.nil ?_
   obtain rfl := Option.some.inj h0
   exact PostG.finP (ks := [0, 1]) (Gst.only [] rfl) (.tuple #[v34]) ResL.nil rfl rfl rfl rfl
 refine T.block ?_
 obtain ⟨n5, n10⟩ := loop_some ht1
 refine T.loop (fun n S' => ∃ S'', Gst S' S'' ∧ ∃ y3 : Value, ∃ s4 : (List NP) × (List Int) × Int × Int × (List walk_frame_int), S'' = ⟨[(3, .val (.int .i64 a4)), (2, .val (.int .i64 s4.2.2.2.1)), (1, .nod [.sl 1 (List.map eNP s4.1), .sl 1 (List.map (eI .i64) s4.2.1), .val (.int .i64 s4.2.2.1)]), (0, .val (.pointer (some ⟨b0, 0, none⟩)))], [.var b0 [.val y3] 109, .row y3 (List.map e_walk_frame_int s4.2.2.2.2) 3 114], 88⟩ ∧ iter (walk_stack_int_down_2.l2 a4) n s4 = some t1) n5 ?_ ?_
 · exact ⟨_, Gst.only [0, 1, 2, 3] rfl, v1, (a0, a1, a2, a3, a5), rfl, n10⟩
 rintro n5 _ ⟨_, g, y3, s4, rfl, i9⟩
 refine T.ghost g ?_
 obtain ⟨m6, q7, rfl, q8, i9⟩ := iter_succ i9
 unfold walk_stack_int_down_2.l2 at q8
 refine T.seq ?_
 refine T.seq ?_
 refine T.region ?_
 refine TL.op1 (OpR.pure rfl) rfl ?_
 refine TL.op1 (OpR.pure rfl) rfl ?_
 refine TL.op1 (OpR.pure rfl) rfl ?_
 refine TL.op1 (OpR.pure rfl) rfl ?_
 refine TL.op1 (OpR.cast (OpR.pure rfl) (intE (lenM _ _))) rfl ?_
 refine TL.op1 (OpR.pure rfl) rfl ?_
 refine TL.nil ?_
 show T X _ _ _
 rcases ite_some q8 with ⟨c12, q8⟩ | ⟨c12, q8⟩
 rotate_left
 · refine T.condF rfl (decide_eq_false c12) ?_
   refine T.exit ?_
   obtain rfl := Option.some.inj q8
   obtain rfl : _ = _ := i9
   exact ⟨_, Gst.only [0, 1, 2, 3] rfl, y3, rfl⟩
 refine T.condT rfl (decide_eq_true c12) ?_
 refine T.skip ?_
 show T X _ _ _
 refine T.block ?_
 refine T.seq ?_
 refine T.region ?_
 refine TL.op1 (OpR.pure rfl) rfl ?_
 refine TL.nil ?_
 show T X _ _ _
 refine T.seq ?_
 obtain ⟨t13, ht13, q8⟩ := bnd_some q8
 refine T.cutC (fun S' => S' = ⟨[(8, .val (.int .i64 t13.2)), (3, .val (.int .i64 a4)), (2, .val (.int .i64 t13.1)), (1, .nod [.sl 1 (List.map eNP s4.1), .sl 1 (List.map (eI .i64) s4.2.1), .val (.int .i64 s4.2.2.1)]), (0, .val (.pointer (some ⟨b0, 0, none⟩)))], [.var b0 [.val y3] 109, .row y3 (List.map e_walk_frame_int s4.2.2.2.2) 3 114], 88⟩) (fun _ h => h) ?_ ?_
 rotate_left
 · rintro _ rfl
   show T X _ _ _
   refine T.seq ?_
   refine T.region ?_
   refine TL.op1 (OpR.pure rfl) rfl ?_
   refine TL.op1 (OpR.pure rfl) rfl ?_
   refine TL.op1 (OpR.pure rfl) rfl ?_
   refine TL.op1 (OpR.pure rfl) rfl ?_
   refine TL.op1 (OpR.loadPtr 0 rfl rfl rfl rfl) rfl ?_
   refine TL.op1 (OpR.pure rfl) rfl ?_
   refine TL.op1 (OpR.pure rfl) rfl ?_
   refine TL.op1 (OpR.pure rfl) rfl ?_
   refine TL.op1 (OpR.build rfl rfl rfl rfl rfl) rfl ?_
   refine TL.op1 (OpR.lit rfl rfl rfl rfl rfl rfl rfl) rfl ?_
   obtain ⟨x29, hx29, q8⟩ := bnd_some q8
   refine TL.op (OpR.appendM (m := [(⟨(some (c_tree_Node_int (⟨s4.1, s4.2.1, s4.2.2.1⟩ : tree_Node_int))), t13.1, t13.2⟩ : walk_frame_int)]) e_walk_frame_int 1 hx29 rfl rfl rfl rfl rfl rfl rfl rfl rfl (fun _ => rfl)) rfl (fun v30 => ?_)
   refine TL.op1 (OpR.pure rfl) rfl ?_
   refine TL.op1 (OpR.pure rfl) rfl ?_
   refine TL.op0 (OpR.store 0 rfl rfl rfl rfl rfl rfl rfl rfl) ?_
   refine TL.nil ?_
   show T X _ _ _
   refine T.region ?_
   refine TL.op1 (OpR.pure rfl) rfl ?_
   refine TL.op1 (OpR.pure rfl) rfl ?_
   refine TL.op1 (OpR.pure rfl) rfl ?_
   refine TL.op1 (OpR.pure rfl) rfl ?_
   refine TL.op1 (OpR.pure rfl) rfl ?_
   obtain ⟨x31, hx31, q8⟩ := bnd_some q8
   obtain ⟨x32, hx32, q8⟩ := bnd_some q8
   rw [o_tree_Node_int_eq hx32] at hx31
   refine TL.op1 (OpR.indexM eNP hx31 rfl rfl rfl rfl rfl) rfl ?_
   refine TL.op1 (OpR.pure rfl) rfl ?_
   refine TL.op1 (OpR.pure rfl) rfl ?_
   refine TL.nil ?_
   obtain rfl := Option.some.inj q8
   exact ⟨m6, Nat.lt_succ_self _, _, Gst.only [0, 1, 2, 3] rfl, v30, (x32.fKids, x32.fItems, x32.fN, t13.1, x29), rfl, i9⟩
 refine T.block ?_
 obtain ⟨n15, n20⟩ := loop_some ht13
 refine T.loop (fun n S' => ∃ S'', Gst S' S'' ∧ ∃ s14 : Int × Int, S'' = ⟨[(8, .val (.int .i64 s14.2)), (3, .val (.int .i64 a4)), (2, .val (.int .i64 s14.1)), (1, .nod [.sl 1 (List.map eNP s4.1), .sl 1 (List.map (eI .i64) s4.2.1), .val (.int .i64 s4.2.2.1)]), (0, .val (.pointer (some ⟨b0, 0, none⟩)))], [.var b0 [.val y3] 109, .row y3 (List.map e_walk_frame_int s4.2.2.2.2) 3 114], 88⟩ ∧ iter (walk_stack_int_down_2.l1 a4 s4) n s14 = some t13) n15 ?_ ?_
 · exact ⟨_, Gst.only [0, 1, 2, 3, 8] rfl, (s4.2.2.2.1, 0), rfl, n20⟩
 rintro n15 _ ⟨_, g, s14, rfl, i19⟩
 refine T.ghost g ?_
 obtain ⟨m16, q17, rfl, q18, i19⟩ := iter_succ i19
 unfold walk_stack_int_down_2.l1 at q18
 refine T.seq ?_
 refine T.seq ?_
 obtain ⟨t22, ht22, q18⟩ := bnd_some q18
 refine T.cutC (fun S' => S' = ⟨[(38, .val (.bool t22)), (8, .val (.int .i64 s14.2)), (3, .val (.int .i64 a4)), (2, .val (.int .i64 s14.1)), (1, .nod [.sl 1 (List.map eNP s4.1), .sl 1 (List.map (eI .i64) s4.2.1), .val (.int .i64 s4.2.2.1)]), (0, .val (.pointer (some ⟨b0, 0, none⟩)))], [.var b0 [.val y3] 109, .row y3 (List.map e_walk_frame_int s4.2.2.2.2) 3 114], 88⟩) (fun _ h => h) ?_ ?_
 rotate_left
 · rintro _ rfl
   show T X _ _ _
   rcases ite_some q18 with ⟨c26, q18⟩ | ⟨c26, q18⟩
   rotate_left
   · refine T.condF rfl (eq_false_of_ne_true c26) ?_
     refine T.exit ?_
     obtain rfl := Option.some.inj q18
     obtain rfl : _ = _ := i19
     exact ⟨_, Gst.only [0, 1, 2, 3, 8] rfl, rfl⟩
   refine T.condT rfl (c26) ?_
   refine T.skip ?_
   show T X _ _ _
   refine T.block ?_
   refine T.seq ?_
   refine T.region ?_
   refine TL.op1 (OpR.pure rfl) rfl ?_
   refine TL.op1 (OpR.pure rfl) rfl ?_
   refine TL.op1 (OpR.pure rfl) rfl ?_
   refine TL.op1 (OpR.pure rfl) rfl ?_
   refine TL.op1 (OpR.pure rfl) rfl ?_
   refine TL.op1 (OpR.pure rfl) rfl ?_
   obtain ⟨x27, hx27, q18⟩ := bnd_some q18
   obtain ⟨x28, hx28, q18⟩ := bnd_some q18
   rw [o_tree_Node_int_eq hx28] at hx27
   refine TL.op1 (OpR.indexM eNP hx27 rfl rfl rfl rfl rfl) rfl ?_
   refine TL.op1 (OpR.pure rfl) rfl ?_
   refine TL.op1 (OpR.pure rfl) rfl ?_
   refine TL.op1 (OpR.pure rfl) rfl ?_
   refine TL.op1 (OpR.pure rfl) rfl ?_
   refine TL.op1 (OpR.pure rfl) rfl ?_
   refine TL.op1 (OpR.pure rfl) rfl ?_
   refine TL.nil ?_
   show T X _ _ _
   refine T.region ?_
   refine TL.op1 (OpR.pure rfl) rfl ?_
   refine TL.op1 (OpR.pure rfl) rfl ?_
   refine TL.op1 (OpR.pure rfl) rfl ?_
   refine TL.nil ?_
   obtain rfl := Option.some.inj q18
   exact ⟨m16, Nat.lt_succ_self _, _, Gst.only [0, 1, 2, 3, 8] rfl, (w64 (s14.1 + x28.fN), w64 (s14.2 + 1)), rfl, i19⟩
 refine T.region ?_
 refine TL.op1 (OpR.pure rfl) rfl ?_
 refine TL.op1 (OpR.pure rfl) rfl ?_
 refine TL.op1 (OpR.pure rfl) rfl ?_
 refine TL.op1 (OpR.pure rfl) rfl ?_
 refine TL.op1 (OpR.pure rfl) rfl ?_
 refine TL.op1 (OpR.cast (OpR.pure rfl) (intE (lenM _ _))) rfl ?_
 refine TL.op1 (OpR.pure rfl) rfl ?_
 refine TL.op1 (OpR.pure rfl) rfl ?_
 refine TL.op1 (OpR.pure rfl) rfl ?_
 rcases ite_some ht22 with ⟨c23, ht22⟩ | ⟨c23, ht22⟩
 rotate_left
 · refine TL.off rfl rfl rfl rfl (decide_eq_false c23) rfl rfl ?_
   refine TL.off rfl rfl rfl rfl (decide_eq_false c23) rfl rfl ?_
   refine TL.off rfl rfl rfl rfl (decide_eq_false c23) rfl rfl ?_
   refine TL.off rfl rfl rfl rfl (decide_eq_false c23) rfl rfl ?_
   refine TL.off rfl rfl rfl rfl (decide_eq_false c23) rfl rfl ?_
   refine TL.off rfl rfl rfl rfl (decide_eq_false c23) rfl rfl ?_
   refine TL.off rfl rfl rfl rfl (decide_eq_false c23) rfl rfl ?_
   refine TL.off rfl rfl rfl rfl (decide_eq_false c23) rfl rfl ?_
   refine TL.off rfl rfl rfl rfl (decide_eq_false c23) rfl rfl ?_
   refine TL.off rfl rfl rfl rfl (decide_eq_false c23) rfl rfl ?_
   refine TL.off rfl rfl rfl rfl (decide_eq_false c23) rfl rfl ?_
   refine TL.off rfl rfl rfl rfl (decide_eq_false c23) rfl rfl ?_
   refine TL.off rfl rfl rfl rfl (decide_eq_false c23) rfl rfl ?_
   refine TL.off rfl rfl rfl rfl (decide_eq_false c23) rfl rfl ?_
   refine TL.op1 (OpR.pickF rfl (decide_eq_false c23) rfl) rfl ?_
   refine TL.nil ?_
   obtain rfl := Option.some.inj ht22
   exact ⟨_, Gst.only [0, 1, 2, 3, 8, 38] rfl, rfl⟩
 refine TL.on rfl rfl rfl rfl (decide_eq_true c23) ?_
 refine TL.op1 (OpR.pure rfl) rfl ?_
 refine TL.on rfl rfl rfl rfl (decide_eq_true c23) ?_
 refine TL.op1 (OpR.pure rfl) rfl ?_
 refine TL.on rfl rfl rfl rfl (decide_eq_true c23) ?_
 refine TL.op1 (OpR.pure rfl) rfl ?_
 refine TL.on rfl rfl rfl rfl (decide_eq_true c23) ?_
 refine TL.op1 (OpR.pure rfl) rfl ?_
 refine TL.on rfl rfl rfl rfl (decide_eq_true c23) ?_
 refine TL.op1 (OpR.pure rfl) rfl ?_
 refine TL.on rfl rfl rfl rfl (decide_eq_true c23) ?_
 refine TL.op1 (OpR.pure rfl) rfl ?_
 refine TL.on rfl rfl rfl rfl (decide_eq_true c23) ?_
 refine TL.op1 (OpR.pure rfl) rfl ?_
 refine TL.on rfl rfl rfl rfl (decide_eq_true c23) ?_
 obtain ⟨x24, hx24, ht22⟩ := bnd_some ht22
 obtain ⟨x25, hx25, ht22⟩ := bnd_some ht22
 rw [o_tree_Node_int_eq hx25] at hx24
 refine TL.op1 (OpR.indexM eNP hx24 rfl rfl rfl rfl rfl) rfl ?_
 refine TL.on rfl rfl rfl rfl (decide_eq_true c23) ?_
 refine TL.op1 (OpR.pure rfl) rfl ?_
 refine TL.on rfl rfl rfl rfl (decide_eq_true c23) ?_
 refine TL.op1 (OpR.pure rfl) rfl ?_
 refine TL.on rfl rfl rfl rfl (decide_eq_true c23) ?_
 refine TL.op1 (OpR.pure rfl) rfl ?_
 refine TL.on rfl rfl rfl rfl (decide_eq_true c23) ?_
 refine TL.op1 (OpR.pure rfl) rfl ?_
 refine TL.on rfl rfl rfl rfl (decide_eq_true c23) ?_
 refine TL.op1 (OpR.pure rfl) rfl ?_
 refine TL.on rfl rfl rfl rfl (decide_eq_true c23) ?_
 refine TL.op1 (OpR.pure rfl) rfl ?_
 refine TL.op1 (OpR.pickT rfl (decide_eq_true c23) rfl) rfl ?_
 refine TL.nil ?_
 obtain rfl := Option.some.inj ht22
 exact ⟨_, Gst.only [0, 1, 2, 3, 8, 38] rfl, rfl⟩
noncomputable def walk_stack_int_forth.l1 (s7 : (List walk_frame_int)) : Option (Lp (List walk_frame_int) (Ex (List walk_frame_int) (Bool × (List walk_frame_int)))) :=
  if (s7.length : Int) > 0 then
    bnd (walk_stack_int_top s7) fun x16 =>
    bnd (idx s7 x16) fun x17 =>
    bnd (some x17.fN) fun q18 => match q18 with
      | none =>
        none
      | some z19 =>
        bnd (o_tree_Node_int z19) fun x21 =>
        bnd (idx x21.fKids x17.fNext) fun x23 =>
        bnd (o_tree_Node_int x23) fun x24 =>
        bnd (idx (s7.set x16.toNat (⟨x17.fN, w64 (x17.fFirst + x24.fN), x17.fNext⟩ : walk_frame_int)) x16) fun x25 =>
        bnd (idx ((s7.set x16.toNat (⟨x17.fN, w64 (x17.fFirst + x24.fN), x17.fNext⟩ : walk_frame_int)).set x16.toNat (⟨x25.fN, x25.fFirst, w64 (x25.fNext + 1)⟩ : walk_frame_int)) x16) fun x26 =>
        bnd (some x26.fN) fun q27 => match q27 with
          | none =>
            none
          | some z28 =>
            bnd (o_tree_Node_int z28) fun x30 =>
            if x26.fNext < (x30.fKids.length : Int) then
              bnd (idx x30.fKids x26.fNext) fun x34 =>
              bnd (o_tree_Node_int x34) fun x35 =>
              bnd (walk_stack_int_down_2 x35.fKids x35.fItems x35.fN x26.fFirst x26.fFirst ((s7.set x16.toNat (⟨x17.fN, w64 (x17.fFirst + x24.fN), x17.fNext⟩ : walk_frame_int)).set x16.toNat (⟨x25.fN, x25.fFirst, w64 (x25.fNext + 1)⟩ : walk_frame_int))) fun x36 =>
              some (Lp.done (Ex.ret (true, x36)))
            else
              bnd (some (((s7.set x16.toNat (⟨x17.fN, w64 (x17.fFirst + x24.fN), x17.fNext⟩ : walk_frame_int)).set x16.toNat (⟨x25.fN, x25.fFirst, w64 (x25.fNext + 1)⟩ : walk_frame_int)).length : Int)) fun x38 =>
              bnd (cut ((s7.set x16.toNat (⟨x17.fN, w64 (x17.fFirst + x24.fN), x17.fNext⟩ : walk_frame_int)).set x16.toNat (⟨x25.fN, x25.fFirst, w64 (x25.fNext + 1)⟩ : walk_frame_int)) 0 (w64 (x38 - 1))) fun x39 =>
              some (Lp.next x39)
  else
    some (Lp.done (Ex.brk s7))
noncomputable def walk_stack_int_forth (a0 : List walk_frame_int) : Option (Bool × (List walk_frame_int)) :=
  bnd (cut a0 0 (w64 ((a0.length : Int) - 1))) fun x2 =>
  bnd (loop walk_stack_int_forth.l1 x2 : Option (Ex (List walk_frame_int) (Bool × (List walk_frame_int)))) fun t3 => match t3 with
    | .brk u4 =>
      some (false, u4)
    | .ret u4 => some u4
set_option maxHeartbeats 4000000 in
theorem walk_stack_int_forth_c {a0 : List walk_frame_int} {b0 : Nat} {v1 : Value} {res : Bool × (List walk_frame_int)} (h0 : walk_stack_int_forth a0 = some res) : CallF X 71 [.val (.pointer (some ⟨b0, 0, none⟩))] [.var b0 [.val v1] 109, .row v1 (List.map e_walk_frame_int a0) 3 114] (fun x => .val (.bool res.1)) (fun x => [.var b0 [.val (vn x 0)] 109, .row (vn x 0) (List.map e_walk_frame_int res.2) 3 114]) := by
 unfold walk_stack_int_forth at h0
 refine CallF.mkG (X := X) rfl Try.func71 rfl rfl Try.ntmps71 rfl rfl ?_
 refine T.seq ?_
 refine T.region ?_
 refine TL.op1 (OpR.pure rfl) rfl ?_
 refine TL.nil ?_
 show T X _ _ _
 refine T.seq ?_
 obtain ⟨x2, hx2, h0⟩ := bnd_some h0
 refine T.drawS drawsX (fun env1 => [.val (.pointer (some ⟨b0, 0, none⟩)), .val (.pointer (some ⟨b0, 0, none⟩)), .val (.pointer (some ⟨b0, 0, none⟩)), .val (.pointer (some ⟨b0, 0, none⟩)), .val v1, .val (.pointer (some ⟨b0, 0, none⟩)), .val (.pointer (some ⟨b0, 0, none⟩)), .val (.pointer (some ⟨b0, 0, none⟩)), .val v1, .val (.int .i64 (a0.length : Int)), .val (.int .i64 (w64 ((a0.length : Int) - 1))), .val (vw v1 (0 : Int).toNat (w64 ((a0.length : Int) - 1) : Int).toNat 3), .val (.pointer (some ⟨b0, 0, none⟩)), .val (.pointer (some ⟨b0, 0, none⟩)), .dead]) (fun D env1 => [(bif D 14 then .var b0 [.val (vw v1 (0 : Int).toNat (w64 ((a0.length : Int) - 1) : Int).toNat 3)] 109 else .var b0 [.val v1] 109), .row v1 (List.map e_walk_frame_int a0) 3 114]) [0, 0, 2, 6, 14, 0, 32, 96, 224, 480, 992, 2046, 4095, 8191, 16383] [0, 2, 4, 5, 6, 7, 8, 9, 10, 11, 12, 13, 14, 15, 16, 17] (fun env1 => [.var b0 [.val (vw v1 (0 : Int).toNat (w64 ((a0.length : Int) - 1) : Int).toNat 3)] 109, .row v1 (List.map e_walk_frame_int a0) 3 114]) (by decide +kernel) (by decide +kernel) (fun _ => rfl) (fun _ => rfl) ?_ (fun _ => rfl) (fun _ => rfl) ?_
 · refine oS (d := .val (.pointer (some ⟨b0, 0, none⟩))) (fun _ => Want.plain rfl) (fun _ => rfl) (fun _ _ _ => rfl) (fun _ _ => OpR.pure rfl) (fun _ _ _ _ _ _ _ => rfl) ?_
   refine oS (d := .val (.pointer (some ⟨b0, 0, none⟩))) (fun _ => Want.plain rfl) (fun _ => rfl) (fun _ _ _ => rfl) (fun _ _ => OpR.pure rfl) (fun _ _ _ _ _ _ _ => rfl) ?_
   refine oS (d := .val (.pointer (some ⟨b0, 0, none⟩))) (fun _ => Want.plain rfl) (fun _ => rfl) (fun _ _ _ => rfl) (fun _ _ => OpR.pure rfl) (fun _ _ _ _ _ _ _ => rfl) ?_
   refine oS (d := .val (.pointer (some ⟨b0, 0, none⟩))) (fun _ => Want.plain rfl) (fun _ => rfl) (fun _ _ _ => rfl) (fun _ _ => OpR.pure rfl) (fun _ _ _ _ _ _ _ => rfl) ?_
   refine OpsS.cons' true ?_ (fun _ _ _ _ _ _ _ => rfl) ?_
   · intro D env1 hA
     have e14 : D 14 = false := hA.no 14 _ rfl rfl
     exact OpS.yes (o0 := [.var b0 [.val v1] 109, .row v1 (List.map e_walk_frame_int a0) 3 114]) (o1 := fun x => [.var b0 [.val v1] 109, .row v1 (List.map e_walk_frame_int a0) 3 114]) (d := fun x => .val v1) (Want.plain rfl) (by first | rfl | simp only [e14, cond_true, cond_false, List.cons_append, List.nil_append, List.append_nil]) (fun x => by first | rfl | simp only [ins_self, ins_ne D (show 4 ≠ 14 by decide), upd_self, e14, cond_true, cond_false, List.cons_append, List.nil_append, List.append_nil]) (fun x => rfl) (OpR.loadPtr 0 rfl rfl rfl rfl)
   refine oS (d := .val (.pointer (some ⟨b0, 0, none⟩))) (fun _ => Want.plain rfl) (fun _ => rfl) (fun _ _ _ => rfl) (fun _ _ => OpR.pure rfl) (fun _ _ _ _ _ _ _ => rfl) ?_
   refine oS (d := .val (.pointer (some ⟨b0, 0, none⟩))) (fun _ => Want.plain rfl) (fun _ => rfl) (fun _ _ _ => rfl) (fun _ _ => OpR.pure rfl) (fun _ _ _ _ _ _ _ => rfl) ?_
   refine oS (d := .val (.pointer (some ⟨b0, 0, none⟩))) (fun _ => Want.plain rfl) (fun _ => rfl) (fun _ _ _ => rfl) (fun _ _ => OpR.pure rfl) (fun _ _ _ _ _ _ _ => rfl) ?_
   refine OpsS.cons' true ?_ (fun _ _ _ _ _ _ _ => rfl) ?_
   · intro D env1 hA
     have e14 : D 14 = false := hA.no 14 _ rfl rfl
     exact OpS.yes (o0 := [.var b0 [.val v1] 109, .row v1 (List.map e_walk_frame_int a0) 3 114]) (o1 := fun x => [.var b0 [.val v1] 109, .row v1 (List.map e_walk_frame_int a0) 3 114]) (d := fun x => .val v1) (Want.plain rfl) (by first | rfl | simp only [e14, cond_true, cond_false, List.cons_append, List.nil_append, List.append_nil]) (fun x => by first | rfl | simp only [ins_self, ins_ne D (show 8 ≠ 14 by decide), upd_self, e14, cond_true, cond_false, List.cons_append, List.nil_append, List.append_nil]) (fun x => rfl) (OpR.loadPtr 0 rfl rfl rfl rfl)
   refine oS (d := .val (.int .i64 (a0.length : Int))) (fun _ => Want.plain rfl) (fun _ => rfl) (fun _ _ _ => rfl) (fun _ _ => OpR.rowLenM e_walk_frame_int 1 rfl rfl rfl rfl) (fun _ _ _ _ _ _ _ => rfl) ?_
   refine oS (d := .val (.int .i64 (w64 ((a0.length : Int) - 1)))) (fun _ => Want.plain rfl) (fun _ => rfl) (fun _ _ _ => rfl) (fun _ _ => OpR.pure rfl) (fun _ _ _ _ _ _ _ => rfl) ?_
   refine oS (d := .val (vw v1 (0 : Int).toNat (w64 ((a0.length : Int) - 1) : Int).toNat 3)) (fun _ => Want.plain rfl) (fun _ => rfl) (fun _ _ _ => rfl) (fun _ _ => OpR.sliceRowM e_walk_frame_int 1 hx2 rfl rfl rfl rfl rfl rfl BdM.none (BdM.some rfl)) (fun _ _ _ _ _ _ _ => rfl) ?_
   refine oS (d := .val (.pointer (some ⟨b0, 0, none⟩))) (fun _ => Want.plain rfl) (fun _ => rfl) (fun _ _ _ => rfl) (fun _ _ => OpR.pure rfl) (fun _ _ _ _ _ _ _ => rfl) ?_
   refine oS (d := .val (.pointer (some ⟨b0, 0, none⟩))) (fun _ => Want.plain rfl) (fun _ => rfl) (fun _ _ _ => rfl) (fun _ _ => OpR.pure rfl) (fun _ _ _ _ _ _ _ => rfl) ?_
   refine OpsS.cons' true ?_ (fun _ _ _ _ _ _ _ => rfl) ?_
   · intro D env1 hA
     exact OpS.yes (o0 := [.var b0 [.val v1] 109, .row v1 (List.map e_walk_frame_int a0) 3 114]) (o1 := fun x => [.var b0 [.val (vw v1 (0 : Int).toNat (w64 ((a0.length : Int) - 1) : Int).toNat 3)] 109, .row v1 (List.map e_walk_frame_int a0) 3 114]) (d := fun x => .dead) (Want.plain rfl) (by first | rfl | simp only [hA.me, cond_true, cond_false, List.cons_append, List.nil_append, List.append_nil]) (fun x => by first | rfl | simp only [ins_self, upd_self, hA.me, cond_true, cond_false, List.cons_append, List.nil_append, List.append_nil]) (fun x => rfl) (OpR.store 0 rfl rfl rfl rfl rfl rfl rfl rfl)
   exact trivial
 intro env1
 show T X _ _ _
 refine T.ghost (Gst.truncM (ow := [.var b0 [.val (vw v1 (0 : Int).toNat (w64 ((a0.length : Int) - 1) : Int).toNat 3)] 109, .row v1 (List.map e_walk_frame_int a0) 3 114]) e_walk_frame_int 1 hx2 rfl rfl) ?_
 refine T.seq ?_
 obtain ⟨t3, ht3, h0⟩ := bnd_some h0
 refine T.cutC (fun S' => ∃ u4, t3 = Ex.brk u4 ∧ ∃ y5 : Value, S' = ⟨[(2, .val (.bool false))], [.var b0 [.val y5] 109, .row y5 (List.map e_walk_frame_int u4) 3 114], 106⟩) (fun _ h => h) ?_ ?_
 rotate_left
 · rintro _ ⟨u4, rfl, y5, rfl⟩
   show T X _ _ _
   refine T.seq ?_
   refine T.region ?_
   refine TL.op1 (OpR.pure rfl) rfl ?_
   refine TL.nil ?_
   show T X _ _ _
   refine T.ret ?_
   obtain rfl := Option.some.inj h0
   exact PostG.retP (ks := [0, 1]) (Gst.only [2] rfl) (.tuple #[y5]) (ResL.cons (ResV.tmp rfl) ResL.nil) rfl rfl rfl rfl
 refine T.block ?_
 obtain ⟨n8, n13⟩ := loop_some ht3
 refine T.loop (fun n S' => ∃ S'', Gst S' S'' ∧ ∃ y6 : Value, ∃ s7 : (List walk_frame_int), S'' = ⟨[(2, .val (.bool false)), (0, .val (.pointer (some ⟨b0, 0, none⟩)))], [.var b0 [.val y6] 109, .row y6 (List.map e_walk_frame_int s7) 3 114], 106⟩ ∧ iter walk_stack_int_forth.l1 n s7 = some t3) n8 ?_ ?_
 · exact ⟨_, Gst.only [0, 2] rfl, (vw v1 (0 : Int).toNat (w64 ((a0.length : Int) - 1) : Int).toNat 3), x2, rfl, n13⟩
 rintro n8 _ ⟨_, g, y6, s7, rfl, i12⟩
 refine T.ghost g ?_
 obtain ⟨m9, q10, rfl, q11, i12⟩ := iter_succ i12
 unfold walk_stack_int_forth.l1 at q11
 refine T.seq ?_
 refine T.seq ?_
 refine T.region ?_
 refine TL.op1 (OpR.pure rfl) rfl ?_
 refine TL.op1 (OpR.pure rfl) rfl ?_
 refine TL.op1 (OpR.pure rfl) rfl ?_
 refine TL.op1 (OpR.loadPtr 0 rfl rfl rfl rfl) rfl ?_
 refine TL.op1 (OpR.rowLenM e_walk_frame_int 1 rfl rfl rfl rfl) rfl ?_
 refine TL.op1 (OpR.pure rfl) rfl ?_
 refine TL.nil ?_
 show T X _ _ _
 rcases ite_some q11 with ⟨c15, q11⟩ | ⟨c15, q11⟩
 rotate_left
 · refine T.condF rfl (decide_eq_false c15) ?_
   refine T.exit ?_
   obtain rfl := Option.some.inj q11
   obtain rfl : _ = _ := i12
   exact ⟨_, Gst.only [2] rfl, _, rfl, y6, rfl⟩
 refine T.condT rfl (decide_eq_true c15) ?_
 refine T.skip ?_
 show T X _ _ _
 refine T.block ?_
 refine T.seq ?_
 refine T.region ?_
 refine TL.op1 (OpR.pure rfl) rfl ?_
 obtain ⟨x16, hx16, q11⟩ := bnd_some q11
 refine TL.op1 (OpR.call [0, 1] fn70 (walk_stack_int_top_c hx16) rfl rfl rfl (fun _ => rfl)) rfl ?_
 refine TL.op1 (OpR.pure rfl) rfl ?_
 refine TL.nil ?_
 show T X _ _ _
 refine T.seq ?_
 obtain ⟨x17, hx17, q11⟩ := bnd_some q11
 obtain ⟨q18, hq18, q11⟩ := bnd_some q11
 rcases q18 with _ | z19
 · dsimp only at q11
   exact (by cases q11)
 dsimp only at q11
 obtain ⟨x21, hx21, q11⟩ := bnd_some q11
 rw [o_tree_Node_int_eq hx21] at hq18
 obtain ⟨x23, hx23, q11⟩ := bnd_some q11
 obtain ⟨x24, hx24, q11⟩ := bnd_some q11
 rw [o_tree_Node_int_eq hx24] at hx23
 refine T.drawS drawsX (fun env22 => [.val (.pointer (some ⟨blk y6, x16.toNat * 3, none⟩)), .val (.pointer (some ⟨blk y6, x16.toNat * 3, none⟩)), .val (.pointer (some ⟨blk y6, x16.toNat * 3 + 1, none⟩)), .val (.int .i64 x17.fFirst), .val (.pointer (some ⟨blk y6, x16.toNat * 3, none⟩)), .val (.pointer (some ⟨blk y6, x16.toNat * 3, none⟩)), .val (.pointer (some ⟨blk y6, x16.toNat * 3, none⟩)), .nod [.sl 1 (List.map eNP x21.fKids), .sl 1 (List.map (eI .i64) x21.fItems), .val (.int .i64 x21.fN)], .nod [.sl 1 (List.map eNP x21.fKids), .sl 1 (List.map (eI .i64) x21.fItems), .val (.int .i64 x21.fN)], .nod [.sl 1 (List.map eNP x21.fKids), .sl 1 (List.map (eI .i64) x21.fItems), .val (.int .i64 x21.fN)], .sl 1 (List.map eNP x21.fKids), .val (.pointer (some ⟨blk y6, x16.toNat * 3, none⟩)), .val (.pointer (some ⟨blk y6, x16.toNat * 3, none⟩)), .val (.pointer (some ⟨blk y6, x16.toNat * 3 + 2, none⟩)), .val (.int .i64 x17.fNext), .nod [.nod [.sl 1 (List.map eNP x24.fKids), .sl 1 (List.map (eI .i64) x24.fItems), .val (.int .i64 x24.fN)]], .nod [.sl 1 (List.map eNP x24.fKids), .sl 1 (List.map (eI .i64) x24.fItems), .val (.int .i64 x24.fN)], .nod [.sl 1 (List.map eNP x24.fKids), .sl 1 (List.map (eI .i64) x24.fItems), .val (.int .i64 x24.fN)], .nod [.val (.int .i64 x24.fN)], .val (.int .i64 x24.fN), .val (.int .i64 (w64 (x17.fFirst + x24.fN))), .val (.pointer (some ⟨blk y6, x16.toNat * 3, none⟩)), .val (.pointer (some ⟨blk y6, x16.toNat * 3 + 1, none⟩)), .dead]) (fun D env22 => [.var b0 [.val y6] 109, (bif D 23 then .row y6 (List.map e_walk_frame_int (s7.set x16.toNat (⟨x17.fN, w64 (x17.fFirst + x24.fN), x17.fNext⟩ : walk_frame_int))) 3 114 else .row y6 (List.map e_walk_frame_int s7) 3 114)]) [0, 1, 3, 7, 0, 16, 48, 112, 240, 496, 1008, 0, 2048, 6144, 14336, 32752, 65520, 131056, 262128, 524272, 1048575, 2097151, 4194303, 8388607] [0, 2, 3, 18, 19, 20, 21, 22, 23, 24, 25, 26, 27, 28, 29, 30, 31, 32, 33, 34, 35, 36, 37, 38, 39, 40, 41, 42, 43, 44, 45, 46, 47, 48] (fun env22 => [.var b0 [.val y6] 109, .row y6 (List.map e_walk_frame_int (s7.set x16.toNat (⟨x17.fN, w64 (x17.fFirst + x24.fN), x17.fNext⟩ : walk_frame_int))) 3 114]) (by decide +kernel) (by decide +kernel) (fun _ => rfl) (fun _ => rfl) ?_ (fun _ => rfl) (fun _ => rfl) ?_
 · refine oS (d := .val (.pointer (some ⟨blk y6, x16.toNat * 3, none⟩))) (fun _ => Want.plain rfl) (fun _ => rfl) (fun _ _ _ => rfl) (fun _ _ => OpR.pure rfl) (fun _ _ _ _ _ _ _ => rfl) ?_
   refine oS (d := .val (.pointer (some ⟨blk y6, x16.toNat * 3, none⟩))) (fun _ => Want.plain rfl) (fun _ => rfl) (fun _ _ _ => rfl) (fun _ _ => OpR.pure rfl) (fun _ _ _ _ _ _ _ => rfl) ?_
   refine oS (d := .val (.pointer (some ⟨blk y6, x16.toNat * 3 + 1, none⟩))) (fun _ => Want.plain rfl) (fun _ => rfl) (fun _ _ _ => rfl) (fun _ _ => OpR.pure rfl) (fun _ _ _ _ _ _ _ => rfl) ?_
   refine OpsS.cons' true ?_ (fun _ _ _ _ _ _ _ => rfl) ?_
   · intro D env22 hA
     have e23 : D 23 = false := hA.no 23 _ rfl rfl
     exact OpS.yes (o0 := [.var b0 [.val y6] 109, .row y6 (List.map e_walk_frame_int s7) 3 114]) (o1 := fun x => [.var b0 [.val y6] 109, .row y6 (List.map e_walk_frame_int s7) 3 114]) (d := fun x => .val (.int .i64 x17.fFirst)) (Want.plain rfl) (by first | rfl | simp only [e23, cond_true, cond_false, List.cons_append, List.nil_append, List.append_nil]) (fun x => by first | rfl | simp only [ins_self, ins_ne D (show 3 ≠ 23 by decide), upd_self, e23, cond_true, cond_false, List.cons_append, List.nil_append, List.append_nil]) (fun x => rfl) (OpR.rowLoadM (j := x16) e_walk_frame_int 1 hx17 rfl rfl rfl rfl)
   refine oS (d := .val (.pointer (some ⟨blk y6, x16.toNat * 3, none⟩))) (fun _ => Want.plain rfl) (fun _ => rfl) (fun _ _ _ => rfl) (fun _ _ => OpR.pure rfl) (fun _ _ _ _ _ _ _ => rfl) ?_
   refine oS (d := .val (.pointer (some ⟨blk y6, x16.toNat * 3, none⟩))) (fun _ => Want.plain rfl) (fun _ => rfl) (fun _ _ _ => rfl) (fun _ _ => OpR.pure rfl) (fun _ _ _ _ _ _ _ => rfl) ?_
   refine oS (d := .val (.pointer (some ⟨blk y6, x16.toNat * 3, none⟩))) (fun _ => Want.plain rfl) (fun _ => rfl) (fun _ _ _ => rfl) (fun _ _ => OpR.pure rfl) (fun _ _ _ _ _ _ _ => rfl) ?_
   refine OpsS.cons' true ?_ (fun _ _ _ _ _ _ _ => rfl) ?_
   · intro D env22 hA
     have e23 : D 23 = false := hA.no 23 _ rfl rfl
     exact OpS.yes (o0 := [.var b0 [.val y6] 109, .row y6 (List.map e_walk_frame_int s7) 3 114]) (o1 := fun x => [.var b0 [.val y6] 109, .row y6 (List.map e_walk_frame_int s7) 3 114]) (d := fun x => .nod [.sl 1 (List.map eNP x21.fKids), .sl 1 (List.map (eI .i64) x21.fItems), .val (.int .i64 x21.fN)]) (Want.plain rfl) (by first | rfl | simp only [e23, cond_true, cond_false, List.cons_append, List.nil_append, List.append_nil]) (fun x => by first | rfl | simp only [ins_self, ins_ne D (show 7 ≠ 23 by decide), upd_self, e23, cond_true, cond_false, List.cons_append, List.nil_append, List.append_nil]) (fun x => rfl) (OpR.cast (OpR.rowLoad0M (j := x16) e_walk_frame_int 1 hx17 rfl rfl rfl rfl) (congrArg eOP (Option.some.inj hq18)))
   refine oS (d := .nod [.sl 1 (List.map eNP x21.fKids), .sl 1 (List.map (eI .i64) x21.fItems), .val (.int .i64 x21.fN)]) (fun _ => Want.plain rfl) (fun _ => rfl) (fun _ _ _ => rfl) (fun _ _ => OpR.pure rfl) (fun _ _ _ _ _ _ _ => rfl) ?_
   refine oS (d := .nod [.sl 1 (List.map eNP x21.fKids), .sl 1 (List.map (eI .i64) x21.fItems), .val (.int .i64 x21.fN)]) (fun _ => Want.plain rfl) (fun _ => rfl) (fun _ _ _ => rfl) (fun _ _ => OpR.pure rfl) (fun _ _ _ _ _ _ _ => rfl) ?_
   refine oS (d := .sl 1 (List.map eNP x21.fKids)) (fun _ => Want.plain rfl) (fun _ => rfl) (fun _ _ _ => rfl) (fun _ _ => OpR.pure rfl) (fun _ _ _ _ _ _ _ => rfl) ?_
   refine oS (d := .val (.pointer (some ⟨blk y6, x16.toNat * 3, none⟩))) (fun _ => Want.plain rfl) (fun _ => rfl) (fun _ _ _ => rfl) (fun _ _ => OpR.pure rfl) (fun _ _ _ _ _ _ _ => rfl) ?_
   refine oS (d := .val (.pointer (some ⟨blk y6, x16.toNat * 3, none⟩))) (fun _ => Want.plain rfl) (fun _ => rfl) (fun _ _ _ => rfl) (fun _ _ => OpR.pure rfl) (fun _ _ _ _ _ _ _ => rfl) ?_
   refine oS (d := .val (.pointer (some ⟨blk y6, x16.toNat * 3 + 2, none⟩))) (fun _ => Want.plain rfl) (fun _ => rfl) (fun _ _ _ => rfl) (fun _ _ => OpR.pure rfl) (fun _ _ _ _ _ _ _ => rfl) ?_
   refine OpsS.cons' true ?_ (fun _ _ _ _ _ _ _ => rfl) ?_
   · intro D env22 hA
     have e23 : D 23 = false := hA.no 23 _ rfl rfl
     exact OpS.yes (o0 := [.var b0 [.val y6] 109, .row y6 (List.map e_walk_frame_int s7) 3 114]) (o1 := fun x => [.var b0 [.val y6] 109, .row y6 (List.map e_walk_frame_int s7) 3 114]) (d := fun x => .val (.int .i64 x17.fNext)) (Want.plain rfl) (by first | rfl | simp only [e23, cond_true, cond_false, List.cons_append, List.nil_append, List.append_nil]) (fun x => by first | rfl | simp only [ins_self, ins_ne D (show 14 ≠ 23 by decide), upd_self, e23, cond_true, cond_false, List.cons_append, List.nil_append, List.append_nil]) (fun x => rfl) (OpR.rowLoadM (j := x16) e_walk_frame_int 1 hx17 rfl rfl rfl rfl)
   refine oS (d := .nod [.nod [.sl 1 (List.map eNP x24.fKids), .sl 1 (List.map (eI .i64) x24.fItems), .val (.int .i64 x24.fN)]]) (fun _ => Want.plain rfl) (fun _ => rfl) (fun _ _ _ => rfl) (fun _ _ => OpR.indexM eNP hx23 rfl rfl rfl rfl rfl) (fun _ _ _ _ _ _ _ => rfl) ?_
   refine oS (d := .nod [.sl 1 (List.map eNP x24.fKids), .sl 1 (List.map (eI .i64) x24.fItems), .val (.int .i64 x24.fN)]) (fun _ => Want.plain rfl) (fun _ => rfl) (fun _ _ _ => rfl) (fun _ _ => OpR.pure rfl) (fun _ _ _ _ _ _ _ => rfl) ?_
   refine oS (d := .nod [.sl 1 (List.map eNP x24.fKids), .sl 1 (List.map (eI .i64) x24.fItems), .val (.int .i64 x24.fN)]) (fun _ => Want.plain rfl) (fun _ => rfl) (fun _ _ _ => rfl) (fun _ _ => OpR.pure rfl) (fun _ _ _ _ _ _ _ => rfl) ?_
   refine oS (d := .nod [.val (.int .i64 x24.fN)]) (fun _ => Want.plain rfl) (fun _ => rfl) (fun _ _ _ => rfl) (fun _ _ => OpR.pure rfl) (fun _ _ _ _ _ _ _ => rfl) ?_
   refine oS (d := .val (.int .i64 x24.fN)) (fun _ => Want.plain rfl) (fun _ => rfl) (fun _ _ _ => rfl) (fun _ _ => OpR.pure rfl) (fun _ _ _ _ _ _ _ => rfl) ?_
   refine oS (d := .val (.int .i64 (w64 (x17.fFirst + x24.fN)))) (fun _ => Want.plain rfl) (fun _ => rfl) (fun _ _ _ => rfl) (fun _ _ => OpR.pure rfl) (fun _ _ _ _ _ _ _ => rfl) ?_
   refine oS (d := .val (.pointer (some ⟨blk y6, x16.toNat * 3, none⟩))) (fun _ => Want.plain rfl) (fun _ => rfl) (fun _ _ _ => rfl) (fun _ _ => OpR.pure rfl) (fun _ _ _ _ _ _ _ => rfl) ?_
   refine oS (d := .val (.pointer (some ⟨blk y6, x16.toNat * 3 + 1, none⟩))) (fun _ => Want.plain rfl) (fun _ => rfl) (fun _ _ _ => rfl) (fun _ _ => OpR.pure rfl) (fun _ _ _ _ _ _ _ => rfl) ?_
   refine OpsS.cons' true ?_ (fun _ _ _ _ _ _ _ => rfl) ?_
   · intro D env22 hA
     exact OpS.yes (o0 := [.var b0 [.val y6] 109, .row y6 (List.map e_walk_frame_int s7) 3 114]) (o1 := fun x => [.var b0 [.val y6] 109, .row y6 (List.map e_walk_frame_int (s7.set x16.toNat (⟨x17.fN, w64 (x17.fFirst + x24.fN), x17.fNext⟩ : walk_frame_int))) 3 114]) (d := fun x => .dead) (Want.plain rfl) (by first | rfl | simp only [hA.me, cond_true, cond_false, List.cons_append, List.nil_append, List.append_nil]) (fun x => by first | rfl | simp only [ins_self, upd_self, hA.me, cond_true, cond_false, List.cons_append, List.nil_append, List.append_nil]) (fun x => rfl) (OpR.rowStoreM (j := x16) e_walk_frame_int (⟨x17.fN, w64 (x17.fFirst + x24.fN), x17.fNext⟩ : walk_frame_int) 1 hx17 rfl rfl rfl rfl rfl rfl rfl rfl rfl)
   exact trivial
 intro env22
 show T X _ _ _
 refine T.seq ?_
 refine T.region ?_
 refine TL.op1 (OpR.pure rfl) rfl ?_
 refine TL.op1 (OpR.pure rfl) rfl ?_
 refine TL.op1 (OpR.pure rfl) rfl ?_
 obtain ⟨x25, hx25, q11⟩ := bnd_some q11
 refine TL.op1 (OpR.rowLoadM (j := x16) e_walk_frame_int 1 hx25 rfl rfl rfl rfl) rfl ?_
 refine TL.op1 (OpR.pure rfl) rfl ?_
 refine TL.op1 (OpR.pure rfl) rfl ?_
 refine TL.op1 (OpR.pure rfl) rfl ?_
 refine TL.op0 (OpR.rowStoreM (j := x16) e_walk_frame_int (⟨x25.fN, x25.fFirst, w64 (x25.fNext + 1)⟩ : walk_frame_int) 1 hx25 rfl rfl rfl rfl rfl rfl rfl rfl rfl) ?_
 refine TL.nil ?_
 show T X _ _ _
 refine T.seq ?_
 refine T.seq ?_
 obtain ⟨x26, hx26, q11⟩ := bnd_some q11
 obtain ⟨q27, hq27, q11⟩ := bnd_some q11
 rcases q27 with _ | z28
 · dsimp only at q11
   exact (by cases q11)
 dsimp only at q11
 obtain ⟨x30, hx30, q11⟩ := bnd_some q11
 rw [o_tree_Node_int_eq hx30] at hq27
 refine T.drawQ drawsX [.val (.pointer (some ⟨blk y6, x16.toNat * 3, none⟩)), .val (.pointer (some ⟨blk y6, x16.toNat * 3, none⟩)), .val (.pointer (some ⟨blk y6, x16.toNat * 3 + 2, none⟩)), .val (.int .i64 x26.fNext), .val (.pointer (some ⟨blk y6, x16.toNat * 3, none⟩)), .val (.pointer (some ⟨blk y6, x16.toNat * 3, none⟩)), .val (.pointer (some ⟨blk y6, x16.toNat * 3, none⟩)), .nod [.sl 1 (List.map eNP x30.fKids), .sl 1 (List.map (eI .i64) x30.fItems), .val (.int .i64 x30.fN)], .nod [.sl 1 (List.map eNP x30.fKids), .sl 1 (List.map (eI .i64) x30.fItems), .val (.int .i64 x30.fN)], .nod [.sl 1 (List.map eNP x30.fKids), .sl 1 (List.map (eI .i64) x30.fItems), .val (.int .i64 x30.fN)], .sl 1 (List.map eNP x30.fKids), .val (.int .i64 (x30.fKids.length : Int)), .val (.bool (decide (x26.fNext < (x30.fKids.length : Int))))] [0, 2, 3, 18, 19, 20, 21, 22, 23, 24, 25, 26, 27, 28, 29, 30, 31, 32, 33, 34, 35, 36, 37, 38, 39, 40, 41, 42, 43, 44, 45, 46, 47, 48, 49, 50, 51, 52, 53, 54, 55, 56, 57, 58, 59, 60, 61, 62, 63, 64, 65, 66, 67, 68] (by decide +kernel) rfl ?_ rfl ?_
 · refine OpsQ.yes (Want.plain rfl) rfl (OpR.pure rfl) ?_
   refine OpsQ.yes (Want.plain rfl) rfl (OpR.pure rfl) ?_
   refine OpsQ.yes (Want.plain rfl) rfl (OpR.pure rfl) ?_
   refine OpsQ.yes (Want.plain rfl) rfl (OpR.rowLoadM (j := x16) e_walk_frame_int 1 hx26 rfl rfl rfl rfl) ?_
   refine OpsQ.yes (Want.plain rfl) rfl (OpR.pure rfl) ?_
   refine OpsQ.yes (Want.plain rfl) rfl (OpR.pure rfl) ?_
   refine OpsQ.yes (Want.plain rfl) rfl (OpR.pure rfl) ?_
   refine OpsQ.yes (Want.plain rfl) rfl (OpR.cast (OpR.rowLoad0M (j := x16) e_walk_frame_int 1 hx26 rfl rfl rfl rfl) (congrArg eOP (Option.some.inj hq27))) ?_
   refine OpsQ.yes (Want.plain rfl) rfl (OpR.pure rfl) ?_
   refine OpsQ.yes (Want.plain rfl) rfl (OpR.pure rfl) ?_
   refine OpsQ.yes (Want.plain rfl) rfl (OpR.pure rfl) ?_
   refine OpsQ.yes (Want.plain rfl) rfl (OpR.cast (OpR.pure rfl) (intE (lenM _ _))) ?_
   refine OpsQ.yes (Want.plain rfl) rfl (OpR.pure rfl) ?_
   exact OpsQ.nil
 show T X _ _ _
 rcases ite_some q11 with ⟨c32, q11⟩ | ⟨c32, q11⟩
 rotate_left
 · refine T.condF rfl (decide_eq_false c32) ?_
   refine T.skip ?_
   show T X _ _ _
   obtain ⟨x38, hx38, q11⟩ := bnd_some q11
   obtain ⟨x39, hx39, q11⟩ := bnd_some q11
   refine T.drawS drawsX (fun env37 => [.val (.pointer (some ⟨b0, 0, none⟩)), .val (.pointer (some ⟨b0, 0, none⟩)), .val (.pointer (some ⟨b0, 0, none⟩)), .val (.pointer (some ⟨b0, 0, none⟩)), .val y6, .val (.pointer (some ⟨b0, 0, none⟩)), .val (.pointer (some ⟨b0, 0, none⟩)), .val (.pointer (some ⟨b0, 0, none⟩)), .val y6, .val (.int .i64 x38), .val (.int .i64 (w64 (x38 - 1))), .val (vw y6 (0 : Int).toNat (w64 (x38 - 1) : Int).toNat 3), .val (.pointer (some ⟨b0, 0, none⟩)), .val (.pointer (some ⟨b0, 0, none⟩)), .dead]) (fun D env37 => [(bif D 14 then .var b0 [.val (vw y6 (0 : Int).toNat (w64 (x38 - 1) : Int).toNat 3)] 109 else .var b0 [.val y6] 109), .row y6 (List.map e_walk_frame_int ((s7.set x16.toNat (⟨x17.fN, w64 (x17.fFirst + x24.fN), x17.fNext⟩ : walk_frame_int)).set x16.toNat (⟨x25.fN, x25.fFirst, w64 (x25.fNext + 1)⟩ : walk_frame_int))) 3 114]) [0, 0, 2, 6, 14, 0, 32, 96, 224, 480, 992, 2046, 4095, 8191, 16383] [0, 2, 3, 18, 19, 20, 21, 22, 23, 24, 25, 26, 27, 28, 29, 30, 31, 32, 33, 34, 35, 36, 37, 38, 39, 40, 41, 42, 43, 44, 45, 46, 47, 48, 49, 50, 51, 52, 53, 54, 55, 56, 57, 58, 59, 60, 61, 62, 63, 64, 65, 66, 67, 68, 92, 93, 94, 95, 96, 97, 98, 99, 100, 101, 102, 103, 104, 105] (fun env37 => [.var b0 [.val (vw y6 (0 : Int).toNat (w64 (x38 - 1) : Int).toNat 3)] 109, .row y6 (List.map e_walk_frame_int ((s7.set x16.toNat (⟨x17.fN, w64 (x17.fFirst + x24.fN), x17.fNext⟩ : walk_frame_int)).set x16.toNat (⟨x25.fN, x25.fFirst, w64 (x25.fNext + 1)⟩ : walk_frame_int))) 3 114]) (by decide +kernel) (by decide +kernel) (fun _ => rfl) (fun _ => rfl) ?_ (fun _ => rfl) (fun _ => rfl) ?_
   rotate_left
   · intro env37
     obtain rfl := Option.some.inj q11
     exact ⟨m9, Nat.lt_succ_self _, _, Gst.trans (Gst.truncM (ow := [.var b0 [.val (vw y6 (0 : Int).toNat (w64 (x38 - 1) : Int).toNat 3)] 109, .row y6 (List.map e_walk_frame_int ((s7.set x16.toNat (⟨x17.fN, w64 (x17.fFirst + x24.fN), x17.fNext⟩ : walk_frame_int)).set x16.toNat (⟨x25.fN, x25.fFirst, w64 (x25.fNext + 1)⟩ : walk_frame_int))) 3 114]) e_walk_frame_int 1 hx39 rfl rfl) (Gst.only [0, 2] rfl), (vw y6 (0 : Int).toNat (w64 (x38 - 1) : Int).toNat 3), x39, rfl, i12⟩
   refine oS (d := .val (.pointer (some ⟨b0, 0, none⟩))) (fun _ => Want.plain rfl) (fun _ => rfl) (fun _ _ _ => rfl) (fun _ _ => OpR.pure rfl) (fun _ _ _ _ _ _ _ => rfl) ?_
   refine oS (d := .val (.pointer (some ⟨b0, 0, none⟩))) (fun _ => Want.plain rfl) (fun _ => rfl) (fun _ _ _ => rfl) (fun _ _ => OpR.pure rfl) (fun _ _ _ _ _ _ _ => rfl) ?_
   refine oS (d := .val (.pointer (some ⟨b0, 0, none⟩))) (fun _ => Want.plain rfl) (fun _ => rfl) (fun _ _ _ => rfl) (fun _ _ => OpR.pure rfl) (fun _ _ _ _ _ _ _ => rfl) ?_
   refine oS (d := .val (.pointer (some ⟨b0, 0, none⟩))) (fun _ => Want.plain rfl) (fun _ => rfl) (fun _ _ _ => rfl) (fun _ _ => OpR.pure rfl) (fun _ _ _ _ _ _ _ => rfl) ?_
   refine OpsS.cons' true ?_ (fun _ _ _ _ _ _ _ => rfl) ?_
   · intro D env37 hA
     have e14 : D 14 = false := hA.no 14 _ rfl rfl
     exact OpS.yes (o0 := [.var b0 [.val y6] 109, .row y6 (List.map e_walk_frame_int ((s7.set x16.toNat (⟨x17.fN, w64 (x17.fFirst + x24.fN), x17.fNext⟩ : walk_frame_int)).set x16.toNat (⟨x25.fN, x25.fFirst, w64 (x25.fNext + 1)⟩ : walk_frame_int))) 3 114]) (o1 := fun x => [.var b0 [.val y6] 109, .row y6 (List.map e_walk_frame_int ((s7.set x16.toNat (⟨x17.fN, w64 (x17.fFirst + x24.fN), x17.fNext⟩ : walk_frame_int)).set x16.toNat (⟨x25.fN, x25.fFirst, w64 (x25.fNext + 1)⟩ : walk_frame_int))) 3 114]) (d := fun x => .val y6) (Want.plain rfl) (by first | rfl | simp only [e14, cond_true, cond_false, List.cons_append, List.nil_append, List.append_nil]) (fun x => by first | rfl | simp only [ins_self, ins_ne D (show 4 ≠ 14 by decide), upd_self, e14, cond_true, cond_false, List.cons_append, List.nil_append, List.append_nil]) (fun x => rfl) (OpR.loadPtr 0 rfl rfl rfl rfl)
   refine oS (d := .val (.pointer (some ⟨b0, 0, none⟩))) (fun _ => Want.plain rfl) (fun _ => rfl) (fun _ _ _ => rfl) (fun _ _ => OpR.pure rfl) (fun _ _ _ _ _ _ _ => rfl) ?_
   refine oS (d := .val (.pointer (some ⟨b0, 0, none⟩))) (fun _ => Want.plain rfl) (fun _ => rfl) (fun _ _ _ => rfl) (fun _ _ => OpR.pure rfl) (fun _ _ _ _ _ _ _ => rfl) ?_
   refine oS (d := .val (.pointer (some ⟨b0, 0, none⟩))) (fun _ => Want.plain rfl) (fun _ => rfl) (fun _ _ _ => rfl) (fun _ _ => OpR.pure rfl) (fun _ _ _ _ _ _ _ => rfl) ?_
   refine OpsS.cons' true ?_ (fun _ _ _ _ _ _ _ => rfl) ?_
   · intro D env37 hA
     have e14 : D 14 = false := hA.no 14 _ rfl rfl
     exact OpS.yes (o0 := [.var b0 [.val y6] 109, .row y6 (List.map e_walk_frame_int ((s7.set x16.toNat (⟨x17.fN, w64 (x17.fFirst + x24.fN), x17.fNext⟩ : walk_frame_int)).set x16.toNat (⟨x25.fN, x25.fFirst, w64 (x25.fNext + 1)⟩ : walk_frame_int))) 3 114]) (o1 := fun x => [.var b0 [.val y6] 109, .row y6 (List.map e_walk_frame_int ((s7.set x16.toNat (⟨x17.fN, w64 (x17.fFirst + x24.fN), x17.fNext⟩ : walk_frame_int)).set x16.toNat (⟨x25.fN, x25.fFirst, w64 (x25.fNext + 1)⟩ : walk_frame_int))) 3 114]) (d := fun x => .val y6) (Want.plain rfl) (by first | rfl | simp only [e14, cond_true, cond_false, List.cons_append, List.nil_append, List.append_nil]) (fun x => by first | rfl | simp only [ins_self, ins_ne D (show 8 ≠ 14 by decide), upd_self, e14, cond_true, cond_false, List.cons_append, List.nil_append, List.append_nil]) (fun x => rfl) (OpR.loadPtr 0 rfl rfl rfl rfl)
   refine oS (d := .val (.int .i64 x38)) (fun _ => Want.plain rfl) (fun _ => rfl) (fun _ _ _ => rfl) (fun _ _ => OpR.cast (OpR.rowLenM e_walk_frame_int 1 rfl rfl rfl rfl) (intE (Option.some.inj hx38))) (fun _ _ _ _ _ _ _ => rfl) ?_
   refine oS (d := .val (.int .i64 (w64 (x38 - 1)))) (fun _ => Want.plain rfl) (fun _ => rfl) (fun _ _ _ => rfl) (fun _ _ => OpR.pure rfl) (fun _ _ _ _ _ _ _ => rfl) ?_
   refine oS (d := .val (vw y6 (0 : Int).toNat (w64 (x38 - 1) : Int).toNat 3)) (fun _ => Want.plain rfl) (fun _ => rfl) (fun _ _ _ => rfl) (fun _ _ => OpR.sliceRowM e_walk_frame_int 1 hx39 rfl rfl rfl rfl rfl rfl BdM.none (BdM.some rfl)) (fun _ _ _ _ _ _ _ => rfl) ?_
   refine oS (d := .val (.pointer (some ⟨b0, 0, none⟩))) (fun _ => Want.plain rfl) (fun _ => rfl) (fun _ _ _ => rfl) (fun _ _ => OpR.pure rfl) (fun _ _ _ _ _ _ _ => rfl) ?_
   refine oS (d := .val (.pointer (some ⟨b0, 0, none⟩))) (fun _ => Want.plain rfl) (fun _ => rfl) (fun _ _ _ => rfl) (fun _ _ => OpR.pure rfl) (fun _ _ _ _ _ _ _ => rfl) ?_
   refine OpsS.cons' true ?_ (fun _ _ _ _ _ _ _ => rfl) ?_
   · intro D env37 hA
     exact OpS.yes (o0 := [.var b0 [.val y6] 109, .row y6 (List.map e_walk_frame_int ((s7.set x16.toNat (⟨x17.fN, w64 (x17.fFirst + x24.fN), x17.fNext⟩ : walk_frame_int)).set x16.toNat (⟨x25.fN, x25.fFirst, w64 (x25.fNext + 1)⟩ : walk_frame_int))) 3 114]) (o1 := fun x => [.var b0 [.val (vw y6 (0 : Int).toNat (w64 (x38 - 1) : Int).toNat 3)] 109, .row y6 (List.map e_walk_frame_int ((s7.set x16.toNat (⟨x17.fN, w64 (x17.fFirst + x24.fN), x17.fNext⟩ : walk_frame_int)).set x16.toNat (⟨x25.fN, x25.fFirst, w64 (x25.fNext + 1)⟩ : walk_frame_int))) 3 114]) (d := fun x => .dead) (Want.plain rfl) (by first | rfl | simp only [hA.me, cond_true, cond_false, List.cons_append, List.nil_append, List.append_nil]) (fun x => by first | rfl | simp only [ins_self, upd_self, hA.me, cond_true, cond_false, List.cons_append, List.nil_append, List.append_nil]) (fun x => rfl) (OpR.store 0 rfl rfl rfl rfl rfl rfl rfl rfl)
   exact trivial
 refine T.condT rfl (decide_eq_true c32) ?_
 refine T.seq ?_
 obtain ⟨x34, hx34, q11⟩ := bnd_some q11
 obtain ⟨x35, hx35, q11⟩ := bnd_some q11
 rw [o_tree_Node_int_eq hx35] at hx34
 obtain ⟨x36, hx36, q11⟩ := bnd_some q11
 refine T.drawS drawsX (fun env33 => [.val (.pointer (some ⟨b0, 0, none⟩)), .val (.pointer (some ⟨blk y6, x16.toNat * 3, none⟩)), .val (.pointer (some ⟨blk y6, x16.toNat * 3, none⟩)), .val (.pointer (some ⟨blk y6, x16.toNat * 3, none⟩)), .nod [.sl 1 (List.map eNP x30.fKids), .sl 1 (List.map (eI .i64) x30.fItems), .val (.int .i64 x30.fN)], .nod [.sl 1 (List.map eNP x30.fKids), .sl 1 (List.map (eI .i64) x30.fItems), .val (.int .i64 x30.fN)], .nod [.sl 1 (List.map eNP x30.fKids), .sl 1 (List.map (eI .i64) x30.fItems), .val (.int .i64 x30.fN)], .sl 1 (List.map eNP x30.fKids), .val (.pointer (some ⟨blk y6, x16.toNat * 3, none⟩)), .val (.pointer (some ⟨blk y6, x16.toNat * 3, none⟩)), .val (.pointer (some ⟨blk y6, x16.toNat * 3 + 2, none⟩)), .val (.int .i64 x26.fNext), .nod [.nod [.sl 1 (List.map eNP x35.fKids), .sl 1 (List.map (eI .i64) x35.fItems), .val (.int .i64 x35.fN)]], .nod [.sl 1 (List.map eNP x35.fKids), .sl 1 (List.map (eI .i64) x35.fItems), .val (.int .i64 x35.fN)], .val (.pointer (some ⟨blk y6, x16.toNat * 3, none⟩)), .val (.pointer (some ⟨blk y6, x16.toNat * 3, none⟩)), .val (.pointer (some ⟨blk y6, x16.toNat * 3 + 1, none⟩)), .val (.int .i64 x26.fFirst), .val (.pointer (some ⟨blk y6, x16.toNat * 3, none⟩)), .val (.pointer (some ⟨blk y6, x16.toNat * 3, none⟩)), .val (.pointer (some ⟨blk y6, x16.toNat * 3 + 1, none⟩)), .val (.int .i64 x26.fFirst), .tup []]) (fun D env33 => [(bif D 22 then .var b0 [.val (vn (env33 22) 0)] 109 else .var b0 [.val y6] 109), (bif D 22 then .row (vn (env33 22) 0) (List.map e_walk_frame_int x36) 3 114 else .row y6 (List.map e_walk_frame_int ((s7.set x16.toNat (⟨x17.fN, w64 (x17.fFirst + x24.fN), x17.fNext⟩ : walk_frame_int)).set x16.toNat (⟨x25.fN, x25.fFirst, w64 (x25.fNext + 1)⟩ : walk_frame_int))) 3 114)]) [0, 0, 2, 6, 14, 30, 62, 126, 0, 256, 768, 1792, 4094, 8190, 0, 16384, 49152, 114688, 0, 262144, 786432, 1835008, 4194303] [0, 2, 3, 18, 19, 20, 21, 22, 23, 24, 25, 26, 27, 28, 29, 30, 31, 32, 33, 34, 35, 36, 37, 38, 39, 40, 41, 42, 43, 44, 45, 46, 47, 48, 49, 50, 51, 52, 53, 54, 55, 56, 57, 58, 59, 60, 61, 62, 63, 64, 65, 66, 67, 68, 69, 70, 71, 72, 73, 74, 75, 76, 77, 78, 79, 80, 81, 82, 83, 84, 85, 86, 87, 88, 89, 90, 91] (fun env33 => [.var b0 [.val (vn (env33 22) 0)] 109, .row (vn (env33 22) 0) (List.map e_walk_frame_int x36) 3 114]) (by decide +kernel) (by decide +kernel) (fun _ => rfl) (fun _ => rfl) ?_ (fun _ => rfl) (fun _ => rfl) ?_
 rotate_left
 · intro env33
   show T X _ _ _
   refine T.seq ?_
   refine T.region ?_
   refine TL.op1 (OpR.pure rfl) rfl ?_
   refine TL.nil ?_
   show T X _ _ _
   refine T.ret ?_
   obtain rfl := Option.some.inj q11
   obtain rfl : _ = _ := i12
   obtain rfl := Option.some.inj h0
   exact PostG.retP (ks := [0, 1]) (Gst.only [2] rfl) (.tuple #[(vn (env33 22) 0)]) (ResL.cons (ResV.tmp rfl) ResL.nil) rfl rfl rfl rfl
 refine oS (d := .val (.pointer (some ⟨b0, 0, none⟩))) (fun _ => Want.plain rfl) (fun _ => rfl) (fun _ _ _ => rfl) (fun _ _ => OpR.pure rfl) (fun _ _ _ _ _ _ _ => rfl) ?_
 refine oS (d := .val (.pointer (some ⟨blk y6, x16.toNat * 3, none⟩))) (fun _ => Want.plain rfl) (fun _ => rfl) (fun _ _ _ => rfl) (fun _ _ => OpR.pure rfl) (fun _ _ _ _ _ _ _ => rfl) ?_
 refine oS (d := .val (.pointer (some ⟨blk y6, x16.toNat * 3, none⟩))) (fun _ => Want.plain rfl) (fun _ => rfl) (fun _ _ _ => rfl) (fun _ _ => OpR.pure rfl) (fun _ _ _ _ _ _ _ => rfl) ?_
 refine oS (d := .val (.pointer (some ⟨blk y6, x16.toNat * 3, none⟩))) (fun _ => Want.plain rfl) (fun _ => rfl) (fun _ _ _ => rfl) (fun _ _ => OpR.pure rfl) (fun _ _ _ _ _ _ _ => rfl) ?_
 refine OpsS.cons' true ?_ (fun _ _ _ _ _ _ _ => rfl) ?_
 · intro D env33 hA
   have e22 : D 22 = false := hA.no 22 _ rfl rfl
   exact OpS.yes (o0 := [.var b0 [.val y6] 109, .row y6 (List.map e_walk_frame_int ((s7.set x16.toNat (⟨x17.fN, w64 (x17.fFirst + x24.fN), x17.fNext⟩ : walk_frame_int)).set x16.toNat (⟨x25.fN, x25.fFirst, w64 (x25.fNext + 1)⟩ : walk_frame_int))) 3 114]) (o1 := fun x => [.var b0 [.val y6] 109, .row y6 (List.map e_walk_frame_int ((s7.set x16.toNat (⟨x17.fN, w64 (x17.fFirst + x24.fN), x17.fNext⟩ : walk_frame_int)).set x16.toNat (⟨x25.fN, x25.fFirst, w64 (x25.fNext + 1)⟩ : walk_frame_int))) 3 114]) (d := fun x => .nod [.sl 1 (List.map eNP x30.fKids), .sl 1 (List.map (eI .i64) x30.fItems), .val (.int .i64 x30.fN)]) (Want.plain rfl) (by first | rfl | simp only [e22, cond_true, cond_false, List.cons_append, List.nil_append, List.append_nil]) (fun x => by first | rfl | simp only [ins_self, ins_ne D (show 4 ≠ 22 by decide), upd_self, upd_ne env33 x (show 4 ≠ 22 by decide), e22, cond_true, cond_false, List.cons_append, List.nil_append, List.append_nil]) (fun x => rfl) (OpR.cast (OpR.rowLoad0M (j := x16) e_walk_frame_int 1 hx26 rfl rfl rfl rfl) (congrArg eOP (Option.some.inj hq27)))
 refine oS (d := .nod [.sl 1 (List.map eNP x30.fKids), .sl 1 (List.map (eI .i64) x30.fItems), .val (.int .i64 x30.fN)]) (fun _ => Want.plain rfl) (fun _ => rfl) (fun _ _ _ => rfl) (fun _ _ => OpR.pure rfl) (fun _ _ _ _ _ _ _ => rfl) ?_
 refine oS (d := .nod [.sl 1 (List.map eNP x30.fKids), .sl 1 (List.map (eI .i64) x30.fItems), .val (.int .i64 x30.fN)]) (fun _ => Want.plain rfl) (fun _ => rfl) (fun _ _ _ => rfl) (fun _ _ => OpR.pure rfl) (fun _ _ _ _ _ _ _ => rfl) ?_
 refine oS (d := .sl 1 (List.map eNP x30.fKids)) (fun _ => Want.plain rfl) (fun _ => rfl) (fun _ _ _ => rfl) (fun _ _ => OpR.pure rfl) (fun _ _ _ _ _ _ _ => rfl) ?_
 refine oS (d := .val (.pointer (some ⟨blk y6, x16.toNat * 3, none⟩))) (fun _ => Want.plain rfl) (fun _ => rfl) (fun _ _ _ => rfl) (fun _ _ => OpR.pure rfl) (fun _ _ _ _ _ _ _ => rfl) ?_
 refine oS (d := .val (.pointer (some ⟨blk y6, x16.toNat * 3, none⟩))) (fun _ => Want.plain rfl) (fun _ => rfl) (fun _ _ _ => rfl) (fun _ _ => OpR.pure rfl) (fun _ _ _ _ _ _ _ => rfl) ?_
 refine oS (d := .val (.pointer (some ⟨blk y6, x16.toNat * 3 + 2, none⟩))) (fun _ => Want.plain rfl) (fun _ => rfl) (fun _ _ _ => rfl) (fun _ _ => OpR.pure rfl) (fun _ _ _ _ _ _ _ => rfl) ?_
 refine OpsS.cons' true ?_ (fun _ _ _ _ _ _ _ => rfl) ?_
 · intro D env33 hA
   have e22 : D 22 = false := hA.no 22 _ rfl rfl
   exact OpS.yes (o0 := [.var b0 [.val y6] 109, .row y6 (List.map e_walk_frame_int ((s7.set x16.toNat (⟨x17.fN, w64 (x17.fFirst + x24.fN), x17.fNext⟩ : walk_frame_int)).set x16.toNat (⟨x25.fN, x25.fFirst, w64 (x25.fNext + 1)⟩ : walk_frame_int))) 3 114]) (o1 := fun x => [.var b0 [.val y6] 109, .row y6 (List.map e_walk_frame_int ((s7.set x16.toNat (⟨x17.fN, w64 (x17.fFirst + x24.fN), x17.fNext⟩ : walk_frame_int)).set x16.toNat (⟨x25.fN, x25.fFirst, w64 (x25.fNext + 1)⟩ : walk_frame_int))) 3 114]) (d := fun x => .val (.int .i64 x26.fNext)) (Want.plain rfl) (by first | rfl | simp only [e22, cond_true, cond_false, List.cons_append, List.nil_append, List.append_nil]) (fun x => by first | rfl | simp only [ins_self, ins_ne D (show 11 ≠ 22 by decide), upd_self, upd_ne env33 x (show 11 ≠ 22 by decide), e22, cond_true, cond_false, List.cons_append, List.nil_append, List.append_nil]) (fun x => rfl) (OpR.rowLoadM (j := x16) e_walk_frame_int 1 hx26 rfl rfl rfl rfl)
 refine oS (d := .nod [.nod [.sl 1 (List.map eNP x35.fKids), .sl 1 (List.map (eI .i64) x35.fItems), .val (.int .i64 x35.fN)]]) (fun _ => Want.plain rfl) (fun _ => rfl) (fun _ _ _ => rfl) (fun _ _ => OpR.indexM eNP hx34 rfl rfl rfl rfl rfl) (fun _ _ _ _ _ _ _ => rfl) ?_
 refine oS (d := .nod [.sl 1 (List.map eNP x35.fKids), .sl 1 (List.map (eI .i64) x35.fItems), .val (.int .i64 x35.fN)]) (fun _ => Want.plain rfl) (fun _ => rfl) (fun _ _ _ => rfl) (fun _ _ => OpR.pure rfl) (fun _ _ _ _ _ _ _ => rfl) ?_
 refine oS (d := .val (.pointer (some ⟨blk y6, x16.toNat * 3, none⟩))) (fun _ => Want.plain rfl) (fun _ => rfl) (fun _ _ _ => rfl) (fun _ _ => OpR.pure rfl) (fun _ _ _ _ _ _ _ => rfl) ?_
 refine oS (d := .val (.pointer (some ⟨blk y6, x16.toNat * 3, none⟩))) (fun _ => Want.plain rfl) (fun _ => rfl) (fun _ _ _ => rfl) (fun _ _ => OpR.pure rfl) (fun _ _ _ _ _ _ _ => rfl) ?_
 refine oS (d := .val (.pointer (some ⟨blk y6, x16.toNat * 3 + 1, none⟩))) (fun _ => Want.plain rfl) (fun _ => rfl) (fun _ _ _ => rfl) (fun _ _ => OpR.pure rfl) (fun _ _ _ _ _ _ _ => rfl) ?_
 refine OpsS.cons' true ?_ (fun _ _ _ _ _ _ _ => rfl) ?_
 · intro D env33 hA
   have e22 : D 22 = false := hA.no 22 _ rfl rfl
   exact OpS.yes (o0 := [.var b0 [.val y6] 109, .row y6 (List.map e_walk_frame_int ((s7.set x16.toNat (⟨x17.fN, w64 (x17.fFirst + x24.fN), x17.fNext⟩ : walk_frame_int)).set x16.toNat (⟨x25.fN, x25.fFirst, w64 (x25.fNext + 1)⟩ : walk_frame_int))) 3 114]) (o1 := fun x => [.var b0 [.val y6] 109, .row y6 (List.map e_walk_frame_int ((s7.set x16.toNat (⟨x17.fN, w64 (x17.fFirst + x24.fN), x17.fNext⟩ : walk_frame_int)).set x16.toNat (⟨x25.fN, x25.fFirst, w64 (x25.fNext + 1)⟩ : walk_frame_int))) 3 114]) (d := fun x => .val (.int .i64 x26.fFirst)) (Want.plain rfl) (by first | rfl | simp only [e22, cond_true, cond_false, List.cons_append, List.nil_append, List.append_nil]) (fun x => by first | rfl | simp only [ins_self, ins_ne D (show 17 ≠ 22 by decide), upd_self, upd_ne env33 x (show 17 ≠ 22 by decide), e22, cond_true, cond_false, List.cons_append, List.nil_append, List.append_nil]) (fun x => rfl) (OpR.rowLoadM (j := x16) e_walk_frame_int 1 hx26 rfl rfl rfl rfl)
 refine oS (d := .val (.pointer (some ⟨blk y6, x16.toNat * 3, none⟩))) (fun _ => Want.plain rfl) (fun _ => rfl) (fun _ _ _ => rfl) (fun _ _ => OpR.pure rfl) (fun _ _ _ _ _ _ _ => rfl) ?_
 refine oS (d := .val (.pointer (some ⟨blk y6, x16.toNat * 3, none⟩))) (fun _ => Want.plain rfl) (fun _ => rfl) (fun _ _ _ => rfl) (fun _ _ => OpR.pure rfl) (fun _ _ _ _ _ _ _ => rfl) ?_
 refine oS (d := .val (.pointer (some ⟨blk y6, x16.toNat * 3 + 1, none⟩))) (fun _ => Want.plain rfl) (fun _ => rfl) (fun _ _ _ => rfl) (fun _ _ => OpR.pure rfl) (fun _ _ _ _ _ _ _ => rfl) ?_
 refine OpsS.cons' true ?_ (fun _ _ _ _ _ _ _ => rfl) ?_
 · intro D env33 hA
   have e22 : D 22 = false := hA.no 22 _ rfl rfl
   exact OpS.yes (o0 := [.var b0 [.val y6] 109, .row y6 (List.map e_walk_frame_int ((s7.set x16.toNat (⟨x17.fN, w64 (x17.fFirst + x24.fN), x17.fNext⟩ : walk_frame_int)).set x16.toNat (⟨x25.fN, x25.fFirst, w64 (x25.fNext + 1)⟩ : walk_frame_int))) 3 114]) (o1 := fun x => [.var b0 [.val y6] 109, .row y6 (List.map e_walk_frame_int ((s7.set x16.toNat (⟨x17.fN, w64 (x17.fFirst + x24.fN), x17.fNext⟩ : walk_frame_int)).set x16.toNat (⟨x25.fN, x25.fFirst, w64 (x25.fNext + 1)⟩ : walk_frame_int))) 3 114]) (d := fun x => .val (.int .i64 x26.fFirst)) (Want.plain rfl) (by first | rfl | simp only [e22, cond_true, cond_false, List.cons_append, List.nil_append, List.append_nil]) (fun x => by first | rfl | simp only [ins_self, ins_ne D (show 21 ≠ 22 by decide), upd_self, upd_ne env33 x (show 21 ≠ 22 by decide), e22, cond_true, cond_false, List.cons_append, List.nil_append, List.append_nil]) (fun x => rfl) (OpR.rowLoadM (j := x16) e_walk_frame_int 1 hx26 rfl rfl rfl rfl)
 refine OpsS.cons' true ?_ (fun D hA env33 x j hj hD => match j, hj, hD with | 0, _, _ => rfl | 1, _, _ => rfl | 2, _, _ => rfl | 3, _, _ => rfl | 4, _, _ => rfl | 5, _, _ => rfl | 6, _, _ => rfl | 7, _, _ => rfl | 8, _, _ => rfl | 9, _, _ => rfl | 10, _, _ => rfl | 11, _, _ => rfl | 12, _, _ => rfl | 13, _, _ => rfl | 14, _, _ => rfl | 15, _, _ => rfl | 16, _, _ => rfl | 17, _, _ => rfl | 18, _, _ => rfl | 19, _, _ => rfl | 20, _, _ => rfl | 21, _, _ => rfl | 22, hj, _ => absurd rfl hj | _ + 23, _, _ => rfl) ?_
 · intro D env33 hA
   exact OpS.yes (o0 := [.var b0 [.val y6] 109, .row y6 (List.map e_walk_frame_int ((s7.set x16.toNat (⟨x17.fN, w64 (x17.fFirst + x24.fN), x17.fNext⟩ : walk_frame_int)).set x16.toNat (⟨x25.fN, x25.fFirst, w64 (x25.fNext + 1)⟩ : walk_frame_int))) 3 114]) (o1 := fun x => [.var b0 [.val (vn x 0)] 109, .row (vn x 0) (List.map e_walk_frame_int x36) 3 114]) (d := fun x => .tup []) (Want.plain rfl) (by first | rfl | simp only [hA.me, cond_true, cond_false, List.cons_append, List.nil_append, List.append_nil]) (fun x => by first | rfl | simp only [ins_self, upd_self, hA.me, cond_true, cond_false, List.cons_append, List.nil_append, List.append_nil]) (fun x => rfl) (OpR.call [0, 1] fn69 (walk_stack_int_down_2_c hx36) rfl rfl rfl (fun _ => rfl))
 exact trivial
noncomputable def walk_All_int_r0 (a0 : Int) (a1 : Int) (a2 : List Int) : Option (List Int) :=
  bnd (app 8 a2 [a1]) fun x31 =>
  some x31
set_option maxHeartbeats 4000000 in
theorem walk_All_int_r0_c {a0 : Int} {a1 : Int} {a2 : List Int} {b0 : Nat} {b1 : Nat} {v2 : Value} {res : (List Int)} (h0 : walk_All_int_r0 a0 a1 a2 = some res) : RoundF X b0 [.val (.int .i64 a0), .val (.int .i64 a1)] [.lp b0 .ready none [13, 14] rfA42_0 rfB42_0 [(3, .val (.pointer (some ⟨b1, 0, none⟩)))] 20, .var b1 [.val v2] 22, .row v2 (List.map (eI .i64) a2) 1 3] (fun x => .val (.bool true)) (fun x => [.lp b0 .ready none [13, 14] rfA42_0 rfB42_0 [(3, .val (.pointer (some ⟨b1, 0, none⟩)))] 20, .var b1 [.val (vn x 0)] 22, .row (vn x 0) (List.map (eI .i64) res) 1 3]) := by
 unfold walk_All_int_r0 at h0
 refine RoundF.mk (X := X) rfl rfl rfl ?_
 refine T.region ?_
 refine TL.op1 (OpR.pure rfl) rfl ?_
 refine TL.nil ?_
 refine RoundA.mk ?_
 refine T.block ?_
 refine T.region ?_
 refine TL.op1 (OpR.loadPtr 1 rfl rfl rfl rfl) rfl ?_
 refine TL.op1 (OpR.pure rfl) rfl ?_
 refine TL.op1 (OpR.lit rfl rfl rfl rfl rfl rfl rfl) rfl ?_
 obtain ⟨x31, hx31, h0⟩ := bnd_some h0
 refine TL.op (OpR.appendM (m := [a1]) (eI .i64) 2 hx31 rfl rfl rfl rfl rfl rfl rfl rfl rfl (fun _ => rfl)) rfl (fun v32 => ?_)
 refine TL.op0 (OpR.store 1 rfl rfl rfl rfl rfl rfl rfl rfl) ?_
 refine TL.nil ?_
 obtain rfl := Option.some.inj h0
 exact RoundG.mk (ks := [0, 1, 2]) (Gst.only [] rfl) (.tuple #[v32]) rfl rfl rfl rfl rfl
noncomputable def walk_Range_int_1.l1 (a1 : Int) (s10 : Int × (List Int) × (List walk_frame_int)) : Option (Lp (Int × (List Int) × (List walk_frame_int)) (List Int)) :=
  if s10.1 < a1 then
    bnd (walk_stack_int_top s10.2.2) fun x19 =>
    bnd (idx s10.2.2 x19) fun x20 =>
    bnd (some x20.fN) fun q21 => match q21 with
      | none =>
        none
      | some z22 =>
        bnd (o_tree_Node_int z22) fun x24 =>
        bnd (if x20.fNext = (x24.fItems.length : Int) then
          bnd (walk_stack_int_forth s10.2.2) fun x29 =>
          some x29.2
        else
          some s10.2.2 : Option (List walk_frame_int)) fun t26 =>
        bnd (walk_stack_int_top t26) fun x31 =>
        bnd (idx t26 x31) fun x32 =>
        bnd (some x32.fN) fun q33 => match q33 with
          | none =>
            none
          | some z34 =>
            bnd (o_tree_Node_int z34) fun x36 =>
            bnd (idx x36.fItems x32.fNext) fun x38 =>
            bnd (walk_All_int_r0 s10.1 x38 s10.2.1) fun x39 =>
            some (Lp.next (w64 (s10.1 + 1), x39, (t26.set x31.toNat (⟨x32.fN, x32.fFirst, w64 (x32.fNext + 1)⟩ : walk_frame_int))))
  else
    some (Lp.done s10.2.1)
noncomputable def walk_Range_int_1 (a0 : Int) (a1 : Int) (a2 : Option NP) (a3 : List Int) : Option (List Int) :=
  if a0 = a1 then
    some a3
  else
    bnd (tree_Tree_int_Root (⟨a2⟩ : tree_Tree_int)) fun x4 =>
    match x4 with
    | .inl x4 =>
        none
    | .inr x4 =>
        bnd (walk_stack_int_down x4.1 x4.2.1 x4.2.2 0 a0) fun x5 =>
        bnd (loop (walk_Range_int_1.l1 a1) (a0, a3, x5) : Option (List Int)) fun t6 =>
        some t6
set_option maxHeartbeats 4000000 in
theorem walk_Range_int_1_c {a0 : Int} {a1 : Int} {a2 : Option NP} {a3 : List Int} {b0 : Nat} {b1 : Nat} {b2 : Nat} {b3 : Nat} {b4 : Nat} {v5 : Value} {res : (List Int)} (h0 : walk_Range_int_1 a0 a1 a2 a3 = some res) : CallF X 68 [.fn (.yield b0) [] [], .val (.pointer (some ⟨b1, 0, none⟩)), .val (.pointer (some ⟨b2, 0, none⟩)), .val (.pointer (some ⟨b3, 0, none⟩))] [.lp b0 .ready none [13, 14] rfA42_0 rfB42_0 [(3, .val (.pointer (some ⟨b4, 0, none⟩)))] 20, .var b1 [.val (.int .i64 a0)] 3, .var b2 [.val (.int .i64 a1)] 3, .var b3 [(eOP a2)] 27, .var b4 [.val v5] 22, .row v5 (List.map (eI .i64) a3) 1 3] (fun x => .tup []) (fun x => [.lp b0 .ready none [13, 14] rfA42_0 rfB42_0 [(3, .val (.pointer (some ⟨b4, 0, none⟩)))] 20, .var b1 [.val (.int .i64 a0)] 3, .var b2 [.val (.int .i64 a1)] 3, .var b3 [(eOP a2)] 27, .var b4 [.val (vn x 0)] 22, .row (vn x 0) (List.map (eI .i64) res) 1 3]) := by
 unfold walk_Range_int_1 at h0
 refine CallF.mkG (X := X) rfl Try.func68 rfl rfl Try.ntmps68 rfl rfl ?_
 refine T.seq ?_
 refine T.seq ?_
 refine T.region ?_
 refine TL.op1 (OpR.loadPtr 1 rfl rfl rfl rfl) rfl ?_
 refine TL.op1 (OpR.loadPtr 2 rfl rfl rfl rfl) rfl ?_
 refine TL.op1 (OpR.pure rfl) rfl ?_
 refine TL.nil ?_
 show T X _ _ _
 rcases ite_some h0 with ⟨c1, h0⟩ | ⟨c1, h0⟩
 · refine T.condT rfl (beq_iff_eq.2 c1) ?_
   refine T.ret ?_
   obtain rfl := Option.some.inj h0
   exact PostG.retP (ks := [0, 1, 2, 3, 4, 5]) (Gst.only [] rfl) (.tuple #[v5]) ResL.nil rfl rfl rfl rfl
 refine T.condF rfl (beq_eq_false_iff_ne.2 c1) ?_
 refine T.skip ?_
 show T X _ _ _
 refine T.seq ?_
 refine T.region ?_
 refine TL.op (OpR.alloc rfl rfl (fun _ => rfl)) rfl (fun p2 => ?_)
 refine TL.nil ?_
 show T X _ _ _
 refine T.seq ?_
 obtain ⟨x4, hx4, h0⟩ := bnd_some h0
 rcases x4 with x4 | x4
 · dsimp only at h0
   exact (by cases h0)
 dsimp only at h0
 obtain ⟨x5, hx5, h0⟩ := bnd_some h0
 refine T.drawS drawsX (fun env3 => [.agg [(eOP a2)], .nod [.sl 1 (List.map eNP x4.1), .sl 1 (List.map (eI .i64) x4.2.1), .val (.int .i64 x4.2.2)], .val (.int .i64 a0), .tup []]) (fun D env3 => [.lp b0 .ready none [13, 14] rfA42_0 rfB42_0 [(3, .val (.pointer (some ⟨b4, 0, none⟩)))] 20, .var b1 [.val (.int .i64 a0)] 3, .var b2 [.val (.int .i64 a1)] 3, .var b3 [(eOP a2)] 27, .var b4 [.val v5] 22, .row v5 (List.map (eI .i64) a3) 1 3, (bif D 3 then .var (blk p2) [.val (vn (env3 3) 0)] 109 else .var (blk p2) [.val (.slice none 0 0)] 109)] ++ (bif D 3 then [.row (vn (env3 3) 0) (List.map e_walk_frame_int x5) 3 114] else [])) [0, 1, 0, 7] [0, 1, 2, 3, 5, 9, 10, 11, 12, 13, 14, 15] (fun env3 => [.lp b0 .ready none [13, 14] rfA42_0 rfB42_0 [(3, .val (.pointer (some ⟨b4, 0, none⟩)))] 20, .var b1 [.val (.int .i64 a0)] 3, .var b2 [.val (.int .i64 a1)] 3, .var b3 [(eOP a2)] 27, .var b4 [.val v5] 22, .row v5 (List.map (eI .i64) a3) 1 3, .var (blk p2) [.val (vn (env3 3) 0)] 109, .row (vn (env3 3) 0) (List.map e_walk_frame_int x5) 3 114]) (by decide +kernel) (by decide +kernel) (fun _ => rfl) (fun _ => rfl) ?_ (fun _ => rfl) (fun _ => rfl) ?_
 · refine oS (d := .agg [(eOP a2)]) (fun _ => Want.plain rfl) (fun _ => rfl) (fun _ _ _ => rfl) (fun _ _ => OpR.loadPtr 3 rfl rfl rfl rfl) (fun _ _ _ _ _ _ _ => rfl) ?_
   refine oS (d := .nod [.sl 1 (List.map eNP x4.1), .sl 1 (List.map (eI .i64) x4.2.1), .val (.int .i64 x4.2.2)]) (fun _ => Want.plain rfl) (fun _ => rfl) (fun _ _ _ => rfl) (fun _ _ => OpR.call0 fn46 (tree_Tree_int_Root_cx2 hx4) rfl) (fun _ _ _ _ _ _ _ => rfl) ?_
   refine oS (d := .val (.int .i64 a0)) (fun _ => Want.plain rfl) (fun _ => rfl) (fun _ _ _ => rfl) (fun _ _ => OpR.loadPtr 1 rfl rfl rfl rfl) (fun _ _ _ _ _ _ _ => rfl) ?_
   refine OpsS.cons' true ?_ (fun D hA env3 x j hj hD => match j, hj, hD with | 0, _, _ => rfl | 1, _, _ => rfl | 2, _, _ => rfl | 3, hj, _ => absurd rfl hj | _ + 4, _, _ => rfl) ?_
   · intro D env3 hA
     exact OpS.yes (o0 := [.lp b0 .ready none [13, 14] rfA42_0 rfB42_0 [(3, .val (.pointer (some ⟨b4, 0, none⟩)))] 20, .var b1 [.val (.int .i64 a0)] 3, .var b2 [.val (.int .i64 a1)] 3, .var b3 [(eOP a2)] 27, .var b4 [.val v5] 22, .row v5 (List.map (eI .i64) a3) 1 3, .var (blk p2) [.val (.slice none 0 0)] 109]) (o1 := fun x => [.lp b0 .ready none [13, 14] rfA42_0 rfB42_0 [(3, .val (.pointer (some ⟨b4, 0, none⟩)))] 20, .var b1 [.val (.int .i64 a0)] 3, .var b2 [.val (.int .i64 a1)] 3, .var b3 [(eOP a2)] 27, .var b4 [.val v5] 22, .row v5 (List.map (eI .i64) a3) 1 3, .var (blk p2) [.val (vn x 0)] 109, .row (vn x 0) (List.map e_walk_frame_int x5) 3 114]) (d := fun x => .tup []) (Want.plain rfl) (by first | rfl | simp only [hA.me, cond_true, cond_false, List.cons_append, List.nil_append, List.append_nil]) (fun x => by first | rfl | simp only [ins_self, upd_self, hA.me, cond_true, cond_false, List.cons_append, List.nil_append, List.append_nil]) (fun x => rfl) (OpR.call [6] fn69 (walk_stack_int_down_c hx5) rfl rfl rfl (fun _ => rfl))
   exact trivial
 intro env3
 show T X _ _ _
 refine T.seq ?_
 refine T.region ?_
 refine TL.op1 (OpR.loadPtr 1 rfl rfl rfl rfl) rfl ?_
 refine TL.op1 (OpR.pure rfl) rfl ?_
 refine TL.nil ?_
 show T X _ _ _
 obtain ⟨t6, ht6, h0⟩ := bnd_some h0
 refine T.cutN (fun S' => ∃ y7 : Value, S' = ⟨[], [.lp b0 .ready none [13, 14] rfA42_0 rfB42_0 [(3, .val (.pointer (some ⟨b4, 0, none⟩)))] 20, .var b1 [.val (.int .i64 a0)] 3, .var b2 [.val (.int .i64 a1)] 3, .var b3 [(eOP a2)] 27, .var b4 [.val y7] 22, .row y7 (List.map (eI .i64) t6) 1 3], 62⟩) (fun _ _ g ⟨h, S', ds, g', r⟩ => ⟨h, S', ds, Gst.trans g g', r⟩) ?_ ?_
 rotate_left
 · rintro _ ⟨y7, rfl⟩
   obtain rfl := Option.some.inj h0
   exact PostG.finP (ks := [0, 1, 2, 3, 4, 5]) (Gst.only [] rfl) (.tuple #[y7]) ResL.nil rfl rfl rfl rfl
 refine T.block ?_
 obtain ⟨n11, n16⟩ := loop_some ht6
 refine T.loop (fun n S' => ∃ S'', Gst S' S'' ∧ ∃ y8 : Value, ∃ y9 : Value, ∃ s10 : Int × (List Int) × (List walk_frame_int), S'' = ⟨[(6, .val (.int .i64 s10.1)), (5, .val (.pointer (some ⟨(blk p2), 0, none⟩))), (2, .val (.pointer (some ⟨b2, 0, none⟩))), (0, .fn (.yield b0) [] [])], [.lp b0 .ready none [13, 14] rfA42_0 rfB42_0 [(3, .val (.pointer (some ⟨b4, 0, none⟩)))] 20, .var b1 [.val (.int .i64 a0)] 3, .var b2 [.val (.int .i64 a1)] 3, .var b3 [(eOP a2)] 27, .var b4 [.val y8] 22, .row y8 (List.map (eI .i64) s10.2.1) 1 3, .var (blk p2) [.val y9] 109, .row y9 (List.map e_walk_frame_int s10.2.2) 3 114], 62⟩ ∧ iter (walk_Range_int_1.l1 a1) n s10 = some t6) n11 ?_ ?_
 · exact ⟨_, Gst.only [0, 2, 5, 6] rfl, v5, (vn (env3 3) 0), (a0, a3, x5), rfl, n16⟩
 rintro n11 _ ⟨_, g, y8, y9, s10, rfl, i15⟩
 refine T.ghost g ?_
 obtain ⟨m12, q13, rfl, q14, i15⟩ := iter_succ i15
 unfold walk_Range_int_1.l1 at q14
 refine T.seq ?_
 refine T.seq ?_
 refine T.region ?_
 refine TL.op1 (OpR.pure rfl) rfl ?_
 refine TL.op1 (OpR.loadPtr 2 rfl rfl rfl rfl) rfl ?_
 refine TL.op1 (OpR.pure rfl) rfl ?_
 refine TL.nil ?_
 show T X _ _ _
 rcases ite_some q14 with ⟨c18, q14⟩ | ⟨c18, q14⟩
 rotate_left
 · refine T.condF rfl (decide_eq_false c18) ?_
   refine T.exit ?_
   obtain rfl := Option.some.inj q14
   obtain rfl : _ = _ := i15
   exact ⟨_, Gst.trans (Gst.only [] rfl) (Gst.pick [0, 1, 2, 3, 4, 5] rfl rfl), y8, rfl⟩
 refine T.condT rfl (decide_eq_true c18) ?_
 refine T.skip ?_
 show T X _ _ _
 refine T.seq ?_
 refine T.block ?_
 refine T.seq ?_
 refine T.seq ?_
 refine T.region ?_
 obtain ⟨x19, hx19, q14⟩ := bnd_some q14
 refine TL.op1 (OpR.call [6, 7] fn70 (walk_stack_int_top_c hx19) rfl rfl rfl (fun _ => rfl)) rfl ?_
 refine TL.op1 (OpR.pure rfl) rfl ?_
 refine TL.nil ?_
 show T X _ _ _
 refine T.seq ?_
 obtain ⟨x20, hx20, q14⟩ := bnd_some q14
 obtain ⟨q21, hq21, q14⟩ := bnd_some q14
 rcases q21 with _ | z22
 · dsimp only at q14
   exact (by cases q14)
 dsimp only at q14
 obtain ⟨x24, hx24, q14⟩ := bnd_some q14
 rw [o_tree_Node_int_eq hx24] at hq21
 refine T.drawQ drawsX [.val (.pointer (some ⟨blk y9, x19.toNat * 3, none⟩)), .val (.pointer (some ⟨blk y9, x19.toNat * 3, none⟩)), .val (.pointer (some ⟨blk y9, x19.toNat * 3 + 2, none⟩)), .val (.int .i64 x20.fNext), .val (.pointer (some ⟨blk y9, x19.toNat * 3, none⟩)), .val (.pointer (some ⟨blk y9, x19.toNat * 3, none⟩)), .val (.pointer (some ⟨blk y9, x19.toNat * 3, none⟩)), .nod [.sl 1 (List.map eNP x24.fKids), .sl 1 (List.map (eI .i64) x24.fItems), .val (.int .i64 x24.fN)], .nod [.sl 1 (List.map eNP x24.fKids), .sl 1 (List.map (eI .i64) x24.fItems), .val (.int .i64 x24.fN)], .nod [.sl 1 (List.map (eI .i64) x24.fItems), .val (.int .i64 x24.fN)], .sl 1 (List.map (eI .i64) x24.fItems), .val (.int .i64 (x24.fItems.length : Int)), .val (.bool (x20.fNext == (x24.fItems.length : Int)))] [0, 2, 5, 6, 7, 17, 18, 19, 22, 23, 24, 25, 26, 27, 28, 29, 30, 31, 32, 33, 34, 35] (by decide +kernel) rfl ?_ rfl ?_
 · refine OpsQ.yes (Want.plain rfl) rfl (OpR.pure rfl) ?_
   refine OpsQ.yes (Want.plain rfl) rfl (OpR.pure rfl) ?_
   refine OpsQ.yes (Want.plain rfl) rfl (OpR.pure rfl) ?_
   refine OpsQ.yes (Want.plain rfl) rfl (OpR.rowLoadM (j := x19) e_walk_frame_int 7 hx20 rfl rfl rfl rfl) ?_
   refine OpsQ.yes (Want.plain rfl) rfl (OpR.pure rfl) ?_
   refine OpsQ.yes (Want.plain rfl) rfl (OpR.pure rfl) ?_
   refine OpsQ.yes (Want.plain rfl) rfl (OpR.pure rfl) ?_
   refine OpsQ.yes (Want.plain rfl) rfl (OpR.cast (OpR.rowLoad0M (j := x19) e_walk_frame_int 7 hx20 rfl rfl rfl rfl) (congrArg eOP (Option.some.inj hq21))) ?_
   refine OpsQ.yes (Want.plain rfl) rfl (OpR.pure rfl) ?_
   refine OpsQ.yes (Want.plain rfl) rfl (OpR.pure rfl) ?_
   refine OpsQ.yes (Want.plain rfl) rfl (OpR.pure rfl) ?_
   refine OpsQ.yes (Want.plain rfl) rfl (OpR.cast (OpR.pure rfl) (intE (lenM _ _))) ?_
   refine OpsQ.yes (Want.plain rfl) rfl (OpR.pure rfl) ?_
   exact OpsQ.nil
 show T X _ _ _
 obtain ⟨t26, ht26, q14⟩ := bnd_some q14
 refine T.cutC (fun S' => ∃ y27 : Value, S' = ⟨[(6, .val (.int .i64 s10.1)), (5, .val (.pointer (some ⟨(blk p2), 0, none⟩))), (2, .val (.pointer (some ⟨b2, 0, none⟩))), (0, .fn (.yield b0) [] [])], [.lp b0 .ready none [13, 14] rfA42_0 rfB42_0 [(3, .val (.pointer (some ⟨b4, 0, none⟩)))] 20, .var b1 [.val (.int .i64 a0)] 3, .var b2 [.val (.int .i64 a1)] 3, .var b3 [(eOP a2)] 27, .var b4 [.val y8] 22, .row y8 (List.map (eI .i64) s10.2.1) 1 3, .var (blk p2) [.val y27] 109, .row y27 (List.map e_walk_frame_int t26) 3 114], 62⟩) (fun _ h => h) ?_ ?_
 · rcases ite_some ht26 with ⟨c28, ht26⟩ | ⟨c28, ht26⟩
   rotate_left
   · refine T.condF rfl (beq_eq_false_iff_ne.2 c28) ?_
     refine T.skip ?_
     obtain rfl := Option.some.inj ht26
     exact ⟨_, Gst.only [0, 2, 5, 6] rfl, y9, rfl⟩
   refine T.condT rfl (beq_iff_eq.2 c28) ?_
   refine T.region ?_
   obtain ⟨x29, hx29, ht26⟩ := bnd_some ht26
   refine TL.op (OpR.call [6, 7] fn71 (walk_stack_int_forth_c hx29) rfl rfl rfl (fun _ => rfl)) rfl (fun w30 => ?_)
   refine TL.nil ?_
   obtain rfl := Option.some.inj ht26
   exact ⟨_, Gst.only [0, 2, 5, 6] rfl, (vn w30 0), rfl⟩
 rintro _ ⟨y27, rfl⟩
 show T X _ _ _
 refine T.seq ?_
 refine T.region ?_
 obtain ⟨x31, hx31, q14⟩ := bnd_some q14
 refine TL.op1 (OpR.call [6, 7] fn70 (walk_stack_int_top_c hx31) rfl rfl rfl (fun _ => rfl)) rfl ?_
 refine TL.op1 (OpR.pure rfl) rfl ?_
 refine TL.nil ?_
 show T X _ _ _
 refine T.seq ?_
 refine T.seq ?_
 obtain ⟨x32, hx32, q14⟩ := bnd_some q14
 obtain ⟨q33, hq33, q14⟩ := bnd_some q14
 rcases q33 with _ | z34
 · dsimp only at q14
   exact (by cases q14)
 dsimp only at q14
 obtain ⟨x36, hx36, q14⟩ := bnd_some q14
 rw [o_tree_Node_int_eq hx36] at hq33
 obtain ⟨x38, hx38, q14⟩ := bnd_some q14
 obtain ⟨x39, hx39, q14⟩ := bnd_some q14
 refine T.drawS drawsX (fun env37 => [.fn (.yield b0) [] [], .val (.int .i64 s10.1), .val (.pointer (some ⟨blk y27, x31.toNat * 3, none⟩)), .val (.pointer (some ⟨blk y27, x31.toNat * 3, none⟩)), .val (.pointer (some ⟨blk y27, x31.toNat * 3, none⟩)), .nod [.sl 1 (List.map eNP x36.fKids), .sl 1 (List.map (eI .i64) x36.fItems), .val (.int .i64 x36.fN)], .nod [.sl 1 (List.map eNP x36.fKids), .sl 1 (List.map (eI .i64) x36.fItems), .val (.int .i64 x36.fN)], .nod [.sl 1 (List.map (eI .i64) x36.fItems), .val (.int .i64 x36.fN)], .sl 1 (List.map (eI .i64) x36.fItems), .val (.pointer (some ⟨blk y27, x31.toNat * 3, none⟩)), .val (.pointer (some ⟨blk y27, x31.toNat * 3, none⟩)), .val (.pointer (some ⟨blk y27, x31.toNat * 3 + 2, none⟩)), .val (.int .i64 x32.fNext), .nod [.val (.int .i64 x38)], .val (.int .i64 x38), .val (.bool true), .val (.bool false)]) (fun D env37 => [.lp b0 .ready none [13, 14] rfA42_0 rfB42_0 [(3, .val (.pointer (some ⟨b4, 0, none⟩)))] 20, .var b1 [.val (.int .i64 a0)] 3, .var b2 [.val (.int .i64 a1)] 3, .var b3 [(eOP a2)] 27, (bif D 15 then .var b4 [.val (vn (env37 15) 0)] 22 else .var b4 [.val y8] 22), (bif D 15 then .row (vn (env37 15) 0) (List.map (eI .i64) x39) 1 3 else .row y8 (List.map (eI .i64) s10.2.1) 1 3), .var (blk p2) [.val y27] 109, .row y27 (List.map e_walk_frame_int t26) 3 114]) [0, 0, 0, 4, 12, 28, 60, 124, 252, 0, 512, 1536, 3584, 8188, 16380, 32767, 65535] [0, 2, 5, 6, 8, 37, 38, 39, 40, 41, 42, 43, 44, 45, 46, 47, 48, 49, 50, 51, 52, 53, 54] (fun env37 => [.lp b0 .ready none [13, 14] rfA42_0 rfB42_0 [(3, .val (.pointer (some ⟨b4, 0, none⟩)))] 20, .var b1 [.val (.int .i64 a0)] 3, .var b2 [.val (.int .i64 a1)] 3, .var b3 [(eOP a2)] 27, .var b4 [.val (vn (env37 15) 0)] 22, .row (vn (env37 15) 0) (List.map (eI .i64) x39) 1 3, .var (blk p2) [.val y27] 109, .row y27 (List.map e_walk_frame_int t26) 3 114]) (by decide +kernel) (by decide +kernel) (fun _ => rfl) (fun _ => rfl) ?_ (fun _ => rfl) (fun _ => rfl) ?_
 rotate_left
 · intro env37
   show T X _ _ _
   refine T.condF rfl rfl ?_
   refine T.skip ?_
   show T X _ _ _
   refine T.region ?_
   refine TL.op1 (OpR.pure rfl) rfl ?_
   refine TL.op1 (OpR.pure rfl) rfl ?_
   refine TL.op1 (OpR.pure rfl) rfl ?_
   refine TL.op1 (OpR.rowLoadM (j := x31) e_walk_frame_int 7 hx32 rfl rfl rfl rfl) rfl ?_
   refine TL.op1 (OpR.pure rfl) rfl ?_
   refine TL.op1 (OpR.pure rfl) rfl ?_
   refine TL.op1 (OpR.pure rfl) rfl ?_
   refine TL.op0 (OpR.rowStoreM (j := x31) e_walk_frame_int (⟨x32.fN, x32.fFirst, w64 (x32.fNext + 1)⟩ : walk_frame_int) 7 hx32 rfl rfl rfl rfl rfl rfl rfl rfl rfl) ?_
   refine TL.nil ?_
   show T X _ _ _
   refine T.region ?_
   refine TL.op1 (OpR.pure rfl) rfl ?_
   refine TL.op1 (OpR.pure rfl) rfl ?_
   refine TL.op1 (OpR.pure rfl) rfl ?_
   refine TL.nil ?_
   obtain rfl := Option.some.inj q14
   exact ⟨m12, Nat.lt_succ_self _, _, Gst.only [0, 2, 5, 6] rfl, (vn (env37 15) 0), y27, (w64 (s10.1 + 1), x39, (t26.set x31.toNat (⟨x32.fN, x32.fFirst, w64 (x32.fNext + 1)⟩ : walk_frame_int))), rfl, i15⟩
 refine oS (d := .fn (.yield b0) [] []) (fun _ => Want.plain rfl) (fun _ => rfl) (fun _ _ _ => rfl) (fun _ _ => OpR.pure rfl) (fun _ _ _ _ _ _ _ => rfl) ?_
 refine oS (d := .val (.int .i64 s10.1)) (fun _ => Want.plain rfl) (fun _ => rfl) (fun _ _ _ => rfl) (fun _ _ => OpR.pure rfl) (fun _ _ _ _ _ _ _ => rfl) ?_
 refine oS (d := .val (.pointer (some ⟨blk y27, x31.toNat * 3, none⟩))) (fun _ => Want.plain rfl) (fun _ => rfl) (fun _ _ _ => rfl) (fun _ _ => OpR.pure rfl) (fun _ _ _ _ _ _ _ => rfl) ?_
 refine oS (d := .val (.pointer (some ⟨blk y27, x31.toNat * 3, none⟩))) (fun _ => Want.plain rfl) (fun _ => rfl) (fun _ _ _ => rfl) (fun _ _ => OpR.pure rfl) (fun _ _ _ _ _ _ _ => rfl) ?_
 refine oS (d := .val (.pointer (some ⟨blk y27, x31.toNat * 3, none⟩))) (fun _ => Want.plain rfl) (fun _ => rfl) (fun _ _ _ => rfl) (fun _ _ => OpR.pure rfl) (fun _ _ _ _ _ _ _ => rfl) ?_
 refine oS (d := .nod [.sl 1 (List.map eNP x36.fKids), .sl 1 (List.map (eI .i64) x36.fItems), .val (.int .i64 x36.fN)]) (fun _ => Want.plain rfl) (fun _ => rfl) (fun _ _ _ => rfl) (fun _ _ => OpR.cast (OpR.rowLoad0M (j := x31) e_walk_frame_int 7 hx32 rfl rfl rfl rfl) (congrArg eOP (Option.some.inj hq33))) (fun _ _ _ _ _ _ _ => rfl) ?_
 refine oS (d := .nod [.sl 1 (List.map eNP x36.fKids), .sl 1 (List.map (eI .i64) x36.fItems), .val (.int .i64 x36.fN)]) (fun _ => Want.plain rfl) (fun _ => rfl) (fun _ _ _ => rfl) (fun _ _ => OpR.pure rfl) (fun _ _ _ _ _ _ _ => rfl) ?_
 refine oS (d := .nod [.sl 1 (List.map (eI .i64) x36.fItems), .val (.int .i64 x36.fN)]) (fun _ => Want.plain rfl) (fun _ => rfl) (fun _ _ _ => rfl) (fun _ _ => OpR.pure rfl) (fun _ _ _ _ _ _ _ => rfl) ?_
 refine oS (d := .sl 1 (List.map (eI .i64) x36.fItems)) (fun _ => Want.plain rfl) (fun _ => rfl) (fun _ _ _ => rfl) (fun _ _ => OpR.pure rfl) (fun _ _ _ _ _ _ _ => rfl) ?_
 refine oS (d := .val (.pointer (some ⟨blk y27, x31.toNat * 3, none⟩))) (fun _ => Want.plain rfl) (fun _ => rfl) (fun _ _ _ => rfl) (fun _ _ => OpR.pure rfl) (fun _ _ _ _ _ _ _ => rfl) ?_
 refine oS (d := .val (.pointer (some ⟨blk y27, x31.toNat * 3, none⟩))) (fun _ => Want.plain rfl) (fun _ => rfl) (fun _ _ _ => rfl) (fun _ _ => OpR.pure rfl) (fun _ _ _ _ _ _ _ => rfl) ?_
 refine oS (d := .val (.pointer (some ⟨blk y27, x31.toNat * 3 + 2, none⟩))) (fun _ => Want.plain rfl) (fun _ => rfl) (fun _ _ _ => rfl) (fun _ _ => OpR.pure rfl) (fun _ _ _ _ _ _ _ => rfl) ?_
 refine oS (d := .val (.int .i64 x32.fNext)) (fun _ => Want.plain rfl) (fun _ => rfl) (fun _ _ _ => rfl) (fun _ _ => OpR.rowLoadM (j := x31) e_walk_frame_int 7 hx32 rfl rfl rfl rfl) (fun _ _ _ _ _ _ _ => rfl) ?_
 refine oS (d := .nod [.val (.int .i64 x38)]) (fun _ => Want.plain rfl) (fun _ => rfl) (fun _ _ _ => rfl) (fun _ _ => OpR.indexM (eI .i64) hx38 rfl rfl rfl rfl rfl) (fun _ _ _ _ _ _ _ => rfl) ?_
 refine oS (d := .val (.int .i64 x38)) (fun _ => Want.plain rfl) (fun _ => rfl) (fun _ _ _ => rfl) (fun _ _ => OpR.pure rfl) (fun _ _ _ _ _ _ _ => rfl) ?_
 refine OpsS.cons' true ?_ (fun D hA env37 x j hj hD => match j, hj, hD with | 0, _, _ => rfl | 1, _, _ => rfl | 2, _, _ => rfl | 3, _, _ => rfl | 4, _, _ => rfl | 5, _, _ => rfl | 6, _, _ => rfl | 7, _, _ => rfl | 8, _, _ => rfl | 9, _, _ => rfl | 10, _, _ => rfl | 11, _, _ => rfl | 12, _, _ => rfl | 13, _, _ => rfl | 14, _, _ => rfl | 15, hj, _ => absurd rfl hj | 16, _, _ => rfl | _ + 17, _, _ => rfl) ?_
 · intro D env37 hA
   exact OpS.yes (o0 := [.lp b0 .ready none [13, 14] rfA42_0 rfB42_0 [(3, .val (.pointer (some ⟨b4, 0, none⟩)))] 20, .var b1 [.val (.int .i64 a0)] 3, .var b2 [.val (.int .i64 a1)] 3, .var b3 [(eOP a2)] 27, .var b4 [.val y8] 22, .row y8 (List.map (eI .i64) s10.2.1) 1 3, .var (blk p2) [.val y27] 109, .row y27 (List.map e_walk_frame_int t26) 3 114]) (o1 := fun x => [.lp b0 .ready none [13, 14] rfA42_0 rfB42_0 [(3, .val (.pointer (some ⟨b4, 0, none⟩)))] 20, .var b1 [.val (.int .i64 a0)] 3, .var b2 [.val (.int .i64 a1)] 3, .var b3 [(eOP a2)] 27, .var b4 [.val (vn x 0)] 22, .row (vn x 0) (List.map (eI .i64) x39) 1 3, .var (blk p2) [.val y27] 109, .row y27 (List.map e_walk_frame_int t26) 3 114]) (d := fun x => .val (.bool true)) (Want.plain rfl) (by first | rfl | simp only [hA.me, cond_true, cond_false, List.cons_append, List.nil_append, List.append_nil]) (fun x => by first | rfl | simp only [ins_self, upd_self, hA.me, cond_true, cond_false, List.cons_append, List.nil_append, List.append_nil]) (fun x => rfl) (OpR.callY [0, 4, 5] rfl (walk_All_int_r0_c hx39) rfl rfl rfl (fun _ => rfl))
 refine oS (d := .val (.bool false)) (fun _ => Want.plain rfl) (fun _ => rfl) (fun _ _ _ => rfl) (fun _ _ => OpR.pure rfl) (fun _ _ _ _ _ _ _ => rfl) ?_
 exact trivial
noncomputable def walk_All_int (a0 : tree_Tree_int) : Option (List Int) :=
  bnd (tree_Tree_int_Len a0) fun x1 =>
  bnd ((mkc 8 x1 : Option (List Int))) fun x2 =>
  bnd (tree_Tree_int_Len a0) fun x6 =>
  bnd (walk_Range_int a0 0 x6) fun x7 =>
  bnd (walk_Range_int_1 x7.1 x7.2.1 x7.2.2 x2) fun x9 =>
  some x9
set_option maxHeartbeats 4000000 in
theorem walk_All_int_c {a0 : tree_Tree_int} {res : (List Int)} (h0 : walk_All_int a0 = some res) : CallF X 42 [.agg [(eOP a0.fRoot)]] [] (fun x => .sl 1 (List.map (eI .i64) res)) (fun x => []) := by
 unfold walk_All_int at h0
 refine CallF.mkG (X := X) rfl Try.func42 rfl rfl Try.ntmps42 rfl rfl ?_
 refine T.seq ?_
 refine T.region ?_
 refine TL.op1 (OpR.boxImm rfl rfl) rfl ?_
 refine TL.op1 (OpR.pure rfl) rfl ?_
 refine TL.nil ?_
 show T X _ _ _
 refine T.seq ?_
 refine T.region ?_
 refine TL.op1 (OpR.pure rfl) rfl ?_
 obtain ⟨x1, hx1, h0⟩ := bnd_some h0
 refine TL.op1 (OpR.call0 fn45 (tree_Tree_int_Len_c hx1) rfl) rfl ?_
 obtain ⟨x2, hx2, h0⟩ := bnd_some h0
 refine TL.op (OpR.makeC (eI .i64) hx2 rfl rfl rfl rfl rfl rfl rfl (fun _ => rfl)) rfl (fun v3 => ?_)
 refine TL.op (OpR.alloc rfl rfl (fun _ => rfl)) rfl (fun p4 => ?_)
 refine TL.op0 (OpR.store 1 rfl rfl rfl rfl rfl rfl rfl rfl) ?_
 refine TL.nil ?_
 show T X _ _ _
 refine T.seq ?_
 refine T.seq ?_
 obtain ⟨x6, hx6, h0⟩ := bnd_some h0
 obtain ⟨x7, hx7, h0⟩ := bnd_some h0
 refine T.drawS drawsX (fun env5 => [.agg [(eOP a0.fRoot)], .agg [(eOP a0.fRoot)], .val (.int .i64 x6), .fn (.func 68) [] [.val (.pointer (some ⟨(blk (vn (env5 3) 0)), 0, none⟩)), .val (.pointer (some ⟨(blk (vn (env5 3) 1)), 0, none⟩)), .val (.pointer (some ⟨(blk (vn (env5 3) 2)), 0, none⟩))]]) (fun D env5 => [.row v3 (List.map (eI .i64) x2) 1 3, .var (blk p4) [.val v3] 22] ++ (bif D 3 then [.var (blk (vn (env5 3) 0)) [.val (.int .i64 x7.1)] 3] else []) ++ (bif D 3 then [.var (blk (vn (env5 3) 1)) [.val (.int .i64 x7.2.1)] 3] else []) ++ (bif D 3 then [.var (blk (vn (env5 3) 2)) [(eOP x7.2.2)] 27] else [])) [0, 0, 2, 7] [0, 1, 2, 3, 6, 7, 8, 9, 10, 11, 12] (fun env5 => [.row v3 (List.map (eI .i64) x2) 1 3, .var (blk p4) [.val v3] 22, .var (blk (vn (env5 3) 0)) [.val (.int .i64 x7.1)] 3, .var (blk (vn (env5 3) 1)) [.val (.int .i64 x7.2.1)] 3, .var (blk (vn (env5 3) 2)) [(eOP x7.2.2)] 27]) (by decide +kernel) (by decide +kernel) (fun _ => rfl) (fun _ => rfl) ?_ (fun _ => rfl) (fun _ => rfl) ?_
 rotate_left
 · intro env5
   show T X _ _ _
   refine T.block ?_
   obtain ⟨x9, hx9, h0⟩ := bnd_some h0
   refine T.rangeN (A := rfA42_0) (B := rfB42_0) [3] [2, 3, 4, 1, 0] (.inl rfl) rfl rfl rfl rfl rfl fn68 rfl rfl (fun l8 => (walk_Range_int_1_c hx9)) (fun _ => rfl) (fun w10 => ?_)
   show T X _ _ _
   refine T.seq ?_
   refine T.region ?_
   refine TL.op1 (OpR.loadPtr 1 rfl rfl rfl rfl) rfl ?_
   refine TL.op1 (OpR.pure rfl) rfl ?_
   refine TL.nil ?_
   show T X _ _ _
   refine T.ret ?_
   obtain rfl := Option.some.inj h0
   exact PostG.retP (ks := []) (Gst.trans (Gst.only [2] rfl) (Gst.trans (Gst.freezeRow 0 rfl rfl (ReS.cons (Re.base .all) ReS.nil) (ReO.same (ReO.var (ReL.cons (Re.base .all) ReL.nil) (ReO.same (ReO.same (ReO.same ReO.nil)))))) (Gst.pick [] rfl rfl))) undef (ResL.cons (ResV.tmp rfl) ResL.nil) rfl rfl rfl rfl
 refine oS (d := .agg [(eOP a0.fRoot)]) (fun _ => Want.plain rfl) (fun _ => rfl) (fun _ _ _ => rfl) (fun _ _ => OpR.pure rfl) (fun _ _ _ _ _ _ _ => rfl) ?_
 refine oS (d := .agg [(eOP a0.fRoot)]) (fun _ => Want.plain rfl) (fun _ => rfl) (fun _ _ _ => rfl) (fun _ _ => OpR.pure rfl) (fun _ _ _ _ _ _ _ => rfl) ?_
 refine oS (d := .val (.int .i64 x6)) (fun _ => Want.plain rfl) (fun _ => rfl) (fun _ _ _ => rfl) (fun _ _ => OpR.call0 fn45 (tree_Tree_int_Len_c hx6) rfl) (fun _ _ _ _ _ _ _ => rfl) ?_
 refine OpsS.cons' true ?_ (fun D hA env5 x j hj hD => match j, hj, hD with | 0, _, _ => rfl | 1, _, _ => rfl | 2, _, _ => rfl | 3, hj, _ => absurd rfl hj | _ + 4, _, _ => rfl) ?_
 · intro D env5 hA
   exact OpS.yes (o0 := [.row v3 (List.map (eI .i64) x2) 1 3, .var (blk p4) [.val v3] 22]) (o1 := fun x => [.row v3 (List.map (eI .i64) x2) 1 3, .var (blk p4) [.val v3] 22, .var (blk (vn x 0)) [.val (.int .i64 x7.1)] 3, .var (blk (vn x 1)) [.val (.int .i64 x7.2.1)] 3, .var (blk (vn x 2)) [(eOP x7.2.2)] 27]) (d := fun x => .fn (.func 68) [] [.val (.pointer (some ⟨(blk (vn x 0)), 0, none⟩)), .val (.pointer (some ⟨(blk (vn x 1)), 0, none⟩)), .val (.pointer (some ⟨(blk (vn x 2)), 0, none⟩))]) (Want.plain rfl) (by first | rfl | simp only [hA.me, cond_true, cond_false, List.cons_append, List.nil_append, List.append_nil]) (fun x => by first | rfl | simp only [ins_self, upd_self, hA.me, cond_true, cond_false, List.cons_append, List.nil_append, List.append_nil]) (fun x => rfl) (OpR.call [] fn40 (walk_Range_int_c hx7) rfl rfl rfl (fun _ => rfl))
 exact trivial
noncomputable def law10_awake_1 (a0 : Int) : Option Bool :=
  some (a0 == 3)
set_option maxHeartbeats 4000000 in
theorem law10_awake_1_c {a0 : Int} {res : Bool} (h0 : law10_awake_1 a0 = some res) : CallF X 66 [.val (.int .i64 a0)] [] (fun x => .val (.bool res)) (fun x => []) := by
 unfold law10_awake_1 at h0
 refine CallF.mkG (X := X) rfl Try.func66 rfl rfl Try.ntmps66 rfl rfl ?_
 refine T.seq ?_
 refine T.region ?_
 refine TL.op1 (OpR.pure rfl) rfl ?_
 refine TL.nil ?_
 show T X _ _ _
 refine T.seq ?_
 refine T.region ?_
 refine TL.op1 (OpR.pure rfl) rfl ?_
 refine TL.op1 (OpR.pure rfl) rfl ?_
 refine TL.op1 (OpR.pure rfl) rfl ?_
 refine TL.nil ?_
 show T X _ _ _
 refine T.ret ?_
 obtain rfl := Option.some.inj h0
 exact PostG.retP (ks := []) (Gst.only [2] rfl) undef (ResL.cons (ResV.tmp rfl) ResL.nil) rfl rfl rfl rfl
noncomputable def walk_Index_int_r0 (a0 : Int) (a1 : Int) (a2 : Int) : Option (Int ⊕ Unit) :=
  bnd (law10_awake_1 a1) fun x31 =>
  if x31 = true then
    some (Sum.inl a0)
  else
    some (Sum.inr ())
set_option maxHeartbeats 4000000 in
theorem walk_Index_int_r0_c {a0 : Int} {a1 : Int} {a2 : Int} {b0 : Nat} {b1 : Nat} {res : Int ⊕ Unit} (h0 : walk_Index_int_r0 a0 a1 a2 = some res) : RoundF X b0 [.val (.int .i64 a0), .val (.int .i64 a1)] [.lp b0 .ready none [14, 15] rfA37_0 rfB37_0 [(6, .val (.pointer (some ⟨b1, 0, none⟩))), (5, .nod [.fn (.func 66) [] []])] 20, .var b1 [.val (.int .i64 a2)] 3] (fun x => (match res with | .inl res => .val (.bool false) | .inr res => .val (.bool true))) (fun x => (match res with | .inl res => [.lp b0 .done (some (.ret)) [14, 15] rfA37_0 rfB37_0 [(6, .val (.pointer (some ⟨b1, 0, none⟩))), (5, .nod [.fn (.func 66) [] []])] 20, .var b1 [.val (.int .i64 res)] 3] | .inr res => [.lp b0 .ready none [14, 15] rfA37_0 rfB37_0 [(6, .val (.pointer (some ⟨b1, 0, none⟩))), (5, .nod [.fn (.func 66) [] []])] 20, .var b1 [.val (.int .i64 a2)] 3])) := by
 unfold walk_Index_int_r0 at h0
 refine RoundF.mk (X := X) rfl rfl rfl ?_
 refine T.seq ?_
 refine T.region ?_
 refine TL.op1 (OpR.pure rfl) rfl ?_
 refine TL.nil ?_
 show T (X.inR b0) _ _ _
 refine T.region ?_
 refine TL.op1 (OpR.pure rfl) rfl ?_
 refine TL.nil ?_
 refine RoundA.mk ?_
 refine T.block ?_
 refine T.seq ?_
 refine T.region ?_
 refine TL.op1 (OpR.pure rfl) rfl ?_
 refine TL.op1 (OpR.pure rfl) rfl ?_
 obtain ⟨x31, hx31, h0⟩ := bnd_some h0
 refine TL.op1 (OpR.callV [] rfl fn66 (law10_awake_1_c hx31) rfl rfl rfl (fun _ => rfl)) rfl ?_
 refine TL.nil ?_
 show T (X.inR b0) _ _ _
 rcases ite_some h0 with ⟨c32, h0⟩ | ⟨c32, h0⟩
 rotate_left
 · refine T.condF rfl (eq_false_of_ne_true c32) ?_
   refine T.skip ?_
   obtain rfl := Option.some.inj h0
   exact RoundG.mk (ks := [0, 1]) (Gst.only [] rfl) undef rfl rfl rfl rfl rfl
 refine T.condT rfl (c32) ?_
 refine T.seq ?_
 refine T.region ?_
 refine TL.op1 (OpR.pure rfl) rfl ?_
 refine TL.op0 (OpR.store 1 rfl rfl rfl rfl rfl rfl rfl rfl) ?_
 refine TL.nil ?_
 show T (X.inR b0) _ _ _
 refine T.ret ?_
 obtain rfl := Option.some.inj h0
 exact RoundG.mk (ks := [0, 1]) (Gst.only [] rfl) undef rfl rfl rfl rfl rfl
theorem walk_Index_int_r0_cx1 {a0 : Int} {a1 : Int} {a2 : Int} {b0 : Nat} {b1 : Nat} {res : Int} (h0 : walk_Index_int_r0 a0 a1 a2 = some (Sum.inl res)) : RoundF X b0 [.val (.int .i64 a0), .val (.int .i64 a1)] [.lp b0 .ready none [14, 15] rfA37_0 rfB37_0 [(6, .val (.pointer (some ⟨b1, 0, none⟩))), (5, .nod [.fn (.func 66) [] []])] 20, .var b1 [.val (.int .i64 a2)] 3] (fun x => .val (.bool false)) (fun x => [.lp b0 .done (some (.ret)) [14, 15] rfA37_0 rfB37_0 [(6, .val (.pointer (some ⟨b1, 0, none⟩))), (5, .nod [.fn (.func 66) [] []])] 20, .var b1 [.val (.int .i64 res)] 3]) := walk_Index_int_r0_c h0
theorem walk_Index_int_r0_cx2 {a0 : Int} {a1 : Int} {a2 : Int} {b0 : Nat} {b1 : Nat} {res : Unit} (h0 : walk_Index_int_r0 a0 a1 a2 = some (Sum.inr res)) : RoundF X b0 [.val (.int .i64 a0), .val (.int .i64 a1)] [.lp b0 .ready none [14, 15] rfA37_0 rfB37_0 [(6, .val (.pointer (some ⟨b1, 0, none⟩))), (5, .nod [.fn (.func 66) [] []])] 20, .var b1 [.val (.int .i64 a2)] 3] (fun x => .val (.bool true)) (fun x => [.lp b0 .ready none [14, 15] rfA37_0 rfB37_0 [(6, .val (.pointer (some ⟨b1, 0, none⟩))), (5, .nod [.fn (.func 66) [] []])] 20, .var b1 [.val (.int .i64 a2)] 3]) := walk_Index_int_r0_c h0
noncomputable def walk_Range_int_1_2.l1 (a1 : Int) (a3 : Int) (s9 : Int × (List walk_frame_int)) : Option (Lp (Int × (List walk_frame_int)) (Ex Unit (Unit ⊕ Int))) :=
  if s9.1 < a1 then
    bnd (walk_stack_int_top s9.2) fun x18 =>
    bnd (idx s9.2 x18) fun x19 =>
    bnd (some x19.fN) fun q20 => match q20 with
      | none =>
        none
      | some z21 =>
        bnd (o_tree_Node_int z21) fun x23 =>
        bnd (if x19.fNext = (x23.fItems.length : Int) then
          bnd (walk_stack_int_forth s9.2) fun x28 =>
          some x28.2
        else
          some s9.2 : Option (List walk_frame_int)) fun t25 =>
        bnd (walk_stack_int_top t25) fun x30 =>
        bnd (idx t25 x30) fun x31 =>
        bnd (some x31.fN) fun q32 => match q32 with
          | none =>
            none
          | some z33 =>
            bnd (o_tree_Node_int z33) fun x35 =>
            bnd (idx x35.fItems x31.fNext) fun x37 =>
            bnd (walk_Index_int_r0 s9.1 x37 a3) fun x38 =>
            match x38 with
            | .inl x38 =>
                some (Lp.done (Ex.ret (Sum.inr x38)))
            | .inr x38 =>
                some (Lp.next (w64 (s9.1 + 1), (t25.set x30.toNat (⟨x31.fN, x31.fFirst, w64 (x31.fNext + 1)⟩ : walk_frame_int))))
  else
    some (Lp.done (Ex.brk ()))
noncomputable def walk_Range_int_1_2 (a0 : Int) (a1 : Int) (a2 : Option NP) (a3 : Int) : Option (Unit ⊕ Int) :=
  if a0 = a1 then
    some (Sum.inl ())
  else
    bnd (tree_Tree_int_Root (⟨a2⟩ : tree_Tree_int)) fun x4 =>
    match x4 with
    | .inl x4 =>
        none
    | .inr x4 =>
        bnd (walk_stack_int_down x4.1 x4.2.1 x4.2.2 0 a0) fun x5 =>
        bnd (loop (walk_Range_int_1_2.l1 a1 a3) (a0, x5) : Option (Ex Unit (Unit ⊕ Int))) fun t6 => match t6 with
          | .brk u7 =>
            some (Sum.inl ())
          | .ret u7 => some u7
set_option maxHeartbeats 4000000 in
theorem walk_Range_int_1_2_c {a0 : Int} {a1 : Int} {a2 : Option NP} {a3 : Int} {b0 : Nat} {b1 : Nat} {b2 : Nat} {b3 : Nat} {b4 : Nat} {res : Unit ⊕ Int} (h0 : walk_Range_int_1_2 a0 a1 a2 a3 = some res) : CallF X 68 [.fn (.yield b0) [] [], .val (.pointer (some ⟨b1, 0, none⟩)), .val (.pointer (some ⟨b2, 0, none⟩)), .val (.pointer (some ⟨b3, 0, none⟩))] [.lp b0 .ready none [14, 15] rfA37_0 rfB37_0 [(6, .val (.pointer (some ⟨b4, 0, none⟩))), (5, .nod [.fn (.func 66) [] []])] 20, .var b1 [.val (.int .i64 a0)] 3, .var b2 [.val (.int .i64 a1)] 3, .var b3 [(eOP a2)] 27, .var b4 [.val (.int .i64 a3)] 3] (fun x => (match res with | .inl res => .tup [] | .inr res => .tup [])) (fun x => (match res with | .inl res => [.lp b0 .ready none [14, 15] rfA37_0 rfB37_0 [(6, .val (.pointer (some ⟨b4, 0, none⟩))), (5, .nod [.fn (.func 66) [] []])] 20, .var b1 [.val (.int .i64 a0)] 3, .var b2 [.val (.int .i64 a1)] 3, .var b3 [(eOP a2)] 27, .var b4 [.val (.int .i64 a3)] 3] | .inr res => [.lp b0 .done (some (.ret)) [14, 15] rfA37_0 rfB37_0 [(6, .val (.pointer (some ⟨b4, 0, none⟩))), (5, .nod [.fn (.func 66) [] []])] 20, .var b1 [.val (.int .i64 a0)] 3, .var b2 [.val (.int .i64 a1)] 3, .var b3 [(eOP a2)] 27, .var b4 [.val (.int .i64 res)] 3])) := by
 unfold walk_Range_int_1_2 at h0
 refine CallF.mkG (X := X) rfl Try.func68 rfl rfl Try.ntmps68 rfl rfl ?_
 refine T.seq ?_
 refine T.seq ?_
 refine T.region ?_
 refine TL.op1 (OpR.loadPtr 1 rfl rfl rfl rfl) rfl ?_
 refine TL.op1 (OpR.loadPtr 2 rfl rfl rfl rfl) rfl ?_
 refine TL.op1 (OpR.pure rfl) rfl ?_
 refine TL.nil ?_
 show T X _ _ _
 rcases ite_some h0 with ⟨c1, h0⟩ | ⟨c1, h0⟩
 · refine T.condT rfl (beq_iff_eq.2 c1) ?_
   refine T.ret ?_
   obtain rfl := Option.some.inj h0
   exact PostG.retP (ks := [0, 1, 2, 3, 4]) (Gst.only [] rfl) undef ResL.nil rfl rfl rfl rfl
 refine T.condF rfl (beq_eq_false_iff_ne.2 c1) ?_
 refine T.skip ?_
 show T X _ _ _
 refine T.seq ?_
 refine T.region ?_
 refine TL.op (OpR.alloc rfl rfl (fun _ => rfl)) rfl (fun p2 => ?_)
 refine TL.nil ?_
 show T X _ _ _
 refine T.seq ?_
 obtain ⟨x4, hx4, h0⟩ := bnd_some h0
 rcases x4 with x4 | x4
 · dsimp only at h0
   exact (by cases h0)
 dsimp only at h0
 obtain ⟨x5, hx5, h0⟩ := bnd_some h0
 refine T.drawS drawsX (fun env3 => [.agg [(eOP a2)], .nod [.sl 1 (List.map eNP x4.1), .sl 1 (List.map (eI .i64) x4.2.1), .val (.int .i64 x4.2.2)], .val (.int .i64 a0), .tup []]) (fun D env3 => [.lp b0 .ready none [14, 15] rfA37_0 rfB37_0 [(6, .val (.pointer (some ⟨b4, 0, none⟩))), (5, .nod [.fn (.func 66) [] []])] 20, .var b1 [.val (.int .i64 a0)] 3, .var b2 [.val (.int .i64 a1)] 3, .var b3 [(eOP a2)] 27, .var b4 [.val (.int .i64 a3)] 3, (bif D 3 then .var (blk p2) [.val (vn (env3 3) 0)] 109 else .var (blk p2) [.val (.slice none 0 0)] 109)] ++ (bif D 3 then [.row (vn (env3 3) 0) (List.map e_walk_frame_int x5) 3 114] else [])) [0, 1, 0, 7] [0, 1, 2, 3, 5, 9, 10, 11, 12, 13, 14, 15] (fun env3 => [.lp b0 .ready none [14, 15] rfA37_0 rfB37_0 [(6, .val (.pointer (some ⟨b4, 0, none⟩))), (5, .nod [.fn (.func 66) [] []])] 20, .var b1 [.val (.int .i64 a0)] 3, .var b2 [.val (.int .i64 a1)] 3, .var b3 [(eOP a2)] 27, .var b4 [.val (.int .i64 a3)] 3, .var (blk p2) [.val (vn (env3 3) 0)] 109, .row (vn (env3 3) 0) (List.map e_walk_frame_int x5) 3 114]) (by decide +kernel) (by decide +kernel) (fun _ => rfl) (fun _ => rfl) ?_ (fun _ => rfl) (fun _ => rfl) ?_
 · refine oS (d := .agg [(eOP a2)]) (fun _ => Want.plain rfl) (fun _ => rfl) (fun _ _ _ => rfl) (fun _ _ => OpR.loadPtr 3 rfl rfl rfl rfl) (fun _ _ _ _ _ _ _ => rfl) ?_
   refine oS (d := .nod [.sl 1 (List.map eNP x4.1), .sl 1 (List.map (eI .i64) x4.2.1), .val (.int .i64 x4.2.2)]) (fun _ => Want.plain rfl) (fun _ => rfl) (fun _ _ _ => rfl) (fun _ _ => OpR.call0 fn46 (tree_Tree_int_Root_cx2 hx4) rfl) (fun _ _ _ _ _ _ _ => rfl) ?_
   refine oS (d := .val (.int .i64 a0)) (fun _ => Want.plain rfl) (fun _ => rfl) (fun _ _ _ => rfl) (fun _ _ => OpR.loadPtr 1 rfl rfl rfl rfl) (fun _ _ _ _ _ _ _ => rfl) ?_
   refine OpsS.cons' true ?_ (fun D hA env3 x j hj hD => match j, hj, hD with | 0, _, _ => rfl | 1, _, _ => rfl | 2, _, _ => rfl | 3, hj, _ => absurd rfl hj | _ + 4, _, _ => rfl) ?_
   · intro D env3 hA
     exact OpS.yes (o0 := [.lp b0 .ready none [14, 15] rfA37_0 rfB37_0 [(6, .val (.pointer (some ⟨b4, 0, none⟩))), (5, .nod [.fn (.func 66) [] []])] 20, .var b1 [.val (.int .i64 a0)] 3, .var b2 [.val (.int .i64 a1)] 3, .var b3 [(eOP a2)] 27, .var b4 [.val (.int .i64 a3)] 3, .var (blk p2) [.val (.slice none 0 0)] 109]) (o1 := fun x => [.lp b0 .ready none [14, 15] rfA37_0 rfB37_0 [(6, .val (.pointer (some ⟨b4, 0, none⟩))), (5, .nod [.fn (.func 66) [] []])] 20, .var b1 [.val (.int .i64 a0)] 3, .var b2 [.val (.int .i64 a1)] 3, .var b3 [(eOP a2)] 27, .var b4 [.val (.int .i64 a3)] 3, .var (blk p2) [.val (vn x 0)] 109, .row (vn x 0) (List.map e_walk_frame_int x5) 3 114]) (d := fun x => .tup []) (Want.plain rfl) (by first | rfl | simp only [hA.me, cond_true, cond_false, List.cons_append, List.nil_append, List.append_nil]) (fun x => by first | rfl | simp only [ins_self, upd_self, hA.me, cond_true, cond_false, List.cons_append, List.nil_append, List.append_nil]) (fun x => rfl) (OpR.call [5] fn69 (walk_stack_int_down_c hx5) rfl rfl rfl (fun _ => rfl))
   exact trivial
 intro env3
 show T X _ _ _
 refine T.seq ?_
 refine T.region ?_
 refine TL.op1 (OpR.loadPtr 1 rfl rfl rfl rfl) rfl ?_
 refine TL.op1 (OpR.pure rfl) rfl ?_
 refine TL.nil ?_
 show T X _ _ _
 obtain ⟨t6, ht6, h0⟩ := bnd_some h0
 refine T.cutN (fun S' => ∃ u7, t6 = Ex.brk u7 ∧ S' = ⟨[], [.lp b0 .ready none [14, 15] rfA37_0 rfB37_0 [(6, .val (.pointer (some ⟨b4, 0, none⟩))), (5, .nod [.fn (.func 66) [] []])] 20, .var b1 [.val (.int .i64 a0)] 3, .var b2 [.val (.int .i64 a1)] 3, .var b3 [(eOP a2)] 27, .var b4 [.val (.int .i64 a3)] 3], 62⟩) (fun _ _ g ⟨h, S', ds, g', r⟩ => ⟨h, S', ds, Gst.trans g g', r⟩) ?_ ?_
 rotate_left
 · rintro _ ⟨u7, rfl, rfl⟩
   obtain rfl := Option.some.inj h0
   exact PostG.finP (ks := [0, 1, 2, 3, 4]) (Gst.only [] rfl) undef ResL.nil rfl rfl rfl rfl
 refine T.block ?_
 obtain ⟨n10, n15⟩ := loop_some ht6
 refine T.loop (fun n S' => ∃ S'', Gst S' S'' ∧ ∃ y8 : Value, ∃ s9 : Int × (List walk_frame_int), S'' = ⟨[(6, .val (.int .i64 s9.1)), (5, .val (.pointer (some ⟨(blk p2), 0, none⟩))), (2, .val (.pointer (some ⟨b2, 0, none⟩))), (0, .fn (.yield b0) [] [])], [.lp b0 .ready none [14, 15] rfA37_0 rfB37_0 [(6, .val (.pointer (some ⟨b4, 0, none⟩))), (5, .nod [.fn (.func 66) [] []])] 20, .var b1 [.val (.int .i64 a0)] 3, .var b2 [.val (.int .i64 a1)] 3, .var b3 [(eOP a2)] 27, .var b4 [.val (.int .i64 a3)] 3, .var (blk p2) [.val y8] 109, .row y8 (List.map e_walk_frame_int s9.2) 3 114], 62⟩ ∧ iter (walk_Range_int_1_2.l1 a1 a3) n s9 = some t6) n10 ?_ ?_
 · exact ⟨_, Gst.only [0, 2, 5, 6] rfl, (vn (env3 3) 0), (a0, x5), rfl, n15⟩
 rintro n10 _ ⟨_, g, y8, s9, rfl, i14⟩
 refine T.ghost g ?_
 obtain ⟨m11, q12, rfl, q13, i14⟩ := iter_succ i14
 unfold walk_Range_int_1_2.l1 at q13
 refine T.seq ?_
 refine T.seq ?_
 refine T.region ?_
 refine TL.op1 (OpR.pure rfl) rfl ?_
 refine TL.op1 (OpR.loadPtr 2 rfl rfl rfl rfl) rfl ?_
 refine TL.op1 (OpR.pure rfl) rfl ?_
 refine TL.nil ?_
 show T X _ _ _
 rcases ite_some q13 with ⟨c17, q13⟩ | ⟨c17, q13⟩
 rotate_left
 · refine T.condF rfl (decide_eq_false c17) ?_
   refine T.exit ?_
   obtain rfl := Option.some.inj q13
   obtain rfl : _ = _ := i14
   exact ⟨_, Gst.trans (Gst.only [] rfl) (Gst.pick [0, 1, 2, 3, 4] rfl rfl), _, rfl, rfl⟩
 refine T.condT rfl (decide_eq_true c17) ?_
 refine T.skip ?_
 show T X _ _ _
 refine T.seq ?_
 refine T.block ?_
 refine T.seq ?_
 refine T.seq ?_
 refine T.region ?_
 obtain ⟨x18, hx18, q13⟩ := bnd_some q13
 refine TL.op1 (OpR.call [5, 6] fn70 (walk_stack_int_top_c hx18) rfl rfl rfl (fun _ => rfl)) rfl ?_
 refine TL.op1 (OpR.pure rfl) rfl ?_
 refine TL.nil ?_
 show T X _ _ _
 refine T.seq ?_
 obtain ⟨x19, hx19, q13⟩ := bnd_some q13
 obtain ⟨q20, hq20, q13⟩ := bnd_some q13
 rcases q20 with _ | z21
 · dsimp only at q13
   exact (by cases q13)
 dsimp only at q13
 obtain ⟨x23, hx23, q13⟩ := bnd_some q13
 rw [o_tree_Node_int_eq hx23] at hq20
 refine T.drawQ drawsX [.val (.pointer (some ⟨blk y8, x18.toNat * 3, none⟩)), .val (.pointer (some ⟨blk y8, x18.toNat * 3, none⟩)), .val (.pointer (some ⟨blk y8, x18.toNat * 3 + 2, none⟩)), .val (.int .i64 x19.fNext), .val (.pointer (some ⟨blk y8, x18.toNat * 3, none⟩)), .val (.pointer (some ⟨blk y8, x18.toNat * 3, none⟩)), .val (.pointer (some ⟨blk y8, x18.toNat * 3, none⟩)), .nod [.sl 1 (List.map eNP x23.fKids), .sl 1 (List.map (eI .i64) x23.fItems), .val (.int .i64 x23.fN)], .nod [.sl 1 (List.map eNP x23.fKids), .sl 1 (List.map (eI .i64) x23.fItems), .val (.int .i64 x23.fN)], .nod [.sl 1 (List.map (eI .i64) x23.fItems), .val (.int .i64 x23.fN)], .sl 1 (List.map (eI .i64) x23.fItems), .val (.int .i64 (x23.fItems.length : Int)), .val (.bool (x19.fNext == (x23.fItems.length : Int)))] [0, 2, 5, 6, 7, 17, 18, 19, 22, 23, 24, 25, 26, 27, 28, 29, 30, 31, 32, 33, 34, 35] (by decide +kernel) rfl ?_ rfl ?_
 · refine OpsQ.yes (Want.plain rfl) rfl (OpR.pure rfl) ?_
   refine OpsQ.yes (Want.plain rfl) rfl (OpR.pure rfl) ?_
   refine OpsQ.yes (Want.plain rfl) rfl (OpR.pure rfl) ?_
   refine OpsQ.yes (Want.plain rfl) rfl (OpR.rowLoadM (j := x18) e_walk_frame_int 6 hx19 rfl rfl rfl rfl) ?_
   refine OpsQ.yes (Want.plain rfl) rfl (OpR.pure rfl) ?_
   refine OpsQ.yes (Want.plain rfl) rfl (OpR.pure rfl) ?_
   refine OpsQ.yes (Want.plain rfl) rfl (OpR.pure rfl) ?_
   refine OpsQ.yes (Want.plain rfl) rfl (OpR.cast (OpR.rowLoad0M (j := x18) e_walk_frame_int 6 hx19 rfl rfl rfl rfl) (congrArg eOP (Option.some.inj hq20))) ?_
   refine OpsQ.yes (Want.plain rfl) rfl (OpR.pure rfl) ?_
   refine OpsQ.yes (Want.plain rfl) rfl (OpR.pure rfl) ?_
   refine OpsQ.yes (Want.plain rfl) rfl (OpR.pure rfl) ?_
   refine OpsQ.yes (Want.plain rfl) rfl (OpR.cast (OpR.pure rfl) (intE (lenM _ _))) ?_
   refine OpsQ.yes (Want.plain rfl) rfl (OpR.pure rfl) ?_
   exact OpsQ.nil
 show T X _ _ _
 obtain ⟨t25, ht25, q13⟩ := bnd_some q13
 refine T.cutC (fun S' => ∃ y26 : Value, S' = ⟨[(6, .val (.int .i64 s9.1)), (5, .val (.pointer (some ⟨(blk p2), 0, none⟩))), (2, .val (.pointer (some ⟨b2, 0, none⟩))), (0, .fn (.yield b0) [] [])], [.lp b0 .ready none [14, 15] rfA37_0 rfB37_0 [(6, .val (.pointer (some ⟨b4, 0, none⟩))), (5, .nod [.fn (.func 66) [] []])] 20, .var b1 [.val (.int .i64 a0)] 3, .var b2 [.val (.int .i64 a1)] 3, .var b3 [(eOP a2)] 27, .var b4 [.val (.int .i64 a3)] 3, .var (blk p2) [.val y26] 109, .row y26 (List.map e_walk_frame_int t25) 3 114], 62⟩) (fun _ h => h) ?_ ?_
 · rcases ite_some ht25 with ⟨c27, ht25⟩ | ⟨c27, ht25⟩
   rotate_left
   · refine T.condF rfl (beq_eq_false_iff_ne.2 c27) ?_
     refine T.skip ?_
     obtain rfl := Option.some.inj ht25
     exact ⟨_, Gst.only [0, 2, 5, 6] rfl, y8, rfl⟩
   refine T.condT rfl (beq_iff_eq.2 c27) ?_
   refine T.region ?_
   obtain ⟨x28, hx28, ht25⟩ := bnd_some ht25
   refine TL.op (OpR.call [5, 6] fn71 (walk_stack_int_forth_c hx28) rfl rfl rfl (fun _ => rfl)) rfl (fun w29 => ?_)
   refine TL.nil ?_
   obtain rfl := Option.some.inj ht25
   exact ⟨_, Gst.only [0, 2, 5, 6] rfl, (vn w29 0), rfl⟩
 rintro _ ⟨y26, rfl⟩
 show T X _ _ _
 refine T.seq ?_
 refine T.region ?_
 obtain ⟨x30, hx30, q13⟩ := bnd_some q13
 refine TL.op1 (OpR.call [5, 6] fn70 (walk_stack_int_top_c hx30) rfl rfl rfl (fun _ => rfl)) rfl ?_
 refine TL.op1 (OpR.pure rfl) rfl ?_
 refine TL.nil ?_
 show T X _ _ _
 refine T.seq ?_
 refine T.seq ?_
 obtain ⟨x31, hx31, q13⟩ := bnd_some q13
 obtain ⟨q32, hq32, q13⟩ := bnd_some q13
 rcases q32 with _ | z33
 · dsimp only at q13
   exact (by cases q13)
 dsimp only at q13
 obtain ⟨x35, hx35, q13⟩ := bnd_some q13
 rw [o_tree_Node_int_eq hx35] at hq32
 obtain ⟨x37, hx37, q13⟩ := bnd_some q13
 obtain ⟨x38, hx38, q13⟩ := bnd_some q13
 rcases x38 with x38 | x38
 rotate_left
 · dsimp only at q13
   refine T.drawQ drawsX [.fn (.yield b0) [] [], .val (.int .i64 s9.1), .val (.pointer (some ⟨blk y26, x30.toNat * 3, none⟩)), .val (.pointer (some ⟨blk y26, x30.toNat * 3, none⟩)), .val (.pointer (some ⟨blk y26, x30.toNat * 3, none⟩)), .nod [.sl 1 (List.map eNP x35.fKids), .sl 1 (List.map (eI .i64) x35.fItems), .val (.int .i64 x35.fN)], .nod [.sl 1 (List.map eNP x35.fKids), .sl 1 (List.map (eI .i64) x35.fItems), .val (.int .i64 x35.fN)], .nod [.sl 1 (List.map (eI .i64) x35.fItems), .val (.int .i64 x35.fN)], .sl 1 (List.map (eI .i64) x35.fItems), .val (.pointer (some ⟨blk y26, x30.toNat * 3, none⟩)), .val (.pointer (some ⟨blk y26, x30.toNat * 3, none⟩)), .val (.pointer (some ⟨blk y26, x30.toNat * 3 + 2, none⟩)), .val (.int .i64 x31.fNext), .nod [.val (.int .i64 x37)], .val (.int .i64 x37), .val (.bool true), .val (.bool false)] [0, 2, 5, 6, 8, 37, 38, 39, 40, 41, 42, 43, 44, 45, 46, 47, 48, 49, 50, 51, 52, 53, 54] (by decide +kernel) rfl ?_ rfl ?_
   rotate_left
   · show T X _ _ _
     refine T.condF rfl rfl ?_
     refine T.skip ?_
     show T X _ _ _
     refine T.region ?_
     refine TL.op1 (OpR.pure rfl) rfl ?_
     refine TL.op1 (OpR.pure rfl) rfl ?_
     refine TL.op1 (OpR.pure rfl) rfl ?_
     refine TL.op1 (OpR.rowLoadM (j := x30) e_walk_frame_int 6 hx31 rfl rfl rfl rfl) rfl ?_
     refine TL.op1 (OpR.pure rfl) rfl ?_
     refine TL.op1 (OpR.pure rfl) rfl ?_
     refine TL.op1 (OpR.pure rfl) rfl ?_
     refine TL.op0 (OpR.rowStoreM (j := x30) e_walk_frame_int (⟨x31.fN, x31.fFirst, w64 (x31.fNext + 1)⟩ : walk_frame_int) 6 hx31 rfl rfl rfl rfl rfl rfl rfl rfl rfl) ?_
     refine TL.nil ?_
     show T X _ _ _
     refine T.region ?_
     refine TL.op1 (OpR.pure rfl) rfl ?_
     refine TL.op1 (OpR.pure rfl) rfl ?_
     refine TL.op1 (OpR.pure rfl) rfl ?_
     refine TL.nil ?_
     obtain rfl := Option.some.inj q13
     exact ⟨m11, Nat.lt_succ_self _, _, Gst.only [0, 2, 5, 6] rfl, y26, (w64 (s9.1 + 1), (t25.set x30.toNat (⟨x31.fN, x31.fFirst, w64 (x31.fNext + 1)⟩ : walk_frame_int))), rfl, i14⟩
   refine OpsQ.yes (Want.plain rfl) rfl (OpR.pure rfl) ?_
   refine OpsQ.yes (Want.plain rfl) rfl (OpR.pure rfl) ?_
   refine OpsQ.yes (Want.plain rfl) rfl (OpR.pure rfl) ?_
   refine OpsQ.yes (Want.plain rfl) rfl (OpR.pure rfl) ?_
   refine OpsQ.yes (Want.plain rfl) rfl (OpR.pure rfl) ?_
   refine OpsQ.yes (Want.plain rfl) rfl (OpR.cast (OpR.rowLoad0M (j := x30) e_walk_frame_int 6 hx31 rfl rfl rfl rfl) (congrArg eOP (Option.some.inj hq32))) ?_
   refine OpsQ.yes (Want.plain rfl) rfl (OpR.pure rfl) ?_
   refine OpsQ.yes (Want.plain rfl) rfl (OpR.pure rfl) ?_
   refine OpsQ.yes (Want.plain rfl) rfl (OpR.pure rfl) ?_
   refine OpsQ.yes (Want.plain rfl) rfl (OpR.pure rfl) ?_
   refine OpsQ.yes (Want.plain rfl) rfl (OpR.pure rfl) ?_
   refine OpsQ.yes (Want.plain rfl) rfl (OpR.pure rfl) ?_
   refine OpsQ.yes (Want.plain rfl) rfl (OpR.rowLoadM (j := x30) e_walk_frame_int 6 hx31 rfl rfl rfl rfl) ?_
   refine OpsQ.yes (Want.plain rfl) rfl (OpR.indexM (eI .i64) hx37 rfl rfl rfl rfl rfl) ?_
   refine OpsQ.yes (Want.plain rfl) rfl (OpR.pure rfl) ?_
   refine OpsQ.yes (Want.plain rfl) rfl (OpR.callY [0, 4] rfl (walk_Index_int_r0_cx2 hx38) rfl rfl rfl (fun _ => rfl)) ?_
   refine OpsQ.yes (Want.plain rfl) rfl (OpR.pure rfl) ?_
   exact OpsQ.nil
 dsimp only at q13
 refine T.drawS drawsX (fun env36 => [.fn (.yield b0) [] [], .val (.int .i64 s9.1), .val (.pointer (some ⟨blk y26, x30.toNat * 3, none⟩)), .val (.pointer (some ⟨blk y26, x30.toNat * 3, none⟩)), .val (.pointer (some ⟨blk y26, x30.toNat * 3, none⟩)), .nod [.sl 1 (List.map eNP x35.fKids), .sl 1 (List.map (eI .i64) x35.fItems), .val (.int .i64 x35.fN)], .nod [.sl 1 (List.map eNP x35.fKids), .sl 1 (List.map (eI .i64) x35.fItems), .val (.int .i64 x35.fN)], .nod [.sl 1 (List.map (eI .i64) x35.fItems), .val (.int .i64 x35.fN)], .sl 1 (List.map (eI .i64) x35.fItems), .val (.pointer (some ⟨blk y26, x30.toNat * 3, none⟩)), .val (.pointer (some ⟨blk y26, x30.toNat * 3, none⟩)), .val (.pointer (some ⟨blk y26, x30.toNat * 3 + 2, none⟩)), .val (.int .i64 x31.fNext), .nod [.val (.int .i64 x37)], .val (.int .i64 x37), .val (.bool false), .val (.bool true)]) (fun D env36 => [(bif D 15 then .lp b0 .done (some (.ret)) [14, 15] rfA37_0 rfB37_0 [(6, .val (.pointer (some ⟨b4, 0, none⟩))), (5, .nod [.fn (.func 66) [] []])] 20 else .lp b0 .ready none [14, 15] rfA37_0 rfB37_0 [(6, .val (.pointer (some ⟨b4, 0, none⟩))), (5, .nod [.fn (.func 66) [] []])] 20), .var b1 [.val (.int .i64 a0)] 3, .var b2 [.val (.int .i64 a1)] 3, .var b3 [(eOP a2)] 27, (bif D 15 then .var b4 [.val (.int .i64 x38)] 3 else .var b4 [.val (.int .i64 a3)] 3), .var (blk p2) [.val y26] 109, .row y26 (List.map e_walk_frame_int t25) 3 114]) [0, 0, 0, 4, 12, 28, 60, 124, 252, 0, 512, 1536, 3584, 8188, 16380, 32767, 65535] [0, 2, 5, 6, 8, 37, 38, 39, 40, 41, 42, 43, 44, 45, 46, 47, 48, 49, 50, 51, 52, 53, 54] (fun env36 => [.lp b0 .done (some (.ret)) [14, 15] rfA37_0 rfB37_0 [(6, .val (.pointer (some ⟨b4, 0, none⟩))), (5, .nod [.fn (.func 66) [] []])] 20, .var b1 [.val (.int .i64 a0)] 3, .var b2 [.val (.int .i64 a1)] 3, .var b3 [(eOP a2)] 27, .var b4 [.val (.int .i64 x38)] 3, .var (blk p2) [.val y26] 109, .row y26 (List.map e_walk_frame_int t25) 3 114]) (by decide +kernel) (by decide +kernel) (fun _ => rfl) (fun _ => rfl) ?_ (fun _ => rfl) (fun _ => rfl) ?_
 rotate_left
 · intro env36
   show T X _ _ _
   refine T.condT rfl rfl ?_
   refine T.ret ?_
   obtain rfl := Option.some.inj q13
   obtain rfl : _ = _ := i14
   obtain rfl := Option.some.inj h0
   exact PostG.retP (ks := [0, 1, 2, 3, 4]) (Gst.trans (Gst.only [] rfl) (Gst.pick [0, 1, 2, 3, 4] rfl rfl)) undef ResL.nil rfl rfl rfl rfl
 refine oS (d := .fn (.yield b0) [] []) (fun _ => Want.plain rfl) (fun _ => rfl) (fun _ _ _ => rfl) (fun _ _ => OpR.pure rfl) (fun _ _ _ _ _ _ _ => rfl) ?_
 refine oS (d := .val (.int .i64 s9.1)) (fun _ => Want.plain rfl) (fun _ => rfl) (fun _ _ _ => rfl) (fun _ _ => OpR.pure rfl) (fun _ _ _ _ _ _ _ => rfl) ?_
 refine oS (d := .val (.pointer (some ⟨blk y26, x30.toNat * 3, none⟩))) (fun _ => Want.plain rfl) (fun _ => rfl) (fun _ _ _ => rfl) (fun _ _ => OpR.pure rfl) (fun _ _ _ _ _ _ _ => rfl) ?_
 refine oS (d := .val (.pointer (some ⟨blk y26, x30.toNat * 3, none⟩))) (fun _ => Want.plain rfl) (fun _ => rfl) (fun _ _ _ => rfl) (fun _ _ => OpR.pure rfl) (fun _ _ _ _ _ _ _ => rfl) ?_
 refine oS (d := .val (.pointer (some ⟨blk y26, x30.toNat * 3, none⟩))) (fun _ => Want.plain rfl) (fun _ => rfl) (fun _ _ _ => rfl) (fun _ _ => OpR.pure rfl) (fun _ _ _ _ _ _ _ => rfl) ?_
 refine oS (d := .nod [.sl 1 (List.map eNP x35.fKids), .sl 1 (List.map (eI .i64) x35.fItems), .val (.int .i64 x35.fN)]) (fun _ => Want.plain rfl) (fun _ => rfl) (fun _ _ _ => rfl) (fun _ _ => OpR.cast (OpR.rowLoad0M (j := x30) e_walk_frame_int 6 hx31 rfl rfl rfl rfl) (congrArg eOP (Option.some.inj hq32))) (fun _ _ _ _ _ _ _ => rfl) ?_
 refine oS (d := .nod [.sl 1 (List.map eNP x35.fKids), .sl 1 (List.map (eI .i64) x35.fItems), .val (.int .i64 x35.fN)]) (fun _ => Want.plain rfl) (fun _ => rfl) (fun _ _ _ => rfl) (fun _ _ => OpR.pure rfl) (fun _ _ _ _ _ _ _ => rfl) ?_
 refine oS (d := .nod [.sl 1 (List.map (eI .i64) x35.fItems), .val (.int .i64 x35.fN)]) (fun _ => Want.plain rfl) (fun _ => rfl) (fun _ _ _ => rfl) (fun _ _ => OpR.pure rfl) (fun _ _ _ _ _ _ _ => rfl) ?_
 refine oS (d := .sl 1 (List.map (eI .i64) x35.fItems)) (fun _ => Want.plain rfl) (fun _ => rfl) (fun _ _ _ => rfl) (fun _ _ => OpR.pure rfl) (fun _ _ _ _ _ _ _ => rfl) ?_
 refine oS (d := .val (.pointer (some ⟨blk y26, x30.toNat * 3, none⟩))) (fun _ => Want.plain rfl) (fun _ => rfl) (fun _ _ _ => rfl) (fun _ _ => OpR.pure rfl) (fun _ _ _ _ _ _ _ => rfl) ?_
 refine oS (d := .val (.pointer (some ⟨blk y26, x30.toNat * 3, none⟩))) (fun _ => Want.plain rfl) (fun _ => rfl) (fun _ _ _ => rfl) (fun _ _ => OpR.pure rfl) (fun _ _ _ _ _ _ _ => rfl) ?_
 refine oS (d := .val (.pointer (some ⟨blk y26, x30.toNat * 3 + 2, none⟩))) (fun _ => Want.plain rfl) (fun _ => rfl) (fun _ _ _ => rfl) (fun _ _ => OpR.pure rfl) (fun _ _ _ _ _ _ _ => rfl) ?_
 refine oS (d := .val (.int .i64 x31.fNext)) (fun _ => Want.plain rfl) (fun _ => rfl) (fun _ _ _ => rfl) (fun _ _ => OpR.rowLoadM (j := x30) e_walk_frame_int 6 hx31 rfl rfl rfl rfl) (fun _ _ _ _ _ _ _ => rfl) ?_
 refine oS (d := .nod [.val (.int .i64 x37)]) (fun _ => Want.plain rfl) (fun _ => rfl) (fun _ _ _ => rfl) (fun _ _ => OpR.indexM (eI .i64) hx37 rfl rfl rfl rfl rfl) (fun _ _ _ _ _ _ _ => rfl) ?_
 refine oS (d := .val (.int .i64 x37)) (fun _ => Want.plain rfl) (fun _ => rfl) (fun _ _ _ => rfl) (fun _ _ => OpR.pure rfl) (fun _ _ _ _ _ _ _ => rfl) ?_
 refine OpsS.cons' true ?_ (fun _ _ _ _ _ _ _ => rfl) ?_
 · intro D env36 hA
   exact OpS.yes (o0 := [.lp b0 .ready none [14, 15] rfA37_0 rfB37_0 [(6, .val (.pointer (some ⟨b4, 0, none⟩))), (5, .nod [.fn (.func 66) [] []])] 20, .var b1 [.val (.int .i64 a0)] 3, .var b2 [.val (.int .i64 a1)] 3, .var b3 [(eOP a2)] 27, .var b4 [.val (.int .i64 a3)] 3, .var (blk p2) [.val y26] 109, .row y26 (List.map e_walk_frame_int t25) 3 114]) (o1 := fun x => [.lp b0 .done (some (.ret)) [14, 15] rfA37_0 rfB37_0 [(6, .val (.pointer (some ⟨b4, 0, none⟩))), (5, .nod [.fn (.func 66) [] []])] 20, .var b1 [.val (.int .i64 a0)] 3, .var b2 [.val (.int .i64 a1)] 3, .var b3 [(eOP a2)] 27, .var b4 [.val (.int .i64 x38)] 3, .var (blk p2) [.val y26] 109, .row y26 (List.map e_walk_frame_int t25) 3 114]) (d := fun x => .val (.bool false)) (Want.plain rfl) (by first | rfl | simp only [hA.me, cond_true, cond_false, List.cons_append, List.nil_append, List.append_nil]) (fun x => by first | rfl | simp only [ins_self, upd_self, hA.me, cond_true, cond_false, List.cons_append, List.nil_append, List.append_nil]) (fun x => rfl) (OpR.callY [0, 4] rfl (walk_Index_int_r0_cx1 hx38) rfl rfl rfl (fun _ => rfl))
 refine oS (d := .val (.bool true)) (fun _ => Want.plain rfl) (fun _ => rfl) (fun _ _ _ => rfl) (fun _ _ => OpR.pure rfl) (fun _ _ _ _ _ _ _ => rfl) ?_
 exact trivial
theorem walk_Range_int_1_2_cx1 {a0 : Int} {a1 : Int} {a2 : Option NP} {a3 : Int} {b0 : Nat} {b1 : Nat} {b2 : Nat} {b3 : Nat} {b4 : Nat} {res : Unit} (h0 : walk_Range_int_1_2 a0 a1 a2 a3 = some (Sum.inl res)) : CallF X 68 [.fn (.yield b0) [] [], .val (.pointer (some ⟨b1, 0, none⟩)), .val (.pointer (some ⟨b2, 0, none⟩)), .val (.pointer (some ⟨b3, 0, none⟩))] [.lp b0 .ready none [14, 15] rfA37_0 rfB37_0 [(6, .val (.pointer (some ⟨b4, 0, none⟩))), (5, .nod [.fn (.func 66) [] []])] 20, .var b1 [.val (.int .i64 a0)] 3, .var b2 [.val (.int .i64 a1)] 3, .var b3 [(eOP a2)] 27, .var b4 [.val (.int .i64 a3)] 3] (fun x => .tup []) (fun x => [.lp b0 .ready none [14, 15] rfA37_0 rfB37_0 [(6, .val (.pointer (some ⟨b4, 0, none⟩))), (5, .nod [.fn (.func 66) [] []])] 20, .var b1 [.val (.int .i64 a0)] 3, .var b2 [.val (.int .i64 a1)] 3, .var b3 [(eOP a2)] 27, .var b4 [.val (.int .i64 a3)] 3]) := walk_Range_int_1_2_c h0
theorem walk_Range_int_1_2_cx2 {a0 : Int} {a1 : Int} {a2 : Option NP} {a3 : Int} {b0 : Nat} {b1 : Nat} {b2 : Nat} {b3 : Nat} {b4 : Nat} {res : Int} (h0 : walk_Range_int_1_2 a0 a1 a2 a3 = some (Sum.inr res)) : CallF X 68 [.fn (.yield b0) [] [], .val (.pointer (some ⟨b1, 0, none⟩)), .val (.pointer (some ⟨b2, 0, none⟩)), .val (.pointer (some ⟨b3, 0, none⟩))] [.lp b0 .ready none [14, 15] rfA37_0 rfB37_0 [(6, .val (.pointer (some ⟨b4, 0, none⟩))), (5, .nod [.fn (.func 66) [] []])] 20, .var b1 [.val (.int .i64 a0)] 3, .var b2 [.val (.int .i64 a1)] 3, .var b3 [(eOP a2)] 27, .var b4 [.val (.int .i64 a3)] 3] (fun x => .tup []) (fun x => [.lp b0 .done (some (.ret)) [14, 15] rfA37_0 rfB37_0 [(6, .val (.pointer (some ⟨b4, 0, none⟩))), (5, .nod [.fn (.func 66) [] []])] 20, .var b1 [.val (.int .i64 a0)] 3, .var b2 [.val (.int .i64 a1)] 3, .var b3 [(eOP a2)] 27, .var b4 [.val (.int .i64 res)] 3]) := walk_Range_int_1_2_c h0
noncomputable def walk_Index_int (a0 : tree_Tree_int) (a1 : Int) : Option Int :=
  bnd (tree_Tree_int_Len a0) fun x3 =>
  bnd (walk_Range_int a0 a1 x3) fun x4 =>
  bnd (walk_Range_int_1_2 x4.1 x4.2.1 x4.2.2 0) fun x6 =>
  match x6 with
  | .inl x6 =>
      some (-1)
  | .inr x6 =>
      some x6
set_option maxHeartbeats 4000000 in
theorem walk_Index_int_c {a0 : tree_Tree_int} {a1 : Int} {res : Int} (h0 : walk_Index_int a0 a1 = some res) : CallF X 37 [.agg [(eOP a0.fRoot)], .val (.int .i64 a1), .fn (.func 66) [] []] [] (fun x => .val (.int .i64 res)) (fun x => []) := by
 unfold walk_Index_int at h0
 refine CallF.mkG (X := X) rfl Try.func37 rfl rfl Try.ntmps37 rfl rfl ?_
 refine T.seq ?_
 refine T.region ?_
 refine TL.op1 (OpR.boxImm rfl rfl) rfl ?_
 refine TL.op1 (OpR.boxImm rfl rfl) rfl ?_
 refine TL.op (OpR.alloc rfl rfl (fun _ => rfl)) rfl (fun p1 => ?_)
 refine TL.nil ?_
 show T X _ _ _
 refine T.seq ?_
 refine T.seq ?_
 obtain ⟨x3, hx3, h0⟩ := bnd_some h0
 obtain ⟨x4, hx4, h0⟩ := bnd_some h0
 refine T.drawS drawsX (fun env2 => [.agg [(eOP a0.fRoot)], .val (.int .i64 a1), .agg [(eOP a0.fRoot)], .val (.int .i64 x3), .fn (.func 68) [] [.val (.pointer (some ⟨(blk (vn (env2 4) 0)), 0, none⟩)), .val (.pointer (some ⟨(blk (vn (env2 4) 1)), 0, none⟩)), .val (.pointer (some ⟨(blk (vn (env2 4) 2)), 0, none⟩))]]) (fun D env2 => [.var (blk p1) [.val (.int .i64 0)] 3] ++ (bif D 4 then [.var (blk (vn (env2 4) 0)) [.val (.int .i64 x4.1)] 3] else []) ++ (bif D 4 then [.var (blk (vn (env2 4) 1)) [.val (.int .i64 x4.2.1)] 3] else []) ++ (bif D 4 then [.var (blk (vn (env2 4) 2)) [(eOP x4.2.2)] 27] else [])) [0, 0, 0, 4, 15] [0, 1, 2, 3, 5, 6, 9, 10, 11, 12, 13] (fun env2 => [.var (blk p1) [.val (.int .i64 0)] 3, .var (blk (vn (env2 4) 0)) [.val (.int .i64 x4.1)] 3, .var (blk (vn (env2 4) 1)) [.val (.int .i64 x4.2.1)] 3, .var (blk (vn (env2 4) 2)) [(eOP x4.2.2)] 27]) (by decide +kernel) (by decide +kernel) (fun _ => rfl) (fun _ => rfl) ?_ (fun _ => rfl) (fun _ => rfl) ?_
 rotate_left
 · intro env2
   show T X _ _ _
   refine T.block ?_
   obtain ⟨x6, hx6, h0⟩ := bnd_some h0
   rcases x6 with x6 | x6
   rotate_left
   · dsimp only at h0
     refine T.rangeJ (A := rfA37_0) (B := rfB37_0) (.ret) [5, 6] [1, 2, 3, 0] (.inl rfl) rfl rfl rfl rfl rfl fn68 rfl rfl (fun l5 => (walk_Range_int_1_2_cx2 hx6)) (fun _ => rfl) (fun w8 => ?_)
     refine T.ret ?_
     obtain rfl := Option.some.inj h0
     exact PostG.retP (ks := []) (Gst.trans (Gst.only [6] rfl) (Gst.pick [0] rfl rfl)) undef (ResL.cons (ResV.var 0 rfl rfl rfl rfl) ResL.nil) rfl rfl rfl rfl
   dsimp only at h0
   refine T.rangeN (A := rfA37_0) (B := rfB37_0) [5, 6] [1, 2, 3, 0] (.inl rfl) rfl rfl rfl rfl rfl fn68 rfl rfl (fun l5 => (walk_Range_int_1_2_cx1 hx6)) (fun _ => rfl) (fun w7 => ?_)
   show T X _ _ _
   refine T.seq ?_
   refine T.region ?_
   refine TL.op0 (OpR.store 0 rfl rfl rfl rfl rfl rfl rfl rfl) ?_
   refine TL.nil ?_
   show T X _ _ _
   refine T.ret ?_
   obtain rfl := Option.some.inj h0
   exact PostG.retP (ks := []) (Gst.trans (Gst.only [6] rfl) (Gst.pick [0] rfl rfl)) undef (ResL.cons (ResV.var 0 rfl rfl rfl rfl) ResL.nil) rfl rfl rfl rfl
 refine oS (d := .agg [(eOP a0.fRoot)]) (fun _ => Want.plain rfl) (fun _ => rfl) (fun _ _ _ => rfl) (fun _ _ => OpR.pure rfl) (fun _ _ _ _ _ _ _ => rfl) ?_
 refine oS (d := .val (.int .i64 a1)) (fun _ => Want.plain rfl) (fun _ => rfl) (fun _ _ _ => rfl) (fun _ _ => OpR.pure rfl) (fun _ _ _ _ _ _ _ => rfl) ?_
 refine oS (d := .agg [(eOP a0.fRoot)]) (fun _ => Want.plain rfl) (fun _ => rfl) (fun _ _ _ => rfl) (fun _ _ => OpR.pure rfl) (fun _ _ _ _ _ _ _ => rfl) ?_
 refine oS (d := .val (.int .i64 x3)) (fun _ => Want.plain rfl) (fun _ => rfl) (fun _ _ _ => rfl) (fun _ _ => OpR.call0 fn45 (tree_Tree_int_Len_c hx3) rfl) (fun _ _ _ _ _ _ _ => rfl) ?_
 refine OpsS.cons' true ?_ (fun D hA env2 x j hj hD => match j, hj, hD with | 0, _, _ => rfl | 1, _, _ => rfl | 2, _, _ => rfl | 3, _, _ => rfl | 4, hj, _ => absurd rfl hj | _ + 5, _, _ => rfl) ?_
 · intro D env2 hA
   exact OpS.yes (o0 := [.var (blk p1) [.val (.int .i64 0)] 3]) (o1 := fun x => [.var (blk p1) [.val (.int .i64 0)] 3, .var (blk (vn x 0)) [.val (.int .i64 x4.1)] 3, .var (blk (vn x 1)) [.val (.int .i64 x4.2.1)] 3, .var (blk (vn x 2)) [(eOP x4.2.2)] 27]) (d := fun x => .fn (.func 68) [] [.val (.pointer (some ⟨(blk (vn x 0)), 0, none⟩)), .val (.pointer (some ⟨(blk (vn x 1)), 0, none⟩)), .val (.pointer (some ⟨(blk (vn x 2)), 0, none⟩))]) (Want.plain rfl) (by first | rfl | simp only [hA.me, cond_true, cond_false, List.cons_append, List.nil_append, List.append_nil]) (fun x => by first | rfl | simp only [ins_self, upd_self, hA.me, cond_true, cond_false, List.cons_append, List.nil_append, List.append_nil]) (fun x => rfl) (OpR.call [] fn40 (walk_Range_int_c hx4) rfl rfl rfl (fun _ => rfl))
 exact trivial
noncomputable def law10_awake : Option Bool :=
  bnd (tree_Of_int [1, 2, 3, 4]) fun x1 =>
  bnd (bnd (walk_Move_int x1 0 1 3) fun x4 =>
  bnd (walk_All_int x4) fun x5 =>
  bnd (ref09_Same x5 [2, 3, 4, 1]) fun x6 =>
  if x6 = true then
    bnd (walk_Index_int x1 0) fun x8 =>
    some (x8 == 2)
  else
    some false : Option Bool) fun t3 =>
  some t3
set_option maxHeartbeats 4000000 in
theorem law10_awake_c {res : Bool} (h0 : law10_awake = some res) : CallF X 33 [] [] (fun x => .val (.bool res)) (fun x => []) := by
 unfold law10_awake at h0
 refine CallF.mkG (X := X) rfl Try.func33 rfl rfl Try.ntmps33 rfl rfl ?_
 refine T.seq ?_
 refine T.region ?_
 refine TL.op1 (OpR.pure rfl) rfl ?_
 refine TL.nil ?_
 show T X _ _ _
 refine T.seq ?_
 refine T.region ?_
 refine TL.op1 (OpR.lit rfl rfl rfl rfl rfl rfl rfl) rfl ?_
 obtain ⟨x1, hx1, h0⟩ := bnd_some h0
 refine TL.op1 (OpR.call0 fn12 (tree_Of_int_c hx1) rfl) rfl ?_
 refine TL.op (OpR.alloc rfl rfl (fun _ => rfl)) rfl (fun p2 => ?_)
 refine TL.op0 (OpR.store 0 rfl rfl rfl rfl rfl rfl rfl rfl) ?_
 refine TL.nil ?_
 show T X _ _ _
 refine T.seq ?_
 obtain ⟨t3, ht3, h0⟩ := bnd_some h0
 refine T.cutC (fun S' => S' = ⟨[(0, .val (.bool t3))], [], 14⟩) (fun _ h => h) ?_ ?_
 rotate_left
 · rintro _ rfl
   show T X _ _ _
   refine T.ret ?_
   obtain rfl := Option.some.inj h0
   exact PostG.retP (ks := []) (Gst.only [0] rfl) undef (ResL.cons (ResV.tmp rfl) ResL.nil) rfl rfl rfl rfl
 refine T.region ?_
 refine TL.op1 (OpR.loadPtr 0 rfl rfl rfl rfl) rfl ?_
 obtain ⟨x4, hx4, ht3⟩ := bnd_some ht3
 refine TL.op1 (OpR.call0 fn31 (walk_Move_int_c hx4) rfl) rfl ?_
 obtain ⟨x5, hx5, ht3⟩ := bnd_some ht3
 refine TL.op1 (OpR.call0 fn42 (walk_All_int_c hx5) rfl) rfl ?_
 refine TL.op1 (OpR.lit rfl rfl rfl rfl rfl rfl rfl) rfl ?_
 obtain ⟨x6, hx6, ht3⟩ := bnd_some ht3
 refine TL.op1 (OpR.call0 fn15 (ref09_Same_c hx6) rfl) rfl ?_
 refine TL.op1 (OpR.pure rfl) rfl ?_
 rcases ite_some ht3 with ⟨c7, ht3⟩ | ⟨c7, ht3⟩
 rotate_left
 · refine TL.off rfl rfl rfl rfl (eq_false_of_ne_true c7) rfl rfl ?_
   refine TL.off rfl rfl rfl rfl (eq_false_of_ne_true c7) rfl rfl ?_
   refine TL.off rfl rfl rfl rfl (eq_false_of_ne_true c7) rfl rfl ?_
   refine TL.op1 (OpR.pickF rfl (eq_false_of_ne_true c7) rfl) rfl ?_
   refine TL.op1 (OpR.pure rfl) rfl ?_
   refine TL.nil ?_
   obtain rfl := Option.some.inj ht3
   exact ⟨_, Gst.trans (Gst.only [0] rfl) (Gst.pick [] rfl rfl), rfl⟩
 refine TL.on rfl rfl rfl rfl (c7) ?_
 refine TL.op1 (OpR.loadPtr 0 rfl rfl rfl rfl) rfl ?_
 refine TL.on rfl rfl rfl rfl (c7) ?_
 obtain ⟨x8, hx8, ht3⟩ := bnd_some ht3
 refine TL.op1 (OpR.call0 fn37 (walk_Index_int_c hx8) rfl) rfl ?_
 refine TL.on rfl rfl rfl rfl (c7) ?_
 refine TL.op1 (OpR.pure rfl) rfl ?_
 refine TL.op1 (OpR.pickT rfl (c7) rfl) rfl ?_
 refine TL.op1 (OpR.pure rfl) rfl ?_
 refine TL.nil ?_
 obtain rfl := Option.some.inj ht3
 exact ⟨_, Gst.trans (Gst.only [0] rfl) (Gst.pick [] rfl rfl), rfl⟩
end Go.Proofs.Ytkmdfaodbiknlaa.S
