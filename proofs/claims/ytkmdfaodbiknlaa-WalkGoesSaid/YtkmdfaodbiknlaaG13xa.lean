/- Printed by a program of this session's own (gen.py): Lean functions for Go functions, and the proofs that the Go code comes to their answers. -/
import Derived.Test.YtkmdfaodbiknlaaG1xa
import Derived.Test.YtkmdfaodbiknlaaG2xa
import Derived.Test.YtkmdfaodbiknlaaG10xa
import Derived.Test.YtkmdfaodbiknlaaG11xa
import Derived.Test.YtkmdfaodbiknlaaG3xa
import Derived.Test.YtkmdfaodbiknlaaG12xa
import Derived.Test.YtkmdfaodbiknlaaG5xa
set_option linter.unusedVariables false
set_option linter.unusedSimpArgs false
set_option maxRecDepth 20000
namespace Go.Proofs.Ytkmdfaodbiknlaa.S
open Go Go.Sm
attribute [local irreducible] T TL OpR CallT iter loop
noncomputable def law09_TreeJoins.l1 (x1 : (List Int)) (s14 : Int × (List Int)) : Option (Lp (Int × (List Int)) (List Int)) :=
  if s14.1 < (x1.length : Int) then
    bnd (idx x1 s14.1) fun x23 =>
    bnd (app 8 s14.2 [x23]) fun x24 =>
    some (Lp.next (w64 (s14.1 + 1), x24))
  else
    some (Lp.done s14.2)
noncomputable def law09_TreeJoins.l2 (x2 : (List Int)) (s29 : Int × (List Int)) : Option (Lp (Int × (List Int)) (List Int)) :=
  if s29.1 < (x2.length : Int) then
    bnd (idx x2 s29.1) fun x38 =>
    bnd (app 8 s29.2 [x38]) fun x39 =>
    some (Lp.next (w64 (s29.1 + 1), x39))
  else
    some (Lp.done s29.2)
noncomputable def law09_TreeJoins (a0 : List Int) (a1 : List Int) (a2 : Int) : Option Bool :=
  bnd (law09_few a0) fun x1 =>
  bnd (law09_few a1) fun x2 =>
  bnd (tree_Of_int x1) fun x3 =>
  bnd (tree_Of_int x2) fun x4 =>
  bnd (tree_Tree_int_Split x3 a2) fun x7 =>
  bnd (ref09_Held x1 a2) fun x10 =>
  bnd (loop (law09_TreeJoins.l1 x1) (0, []) : Option (List Int)) fun t11 =>
  bnd (loop (law09_TreeJoins.l2 x2) (0, t11) : Option (List Int)) fun t26 =>
  bnd (bnd (cut x1 0 x10) fun x43 =>
  bnd (law09_Fits x7.1 x43) fun x44 =>
  if x44 = true then
    bnd (cut x1 x10 (x1.length : Int)) fun x46 =>
    bnd (law09_Fits x7.2 x46) fun x47 =>
    if x47 = true then
      bnd (tree_Join_int x3 x4) fun x49 =>
      bnd (law09_Fits x49 t26) fun x50 =>
      if x50 = true then
        bnd (tree_Join_int x7.1 x7.2) fun x52 =>
        bnd (law09_Fits x52 x1) fun x53 =>
        if x53 = true then
          bnd (law09_Fits x3 x1) fun x55 =>
          if x55 = true then
            bnd (law09_awake) fun x57 =>
            some x57
          else
            some false
        else
          some false
      else
        some false
    else
      some false
  else
    some false : Option Bool) fun t41 =>
  some t41
set_option maxHeartbeats 4000000 in
theorem law09_TreeJoins_c {a0 : List Int} {a1 : List Int} {a2 : Int} {res : Bool} (h0 : law09_TreeJoins a0 a1 a2 = some res) : CallF X 6 [.sl 1 (List.map (eI .i64) a0), .sl 1 (List.map (eI .i64) a1), .val (.int .i64 a2)] [] (fun x => .val (.bool res)) (fun x => []) := by
 unfold law09_TreeJoins at h0
 refine CallF.mkG (X := X) rfl Try.func6 rfl rfl Try.ntmps6 rfl rfl ?_
 refine T.seq ?_
 refine T.region ?_
 refine TL.op1 (OpR.pure rfl) rfl ?_
 refine TL.nil ?_
 show T X _ _ _
 refine T.seq ?_
 refine T.region ?_
 refine TL.op1 (OpR.pure rfl) rfl ?_
 obtain ⟨x1, hx1, h0⟩ := bnd_some h0
 refine TL.op1 (OpR.call0 fn11 (law09_few_c hx1) rfl) rfl ?_
 refine TL.op1 (OpR.pure rfl) rfl ?_
 obtain ⟨x2, hx2, h0⟩ := bnd_some h0
 refine TL.op1 (OpR.call0 fn11 (law09_few_c hx2) rfl) rfl ?_
 refine TL.op1 (OpR.pure rfl) rfl ?_
 refine TL.op1 (OpR.pure rfl) rfl ?_
 refine TL.nil ?_
 show T X _ _ _
 refine T.seq ?_
 refine T.region ?_
 refine TL.op1 (OpR.pure rfl) rfl ?_
 obtain ⟨x3, hx3, h0⟩ := bnd_some h0
 refine TL.op1 (OpR.call0 fn12 (tree_Of_int_c hx3) rfl) rfl ?_
 refine TL.op1 (OpR.pure rfl) rfl ?_
 obtain ⟨x4, hx4, h0⟩ := bnd_some h0
 refine TL.op1 (OpR.call0 fn12 (tree_Of_int_c hx4) rfl) rfl ?_
 refine TL.op (OpR.alloc rfl rfl (fun _ => rfl)) rfl (fun p5 => ?_)
 refine TL.op (OpR.alloc rfl rfl (fun _ => rfl)) rfl (fun p6 => ?_)
 refine TL.op0 (OpR.store 0 rfl rfl rfl rfl rfl rfl rfl rfl) ?_
 refine TL.op0 (OpR.store 1 rfl rfl rfl rfl rfl rfl rfl rfl) ?_
 refine TL.nil ?_
 show T X _ _ _
 refine T.seq ?_
 refine T.region ?_
 refine TL.op1 (OpR.loadPtr 0 rfl rfl rfl rfl) rfl ?_
 refine TL.op1 (OpR.pure rfl) rfl ?_
 obtain ⟨x7, hx7, h0⟩ := bnd_some h0
 refine TL.op1 (OpR.call0 fn23 (tree_Tree_int_Split_c hx7) rfl) rfl ?_
 refine TL.op1 (OpR.pure rfl) rfl ?_
 refine TL.op1 (OpR.pure rfl) rfl ?_
 refine TL.op1 (OpR.pure rfl) rfl ?_
 refine TL.op (OpR.alloc rfl rfl (fun _ => rfl)) rfl (fun p8 => ?_)
 refine TL.op (OpR.alloc rfl rfl (fun _ => rfl)) rfl (fun p9 => ?_)
 refine TL.op0 (OpR.store 2 rfl rfl rfl rfl rfl rfl rfl rfl) ?_
 refine TL.op0 (OpR.store 3 rfl rfl rfl rfl rfl rfl rfl rfl) ?_
 refine TL.nil ?_
 show T X _ _ _
 refine T.seq ?_
 refine T.region ?_
 refine TL.op1 (OpR.pure rfl) rfl ?_
 refine TL.op1 (OpR.pure rfl) rfl ?_
 obtain ⟨x10, hx10, h0⟩ := bnd_some h0
 refine TL.op1 (OpR.call0 fn24 (ref09_Held_c hx10) rfl) rfl ?_
 refine TL.op1 (OpR.pure rfl) rfl ?_
 refine TL.nil ?_
 show T X _ _ _
 refine T.seq ?_
 refine T.region ?_
 refine TL.op1 (OpR.pure rfl) rfl ?_
 refine TL.nil ?_
 show T X _ _ _
 refine T.seq ?_
 refine T.seq ?_
 refine T.region ?_
 refine TL.op1 (OpR.pure rfl) rfl ?_
 refine TL.op1 (OpR.cast (OpR.pure rfl) (intE (lenM _ _))) rfl ?_
 refine TL.op1 (OpR.pure rfl) rfl ?_
 refine TL.nil ?_
 show T X _ _ _
 obtain ⟨t11, ht11, h0⟩ := bnd_some h0
 refine T.cutC (fun S' => ∃ y12 : Value, S' = ⟨[(12, .val y12), (11, .val (.int .i64 x10)), (10, .val (.pointer (some ⟨(blk p9), 0, none⟩))), (9, .val (.pointer (some ⟨(blk p8), 0, none⟩))), (8, .val (.pointer (some ⟨(blk p6), 0, none⟩))), (7, .val (.pointer (some ⟨(blk p5), 0, none⟩))), (6, .val (.bool false)), (1, .sl 1 (List.map (eI .i64) x2)), (0, .sl 1 (List.map (eI .i64) x1))], [.var (blk p5) [(eOP x3.fRoot)] 27, .var (blk p6) [(eOP x4.fRoot)] 27, .var (blk p8) [(eOP x7.1.fRoot)] 27, .var (blk p9) [(eOP x7.2.fRoot)] 27, .row y12 (List.map (eI .i64) t11) 1 3], 90⟩) (fun _ h => h) ?_ ?_
 · refine T.block ?_
   obtain ⟨n15, n20⟩ := loop_some ht11
   refine T.loop (fun n S' => ∃ S'', Gst S' S'' ∧ ∃ y13 : Value, ∃ s14 : Int × (List Int), S'' = ⟨[(36, .val (.int .i64 s14.1)), (35, .val (.int .i64 (x1.length : Int))), (34, .sl 1 (List.map (eI .i64) x1)), (12, .val y13), (11, .val (.int .i64 x10)), (10, .val (.pointer (some ⟨(blk p9), 0, none⟩))), (9, .val (.pointer (some ⟨(blk p8), 0, none⟩))), (8, .val (.pointer (some ⟨(blk p6), 0, none⟩))), (7, .val (.pointer (some ⟨(blk p5), 0, none⟩))), (6, .val (.bool false)), (1, .sl 1 (List.map (eI .i64) x2)), (0, .sl 1 (List.map (eI .i64) x1))], [.var (blk p5) [(eOP x3.fRoot)] 27, .var (blk p6) [(eOP x4.fRoot)] 27, .var (blk p8) [(eOP x7.1.fRoot)] 27, .var (blk p9) [(eOP x7.2.fRoot)] 27, .row y13 (List.map (eI .i64) s14.2) 1 3], 90⟩ ∧ iter (law09_TreeJoins.l1 x1) n s14 = some t11) n15 ?_ ?_
   · exact ⟨_, Gst.trans (Gst.only [0, 1, 6, 7, 8, 9, 10, 11, 12, 34, 35, 36] rfl) (Gst.nilRow (ow := [.var (blk p5) [(eOP x3.fRoot)] 27, .var (blk p6) [(eOP x4.fRoot)] 27, .var (blk p8) [(eOP x7.1.fRoot)] 27, .var (blk p9) [(eOP x7.2.fRoot)] 27]) 1 3 rfl), (.slice none 0 0), (0, []), rfl, n20⟩
   rintro n15 _ ⟨_, g, y13, s14, rfl, i19⟩
   refine T.ghost g ?_
   obtain ⟨m16, q17, rfl, q18, i19⟩ := iter_succ i19
   unfold law09_TreeJoins.l1 at q18
   refine T.seq ?_
   refine T.region ?_
   refine TL.op1 (OpR.pure rfl) rfl ?_
   refine TL.nil ?_
   show T X _ _ _
   refine T.seq ?_
   rcases ite_some q18 with ⟨c22, q18⟩ | ⟨c22, q18⟩
   rotate_left
   · refine T.condF rfl (decide_eq_false c22) ?_
     refine T.exit ?_
     obtain rfl := Option.some.inj q18
     obtain rfl : _ = _ := i19
     exact ⟨_, Gst.only [0, 1, 6, 7, 8, 9, 10, 11, 12] rfl, y13, rfl⟩
   refine T.condT rfl (decide_eq_true c22) ?_
   refine T.skip ?_
   show T X _ _ _
   refine T.seq ?_
   refine T.block ?_
   refine T.seq ?_
   refine T.region ?_
   obtain ⟨x23, hx23, q18⟩ := bnd_some q18
   refine TL.op1 (OpR.indexM (eI .i64) hx23 rfl rfl rfl rfl rfl) rfl ?_
   refine TL.op1 (OpR.pure rfl) rfl ?_
   refine TL.op1 (OpR.pure rfl) rfl ?_
   refine TL.nil ?_
   show T X _ _ _
   refine T.region ?_
   refine TL.op1 (OpR.pure rfl) rfl ?_
   refine TL.op1 (OpR.pure rfl) rfl ?_
   refine TL.op1 (OpR.lit rfl rfl rfl rfl rfl rfl rfl) rfl ?_
   obtain ⟨x24, hx24, q18⟩ := bnd_some q18
   refine TL.op (OpR.appendM (m := [x23]) (eI .i64) 4 hx24 rfl rfl rfl rfl rfl rfl rfl rfl rfl (fun _ => rfl)) rfl (fun v25 => ?_)
   refine TL.op1 (OpR.pure rfl) rfl ?_
   refine TL.nil ?_
   show T X _ _ _
   refine T.region ?_
   refine TL.op1 (OpR.pure rfl) rfl ?_
   refine TL.op1 (OpR.pure rfl) rfl ?_
   refine TL.nil ?_
   obtain rfl := Option.some.inj q18
   exact ⟨m16, Nat.lt_succ_self _, _, Gst.only [0, 1, 6, 7, 8, 9, 10, 11, 12, 34, 35, 36] rfl, v25, (w64 (s14.1 + 1), x24), rfl, i19⟩
 rintro _ ⟨y12, rfl⟩
 show T X _ _ _
 refine T.seq ?_
 refine T.seq ?_
 refine T.region ?_
 refine TL.op1 (OpR.pure rfl) rfl ?_
 refine TL.op1 (OpR.cast (OpR.pure rfl) (intE (lenM _ _))) rfl ?_
 refine TL.op1 (OpR.pure rfl) rfl ?_
 refine TL.nil ?_
 show T X _ _ _
 obtain ⟨t26, ht26, h0⟩ := bnd_some h0
 refine T.cutC (fun S' => ∃ y27 : Value, S' = ⟨[(12, .val y27), (11, .val (.int .i64 x10)), (10, .val (.pointer (some ⟨(blk p9), 0, none⟩))), (9, .val (.pointer (some ⟨(blk p8), 0, none⟩))), (8, .val (.pointer (some ⟨(blk p6), 0, none⟩))), (7, .val (.pointer (some ⟨(blk p5), 0, none⟩))), (6, .val (.bool false)), (0, .sl 1 (List.map (eI .i64) x1))], [.var (blk p5) [(eOP x3.fRoot)] 27, .var (blk p6) [(eOP x4.fRoot)] 27, .var (blk p8) [(eOP x7.1.fRoot)] 27, .var (blk p9) [(eOP x7.2.fRoot)] 27, .row y27 (List.map (eI .i64) t26) 1 3], 90⟩) (fun _ h => h) ?_ ?_
 · refine T.block ?_
   obtain ⟨n30, n35⟩ := loop_some ht26
   refine T.loop (fun n S' => ∃ S'', Gst S' S'' ∧ ∃ y28 : Value, ∃ s29 : Int × (List Int), S'' = ⟨[(47, .val (.int .i64 s29.1)), (46, .val (.int .i64 (x2.length : Int))), (45, .sl 1 (List.map (eI .i64) x2)), (12, .val y28), (11, .val (.int .i64 x10)), (10, .val (.pointer (some ⟨(blk p9), 0, none⟩))), (9, .val (.pointer (some ⟨(blk p8), 0, none⟩))), (8, .val (.pointer (some ⟨(blk p6), 0, none⟩))), (7, .val (.pointer (some ⟨(blk p5), 0, none⟩))), (6, .val (.bool false)), (0, .sl 1 (List.map (eI .i64) x1))], [.var (blk p5) [(eOP x3.fRoot)] 27, .var (blk p6) [(eOP x4.fRoot)] 27, .var (blk p8) [(eOP x7.1.fRoot)] 27, .var (blk p9) [(eOP x7.2.fRoot)] 27, .row y28 (List.map (eI .i64) s29.2) 1 3], 90⟩ ∧ iter (law09_TreeJoins.l2 x2) n s29 = some t26) n30 ?_ ?_
   · exact ⟨_, Gst.only [0, 6, 7, 8, 9, 10, 11, 12, 45, 46, 47] rfl, y12, (0, t11), rfl, n35⟩
   rintro n30 _ ⟨_, g, y28, s29, rfl, i34⟩
   refine T.ghost g ?_
   obtain ⟨m31, q32, rfl, q33, i34⟩ := iter_succ i34
   unfold law09_TreeJoins.l2 at q33
   refine T.seq ?_
   refine T.region ?_
   refine TL.op1 (OpR.pure rfl) rfl ?_
   refine TL.nil ?_
   show T X _ _ _
   refine T.seq ?_
   rcases ite_some q33 with ⟨c37, q33⟩ | ⟨c37, q33⟩
   rotate_left
   · refine T.condF rfl (decide_eq_false c37) ?_
     refine T.exit ?_
     obtain rfl := Option.some.inj q33
     obtain rfl : _ = _ := i34
     exact ⟨_, Gst.only [0, 6, 7, 8, 9, 10, 11, 12] rfl, y28, rfl⟩
   refine T.condT rfl (decide_eq_true c37) ?_
   refine T.skip ?_
   show T X _ _ _
   refine T.seq ?_
   refine T.block ?_
   refine T.seq ?_
   refine T.region ?_
   obtain ⟨x38, hx38, q33⟩ := bnd_some q33
   refine TL.op1 (OpR.indexM (eI .i64) hx38 rfl rfl rfl rfl rfl) rfl ?_
   refine TL.op1 (OpR.pure rfl) rfl ?_
   refine TL.op1 (OpR.pure rfl) rfl ?_
   refine TL.nil ?_
   show T X _ _ _
   refine T.region ?_
   refine TL.op1 (OpR.pure rfl) rfl ?_
   refine TL.op1 (OpR.pure rfl) rfl ?_
   refine TL.op1 (OpR.lit rfl rfl rfl rfl rfl rfl rfl) rfl ?_
   obtain ⟨x39, hx39, q33⟩ := bnd_some q33
   refine TL.op (OpR.appendM (m := [x38]) (eI .i64) 4 hx39 rfl rfl rfl rfl rfl rfl rfl rfl rfl (fun _ => rfl)) rfl (fun v40 => ?_)
   refine TL.op1 (OpR.pure rfl) rfl ?_
   refine TL.nil ?_
   show T X _ _ _
   refine T.region ?_
   refine TL.op1 (OpR.pure rfl) rfl ?_
   refine TL.op1 (OpR.pure rfl) rfl ?_
   refine TL.nil ?_
   obtain rfl := Option.some.inj q33
   exact ⟨m31, Nat.lt_succ_self _, _, Gst.only [0, 6, 7, 8, 9, 10, 11, 12, 45, 46, 47] rfl, v40, (w64 (s29.1 + 1), x39), rfl, i34⟩
 rintro _ ⟨y27, rfl⟩
 show T X _ _ _
 refine T.seq ?_
 obtain ⟨t41, ht41, h0⟩ := bnd_some h0
 refine T.cutC (fun S' => S' = ⟨[(6, .val (.bool t41))], [], 90⟩) (fun _ h => h) ?_ ?_
 rotate_left
 · rintro _ rfl
   show T X _ _ _
   refine T.ret ?_
   obtain rfl := Option.some.inj h0
   exact PostG.retP (ks := []) (Gst.only [6] rfl) undef (ResL.cons (ResV.tmp rfl) ResL.nil) rfl rfl rfl rfl
 obtain ⟨x43, hx43, ht41⟩ := bnd_some ht41
 obtain ⟨x44, hx44, ht41⟩ := bnd_some ht41
 rcases ite_some ht41 with ⟨c45, ht41⟩ | ⟨c45, ht41⟩
 rotate_left
 · refine T.drawQ drawsX [.agg [(eOP x7.1.fRoot)], .sl 1 (List.map (eI .i64) x1), .val (.int .i64 x10), .sl 1 (List.map (eI .i64) x43), .val (.bool x44), .val (.bool x44), .tup [], .tup [], .tup [], .tup [], .tup [], .val (.bool false), .val (.bool false), .tup [], .tup [], .tup [], .tup [], .tup [], .val (.bool false), .val (.bool false), .tup [], .tup [], .tup [], .tup [], .tup [], .val (.bool false), .val (.bool false), .tup [], .tup [], .tup [], .val (.bool false), .val (.bool false), .tup [], .val (.bool false), .val (.bool false)] [0, 6, 7, 8, 9, 10, 11, 12, 56, 57, 58, 59, 60, 61, 62, 63, 64, 65, 66, 67, 68, 69, 70, 71, 72, 73, 74, 75, 76, 77, 78, 79, 80, 81, 82, 83, 84, 85, 86, 87, 88, 89] (by decide +kernel) rfl ?_ rfl ?_
   rotate_left
   · obtain rfl := Option.some.inj ht41
     exact ⟨_, Gst.trans (Gst.only [6] rfl) (Gst.pick [] rfl rfl), rfl⟩
   refine OpsQ.yes (Want.plain rfl) rfl (OpR.loadPtr 2 rfl rfl rfl rfl) ?_
   refine OpsQ.yes (Want.plain rfl) rfl (OpR.pure rfl) ?_
   refine OpsQ.yes (Want.plain rfl) rfl (OpR.pure rfl) ?_
   refine OpsQ.yes (Want.plain rfl) rfl (OpR.sliceM (sz := 1) (eI .i64) hx43 rfl rfl rfl rfl BdM.none (BdM.some rfl) rfl) ?_
   refine OpsQ.yes (Want.plain rfl) rfl (OpR.call0 fn13 (law09_Fits_c hx44) rfl) ?_
   refine OpsQ.yes (Want.plain rfl) rfl (OpR.pure rfl) ?_
   refine OpsQ.no (Want.bool rfl rfl rfl rfl (by rw [(eq_false_of_ne_true c45)]; rfl)) rfl ?_
   refine OpsQ.no (Want.bool rfl rfl rfl rfl (by rw [(eq_false_of_ne_true c45)]; rfl)) rfl ?_
   refine OpsQ.no (Want.bool rfl rfl rfl rfl (by rw [(eq_false_of_ne_true c45)]; rfl)) rfl ?_
   refine OpsQ.no (Want.bool rfl rfl rfl rfl (by rw [(eq_false_of_ne_true c45)]; rfl)) rfl ?_
   refine OpsQ.no (Want.bool rfl rfl rfl rfl (by rw [(eq_false_of_ne_true c45)]; rfl)) rfl ?_
   refine OpsQ.yes (Want.plain rfl) rfl (OpR.pickF rfl (eq_false_of_ne_true c45) rfl) ?_
   refine OpsQ.yes (Want.plain rfl) rfl (OpR.pure rfl) ?_
   refine OpsQ.no (Want.bool rfl rfl rfl rfl rfl) rfl ?_
   refine OpsQ.no (Want.bool rfl rfl rfl rfl rfl) rfl ?_
   refine OpsQ.no (Want.bool rfl rfl rfl rfl rfl) rfl ?_
   refine OpsQ.no (Want.bool rfl rfl rfl rfl rfl) rfl ?_
   refine OpsQ.no (Want.bool rfl rfl rfl rfl rfl) rfl ?_
   refine OpsQ.yes (Want.plain rfl) rfl (OpR.pickF rfl rfl rfl) ?_
   refine OpsQ.yes (Want.plain rfl) rfl (OpR.pure rfl) ?_
   refine OpsQ.no (Want.bool rfl rfl rfl rfl rfl) rfl ?_
   refine OpsQ.no (Want.bool rfl rfl rfl rfl rfl) rfl ?_
   refine OpsQ.no (Want.bool rfl rfl rfl rfl rfl) rfl ?_
   refine OpsQ.no (Want.bool rfl rfl rfl rfl rfl) rfl ?_
   refine OpsQ.no (Want.bool rfl rfl rfl rfl rfl) rfl ?_
   refine OpsQ.yes (Want.plain rfl) rfl (OpR.pickF rfl rfl rfl) ?_
   refine OpsQ.yes (Want.plain rfl) rfl (OpR.pure rfl) ?_
   refine OpsQ.no (Want.bool rfl rfl rfl rfl rfl) rfl ?_
   refine OpsQ.no (Want.bool rfl rfl rfl rfl rfl) rfl ?_
   refine OpsQ.no (Want.bool rfl rfl rfl rfl rfl) rfl ?_
   refine OpsQ.yes (Want.plain rfl) rfl (OpR.pickF rfl rfl rfl) ?_
   refine OpsQ.yes (Want.plain rfl) rfl (OpR.pure rfl) ?_
   refine OpsQ.no (Want.bool rfl rfl rfl rfl rfl) rfl ?_
   refine OpsQ.yes (Want.plain rfl) rfl (OpR.pickF rfl rfl rfl) ?_
   refine OpsQ.yes (Want.plain rfl) rfl (OpR.pure rfl) ?_
   exact OpsQ.nil
 obtain ⟨x46, hx46, ht41⟩ := bnd_some ht41
 obtain ⟨x47, hx47, ht41⟩ := bnd_some ht41
 rcases ite_some ht41 with ⟨c48, ht41⟩ | ⟨c48, ht41⟩
 rotate_left
 · refine T.drawQ drawsX [.agg [(eOP x7.1.fRoot)], .sl 1 (List.map (eI .i64) x1), .val (.int .i64 x10), .sl 1 (List.map (eI .i64) x43), .val (.bool x44), .val (.bool x44), .agg [(eOP x7.2.fRoot)], .sl 1 (List.map (eI .i64) x1), .val (.int .i64 x10), .sl 1 (List.map (eI .i64) x46), .val (.bool x47), .val (.bool x47), .val (.bool x47), .tup [], .tup [], .tup [], .tup [], .tup [], .val (.bool false), .val (.bool false), .tup [], .tup [], .tup [], .tup [], .tup [], .val (.bool false), .val (.bool false), .tup [], .tup [], .tup [], .val (.bool false), .val (.bool false), .tup [], .val (.bool false), .val (.bool false)] [0, 6, 7, 8, 9, 10, 11, 12, 56, 57, 58, 59, 60, 61, 62, 63, 64, 65, 66, 67, 68, 69, 70, 71, 72, 73, 74, 75, 76, 77, 78, 79, 80, 81, 82, 83, 84, 85, 86, 87, 88, 89] (by decide +kernel) rfl ?_ rfl ?_
   rotate_left
   · obtain rfl := Option.some.inj ht41
     exact ⟨_, Gst.trans (Gst.only [6] rfl) (Gst.pick [] rfl rfl), rfl⟩
   refine OpsQ.yes (Want.plain rfl) rfl (OpR.loadPtr 2 rfl rfl rfl rfl) ?_
   refine OpsQ.yes (Want.plain rfl) rfl (OpR.pure rfl) ?_
   refine OpsQ.yes (Want.plain rfl) rfl (OpR.pure rfl) ?_
   refine OpsQ.yes (Want.plain rfl) rfl (OpR.sliceM (sz := 1) (eI .i64) hx43 rfl rfl rfl rfl BdM.none (BdM.some rfl) rfl) ?_
   refine OpsQ.yes (Want.plain rfl) rfl (OpR.call0 fn13 (law09_Fits_c hx44) rfl) ?_
   refine OpsQ.yes (Want.plain rfl) rfl (OpR.pure rfl) ?_
   refine OpsQ.yes (Want.bool rfl rfl rfl rfl (by rw [(c45)]; rfl)) rfl (OpR.loadPtr 3 rfl rfl rfl rfl) ?_
   refine OpsQ.yes (Want.bool rfl rfl rfl rfl (by rw [(c45)]; rfl)) rfl (OpR.pure rfl) ?_
   refine OpsQ.yes (Want.bool rfl rfl rfl rfl (by rw [(c45)]; rfl)) rfl (OpR.pure rfl) ?_
   refine OpsQ.yes (Want.bool rfl rfl rfl rfl (by rw [(c45)]; rfl)) rfl (OpR.sliceM (sz := 1) (eI .i64) hx46 rfl rfl rfl rfl (BdM.some rfl) BdM.none rfl) ?_
   refine OpsQ.yes (Want.bool rfl rfl rfl rfl (by rw [(c45)]; rfl)) rfl (OpR.call0 fn13 (law09_Fits_c hx47) rfl) ?_
   refine OpsQ.yes (Want.plain rfl) rfl (OpR.pickT rfl (c45) rfl) ?_
   refine OpsQ.yes (Want.plain rfl) rfl (OpR.pure rfl) ?_
   refine OpsQ.no (Want.bool rfl rfl rfl rfl (by rw [(eq_false_of_ne_true c48)]; rfl)) rfl ?_
   refine OpsQ.no (Want.bool rfl rfl rfl rfl (by rw [(eq_false_of_ne_true c48)]; rfl)) rfl ?_
   refine OpsQ.no (Want.bool rfl rfl rfl rfl (by rw [(eq_false_of_ne_true c48)]; rfl)) rfl ?_
   refine OpsQ.no (Want.bool rfl rfl rfl rfl (by rw [(eq_false_of_ne_true c48)]; rfl)) rfl ?_
   refine OpsQ.no (Want.bool rfl rfl rfl rfl (by rw [(eq_false_of_ne_true c48)]; rfl)) rfl ?_
   refine OpsQ.yes (Want.plain rfl) rfl (OpR.pickF rfl (eq_false_of_ne_true c48) rfl) ?_
   refine OpsQ.yes (Want.plain rfl) rfl (OpR.pure rfl) ?_
   refine OpsQ.no (Want.bool rfl rfl rfl rfl rfl) rfl ?_
   refine OpsQ.no (Want.bool rfl rfl rfl rfl rfl) rfl ?_
   refine OpsQ.no (Want.bool rfl rfl rfl rfl rfl) rfl ?_
   refine OpsQ.no (Want.bool rfl rfl rfl rfl rfl) rfl ?_
   refine OpsQ.no (Want.bool rfl rfl rfl rfl rfl) rfl ?_
   refine OpsQ.yes (Want.plain rfl) rfl (OpR.pickF rfl rfl rfl) ?_
   refine OpsQ.yes (Want.plain rfl) rfl (OpR.pure rfl) ?_
   refine OpsQ.no (Want.bool rfl rfl rfl rfl rfl) rfl ?_
   refine OpsQ.no (Want.bool rfl rfl rfl rfl rfl) rfl ?_
   refine OpsQ.no (Want.bool rfl rfl rfl rfl rfl) rfl ?_
   refine OpsQ.yes (Want.plain rfl) rfl (OpR.pickF rfl rfl rfl) ?_
   refine OpsQ.yes (Want.plain rfl) rfl (OpR.pure rfl) ?_
   refine OpsQ.no (Want.bool rfl rfl rfl rfl rfl) rfl ?_
   refine OpsQ.yes (Want.plain rfl) rfl (OpR.pickF rfl rfl rfl) ?_
   refine OpsQ.yes (Want.plain rfl) rfl (OpR.pure rfl) ?_
   exact OpsQ.nil
 obtain ⟨x49, hx49, ht41⟩ := bnd_some ht41
 obtain ⟨x50, hx50, ht41⟩ := bnd_some ht41
 rcases ite_some ht41 with ⟨c51, ht41⟩ | ⟨c51, ht41⟩
 rotate_left
 · refine T.drawQ drawsX [.agg [(eOP x7.1.fRoot)], .sl 1 (List.map (eI .i64) x1), .val (.int .i64 x10), .sl 1 (List.map (eI .i64) x43), .val (.bool x44), .val (.bool x44), .agg [(eOP x7.2.fRoot)], .sl 1 (List.map (eI .i64) x1), .val (.int .i64 x10), .sl 1 (List.map (eI .i64) x46), .val (.bool x47), .val (.bool x47), .val (.bool x47), .agg [(eOP x3.fRoot)], .agg [(eOP x4.fRoot)], .agg [(eOP x49.fRoot)], .val y27, .val (.bool x50), .val (.bool x50), .val (.bool x50), .tup [], .tup [], .tup [], .tup [], .tup [], .val (.bool false), .val (.bool false), .tup [], .tup [], .tup [], .val (.bool false), .val (.bool false), .tup [], .val (.bool false), .val (.bool false)] [0, 6, 7, 8, 9, 10, 11, 12, 56, 57, 58, 59, 60, 61, 62, 63, 64, 65, 66, 67, 68, 69, 70, 71, 72, 73, 74, 75, 76, 77, 78, 79, 80, 81, 82, 83, 84, 85, 86, 87, 88, 89] (by decide +kernel) rfl ?_ rfl ?_
   rotate_left
   · obtain rfl := Option.some.inj ht41
     exact ⟨_, Gst.trans (Gst.only [6] rfl) (Gst.pick [] rfl rfl), rfl⟩
   refine OpsQ.yes (Want.plain rfl) rfl (OpR.loadPtr 2 rfl rfl rfl rfl) ?_
   refine OpsQ.yes (Want.plain rfl) rfl (OpR.pure rfl) ?_
   refine OpsQ.yes (Want.plain rfl) rfl (OpR.pure rfl) ?_
   refine OpsQ.yes (Want.plain rfl) rfl (OpR.sliceM (sz := 1) (eI .i64) hx43 rfl rfl rfl rfl BdM.none (BdM.some rfl) rfl) ?_
   refine OpsQ.yes (Want.plain rfl) rfl (OpR.call0 fn13 (law09_Fits_c hx44) rfl) ?_
   refine OpsQ.yes (Want.plain rfl) rfl (OpR.pure rfl) ?_
   refine OpsQ.yes (Want.bool rfl rfl rfl rfl (by rw [(c45)]; rfl)) rfl (OpR.loadPtr 3 rfl rfl rfl rfl) ?_
   refine OpsQ.yes (Want.bool rfl rfl rfl rfl (by rw [(c45)]; rfl)) rfl (OpR.pure rfl) ?_
   refine OpsQ.yes (Want.bool rfl rfl rfl rfl (by rw [(c45)]; rfl)) rfl (OpR.pure rfl) ?_
   refine OpsQ.yes (Want.bool rfl rfl rfl rfl (by rw [(c45)]; rfl)) rfl (OpR.sliceM (sz := 1) (eI .i64) hx46 rfl rfl rfl rfl (BdM.some rfl) BdM.none rfl) ?_
   refine OpsQ.yes (Want.bool rfl rfl rfl rfl (by rw [(c45)]; rfl)) rfl (OpR.call0 fn13 (law09_Fits_c hx47) rfl) ?_
   refine OpsQ.yes (Want.plain rfl) rfl (OpR.pickT rfl (c45) rfl) ?_
   refine OpsQ.yes (Want.plain rfl) rfl (OpR.pure rfl) ?_
   refine OpsQ.yes (Want.bool rfl rfl rfl rfl (by rw [(c48)]; rfl)) rfl (OpR.loadPtr 0 rfl rfl rfl rfl) ?_
   refine OpsQ.yes (Want.bool rfl rfl rfl rfl (by rw [(c48)]; rfl)) rfl (OpR.loadPtr 1 rfl rfl rfl rfl) ?_
   refine OpsQ.yes (Want.bool rfl rfl rfl rfl (by rw [(c48)]; rfl)) rfl (OpR.call0 fn25 (tree_Join_int_c hx49) rfl) ?_
   refine OpsQ.yes (Want.bool rfl rfl rfl rfl (by rw [(c48)]; rfl)) rfl (OpR.pure rfl) ?_
   refine OpsQ.yes (Want.bool rfl rfl rfl rfl (by rw [(c48)]; rfl)) rfl (OpR.call [4] fn13 (law09_Fits_c_2 hx50) rfl rfl rfl (fun _ => rfl)) ?_
   refine OpsQ.yes (Want.plain rfl) rfl (OpR.pickT rfl (c48) rfl) ?_
   refine OpsQ.yes (Want.plain rfl) rfl (OpR.pure rfl) ?_
   refine OpsQ.no (Want.bool rfl rfl rfl rfl (by rw [(eq_false_of_ne_true c51)]; rfl)) rfl ?_
   refine OpsQ.no (Want.bool rfl rfl rfl rfl (by rw [(eq_false_of_ne_true c51)]; rfl)) rfl ?_
   refine OpsQ.no (Want.bool rfl rfl rfl rfl (by rw [(eq_false_of_ne_true c51)]; rfl)) rfl ?_
   refine OpsQ.no (Want.bool rfl rfl rfl rfl (by rw [(eq_false_of_ne_true c51)]; rfl)) rfl ?_
   refine OpsQ.no (Want.bool rfl rfl rfl rfl (by rw [(eq_false_of_ne_true c51)]; rfl)) rfl ?_
   refine OpsQ.yes (Want.plain rfl) rfl (OpR.pickF rfl (eq_false_of_ne_true c51) rfl) ?_
   refine OpsQ.yes (Want.plain rfl) rfl (OpR.pure rfl) ?_
   refine OpsQ.no (Want.bool rfl rfl rfl rfl rfl) rfl ?_
   refine OpsQ.no (Want.bool rfl rfl rfl rfl rfl) rfl ?_
   refine OpsQ.no (Want.bool rfl rfl rfl rfl rfl) rfl ?_
   refine OpsQ.yes (Want.plain rfl) rfl (OpR.pickF rfl rfl rfl) ?_
   refine OpsQ.yes (Want.plain rfl) rfl (OpR.pure rfl) ?_
   refine OpsQ.no (Want.bool rfl rfl rfl rfl rfl) rfl ?_
   refine OpsQ.yes (Want.plain rfl) rfl (OpR.pickF rfl rfl rfl) ?_
   refine OpsQ.yes (Want.plain rfl) rfl (OpR.pure rfl) ?_
   exact OpsQ.nil
 obtain ⟨x52, hx52, ht41⟩ := bnd_some ht41
 obtain ⟨x53, hx53, ht41⟩ := bnd_some ht41
 rcases ite_some ht41 with ⟨c54, ht41⟩ | ⟨c54, ht41⟩
 rotate_left
 · refine T.drawQ drawsX [.agg [(eOP x7.1.fRoot)], .sl 1 (List.map (eI .i64) x1), .val (.int .i64 x10), .sl 1 (List.map (eI .i64) x43), .val (.bool x44), .val (.bool x44), .agg [(eOP x7.2.fRoot)], .sl 1 (List.map (eI .i64) x1), .val (.int .i64 x10), .sl 1 (List.map (eI .i64) x46), .val (.bool x47), .val (.bool x47), .val (.bool x47), .agg [(eOP x3.fRoot)], .agg [(eOP x4.fRoot)], .agg [(eOP x49.fRoot)], .val y27, .val (.bool x50), .val (.bool x50), .val (.bool x50), .agg [(eOP x7.1.fRoot)], .agg [(eOP x7.2.fRoot)], .agg [(eOP x52.fRoot)], .sl 1 (List.map (eI .i64) x1), .val (.bool x53), .val (.bool x53), .val (.bool x53), .tup [], .tup [], .tup [], .val (.bool false), .val (.bool false), .tup [], .val (.bool false), .val (.bool false)] [0, 6, 7, 8, 9, 10, 11, 12, 56, 57, 58, 59, 60, 61, 62, 63, 64, 65, 66, 67, 68, 69, 70, 71, 72, 73, 74, 75, 76, 77, 78, 79, 80, 81, 82, 83, 84, 85, 86, 87, 88, 89] (by decide +kernel) rfl ?_ rfl ?_
   rotate_left
   · obtain rfl := Option.some.inj ht41
     exact ⟨_, Gst.trans (Gst.only [6] rfl) (Gst.pick [] rfl rfl), rfl⟩
   refine OpsQ.yes (Want.plain rfl) rfl (OpR.loadPtr 2 rfl rfl rfl rfl) ?_
   refine OpsQ.yes (Want.plain rfl) rfl (OpR.pure rfl) ?_
   refine OpsQ.yes (Want.plain rfl) rfl (OpR.pure rfl) ?_
   refine OpsQ.yes (Want.plain rfl) rfl (OpR.sliceM (sz := 1) (eI .i64) hx43 rfl rfl rfl rfl BdM.none (BdM.some rfl) rfl) ?_
   refine OpsQ.yes (Want.plain rfl) rfl (OpR.call0 fn13 (law09_Fits_c hx44) rfl) ?_
   refine OpsQ.yes (Want.plain rfl) rfl (OpR.pure rfl) ?_
   refine OpsQ.yes (Want.bool rfl rfl rfl rfl (by rw [(c45)]; rfl)) rfl (OpR.loadPtr 3 rfl rfl rfl rfl) ?_
   refine OpsQ.yes (Want.bool rfl rfl rfl rfl (by rw [(c45)]; rfl)) rfl (OpR.pure rfl) ?_
   refine OpsQ.yes (Want.bool rfl rfl rfl rfl (by rw [(c45)]; rfl)) rfl (OpR.pure rfl) ?_
   refine OpsQ.yes (Want.bool rfl rfl rfl rfl (by rw [(c45)]; rfl)) rfl (OpR.sliceM (sz := 1) (eI .i64) hx46 rfl rfl rfl rfl (BdM.some rfl) BdM.none rfl) ?_
   refine OpsQ.yes (Want.bool rfl rfl rfl rfl (by rw [(c45)]; rfl)) rfl (OpR.call0 fn13 (law09_Fits_c hx47) rfl) ?_
   refine OpsQ.yes (Want.plain rfl) rfl (OpR.pickT rfl (c45) rfl) ?_
   refine OpsQ.yes (Want.plain rfl) rfl (OpR.pure rfl) ?_
   refine OpsQ.yes (Want.bool rfl rfl rfl rfl (by rw [(c48)]; rfl)) rfl (OpR.loadPtr 0 rfl rfl rfl rfl) ?_
   refine OpsQ.yes (Want.bool rfl rfl rfl rfl (by rw [(c48)]; rfl)) rfl (OpR.loadPtr 1 rfl rfl rfl rfl) ?_
   refine OpsQ.yes (Want.bool rfl rfl rfl rfl (by rw [(c48)]; rfl)) rfl (OpR.call0 fn25 (tree_Join_int_c hx49) rfl) ?_
   refine OpsQ.yes (Want.bool rfl rfl rfl rfl (by rw [(c48)]; rfl)) rfl (OpR.pure rfl) ?_
   refine OpsQ.yes (Want.bool rfl rfl rfl rfl (by rw [(c48)]; rfl)) rfl (OpR.call [4] fn13 (law09_Fits_c_2 hx50) rfl rfl rfl (fun _ => rfl)) ?_
   refine OpsQ.yes (Want.plain rfl) rfl (OpR.pickT rfl (c48) rfl) ?_
   refine OpsQ.yes (Want.plain rfl) rfl (OpR.pure rfl) ?_
   refine OpsQ.yes (Want.bool rfl rfl rfl rfl (by rw [(c51)]; rfl)) rfl (OpR.loadPtr 2 rfl rfl rfl rfl) ?_
   refine OpsQ.yes (Want.bool rfl rfl rfl rfl (by rw [(c51)]; rfl)) rfl (OpR.loadPtr 3 rfl rfl rfl rfl) ?_
   refine OpsQ.yes (Want.bool rfl rfl rfl rfl (by rw [(c51)]; rfl)) rfl (OpR.call0 fn25 (tree_Join_int_c hx52) rfl) ?_
   refine OpsQ.yes (Want.bool rfl rfl rfl rfl (by rw [(c51)]; rfl)) rfl (OpR.pure rfl) ?_
   refine OpsQ.yes (Want.bool rfl rfl rfl rfl (by rw [(c51)]; rfl)) rfl (OpR.call0 fn13 (law09_Fits_c hx53) rfl) ?_
   refine OpsQ.yes (Want.plain rfl) rfl (OpR.pickT rfl (c51) rfl) ?_
   refine OpsQ.yes (Want.plain rfl) rfl (OpR.pure rfl) ?_
   refine OpsQ.no (Want.bool rfl rfl rfl rfl (by rw [(eq_false_of_ne_true c54)]; rfl)) rfl ?_
   refine OpsQ.no (Want.bool rfl rfl rfl rfl (by rw [(eq_false_of_ne_true c54)]; rfl)) rfl ?_
   refine OpsQ.no (Want.bool rfl rfl rfl rfl (by rw [(eq_false_of_ne_true c54)]; rfl)) rfl ?_
   refine OpsQ.yes (Want.plain rfl) rfl (OpR.pickF rfl (eq_false_of_ne_true c54) rfl) ?_
   refine OpsQ.yes (Want.plain rfl) rfl (OpR.pure rfl) ?_
   refine OpsQ.no (Want.bool rfl rfl rfl rfl rfl) rfl ?_
   refine OpsQ.yes (Want.plain rfl) rfl (OpR.pickF rfl rfl rfl) ?_
   refine OpsQ.yes (Want.plain rfl) rfl (OpR.pure rfl) ?_
   exact OpsQ.nil
 obtain ⟨x55, hx55, ht41⟩ := bnd_some ht41
 rcases ite_some ht41 with ⟨c56, ht41⟩ | ⟨c56, ht41⟩
 rotate_left
 · refine T.drawQ drawsX [.agg [(eOP x7.1.fRoot)], .sl 1 (List.map (eI .i64) x1), .val (.int .i64 x10), .sl 1 (List.map (eI .i64) x43), .val (.bool x44), .val (.bool x44), .agg [(eOP x7.2.fRoot)], .sl 1 (List.map (eI .i64) x1), .val (.int .i64 x10), .sl 1 (List.map (eI .i64) x46), .val (.bool x47), .val (.bool x47), .val (.bool x47), .agg [(eOP x3.fRoot)], .agg [(eOP x4.fRoot)], .agg [(eOP x49.fRoot)], .val y27, .val (.bool x50), .val (.bool x50), .val (.bool x50), .agg [(eOP x7.1.fRoot)], .agg [(eOP x7.2.fRoot)], .agg [(eOP x52.fRoot)], .sl 1 (List.map (eI .i64) x1), .val (.bool x53), .val (.bool x53), .val (.bool x53), .agg [(eOP x3.fRoot)], .sl 1 (List.map (eI .i64) x1), .val (.bool x55), .val (.bool x55), .val (.bool x55), .tup [], .val (.bool false), .val (.bool false)] [0, 6, 7, 8, 9, 10, 11, 12, 56, 57, 58, 59, 60, 61, 62, 63, 64, 65, 66, 67, 68, 69, 70, 71, 72, 73, 74, 75, 76, 77, 78, 79, 80, 81, 82, 83, 84, 85, 86, 87, 88, 89] (by decide +kernel) rfl ?_ rfl ?_
   rotate_left
   · obtain rfl := Option.some.inj ht41
     exact ⟨_, Gst.trans (Gst.only [6] rfl) (Gst.pick [] rfl rfl), rfl⟩
   refine OpsQ.yes (Want.plain rfl) rfl (OpR.loadPtr 2 rfl rfl rfl rfl) ?_
   refine OpsQ.yes (Want.plain rfl) rfl (OpR.pure rfl) ?_
   refine OpsQ.yes (Want.plain rfl) rfl (OpR.pure rfl) ?_
   refine OpsQ.yes (Want.plain rfl) rfl (OpR.sliceM (sz := 1) (eI .i64) hx43 rfl rfl rfl rfl BdM.none (BdM.some rfl) rfl) ?_
   refine OpsQ.yes (Want.plain rfl) rfl (OpR.call0 fn13 (law09_Fits_c hx44) rfl) ?_
   refine OpsQ.yes (Want.plain rfl) rfl (OpR.pure rfl) ?_
   refine OpsQ.yes (Want.bool rfl rfl rfl rfl (by rw [(c45)]; rfl)) rfl (OpR.loadPtr 3 rfl rfl rfl rfl) ?_
   refine OpsQ.yes (Want.bool rfl rfl rfl rfl (by rw [(c45)]; rfl)) rfl (OpR.pure rfl) ?_
   refine OpsQ.yes (Want.bool rfl rfl rfl rfl (by rw [(c45)]; rfl)) rfl (OpR.pure rfl) ?_
   refine OpsQ.yes (Want.bool rfl rfl rfl rfl (by rw [(c45)]; rfl)) rfl (OpR.sliceM (sz := 1) (eI .i64) hx46 rfl rfl rfl rfl (BdM.some rfl) BdM.none rfl) ?_
   refine OpsQ.yes (Want.bool rfl rfl rfl rfl (by rw [(c45)]; rfl)) rfl (OpR.call0 fn13 (law09_Fits_c hx47) rfl) ?_
   refine OpsQ.yes (Want.plain rfl) rfl (OpR.pickT rfl (c45) rfl) ?_
   refine OpsQ.yes (Want.plain rfl) rfl (OpR.pure rfl) ?_
   refine OpsQ.yes (Want.bool rfl rfl rfl rfl (by rw [(c48)]; rfl)) rfl (OpR.loadPtr 0 rfl rfl rfl rfl) ?_
   refine OpsQ.yes (Want.bool rfl rfl rfl rfl (by rw [(c48)]; rfl)) rfl (OpR.loadPtr 1 rfl rfl rfl rfl) ?_
   refine OpsQ.yes (Want.bool rfl rfl rfl rfl (by rw [(c48)]; rfl)) rfl (OpR.call0 fn25 (tree_Join_int_c hx49) rfl) ?_
   refine OpsQ.yes (Want.bool rfl rfl rfl rfl (by rw [(c48)]; rfl)) rfl (OpR.pure rfl) ?_
   refine OpsQ.yes (Want.bool rfl rfl rfl rfl (by rw [(c48)]; rfl)) rfl (OpR.call [4] fn13 (law09_Fits_c_2 hx50) rfl rfl rfl (fun _ => rfl)) ?_
   refine OpsQ.yes (Want.plain rfl) rfl (OpR.pickT rfl (c48) rfl) ?_
   refine OpsQ.yes (Want.plain rfl) rfl (OpR.pure rfl) ?_
   refine OpsQ.yes (Want.bool rfl rfl rfl rfl (by rw [(c51)]; rfl)) rfl (OpR.loadPtr 2 rfl rfl rfl rfl) ?_
   refine OpsQ.yes (Want.bool rfl rfl rfl rfl (by rw [(c51)]; rfl)) rfl (OpR.loadPtr 3 rfl rfl rfl rfl) ?_
   refine OpsQ.yes (Want.bool rfl rfl rfl rfl (by rw [(c51)]; rfl)) rfl (OpR.call0 fn25 (tree_Join_int_c hx52) rfl) ?_
   refine OpsQ.yes (Want.bool rfl rfl rfl rfl (by rw [(c51)]; rfl)) rfl (OpR.pure rfl) ?_
   refine OpsQ.yes (Want.bool rfl rfl rfl rfl (by rw [(c51)]; rfl)) rfl (OpR.call0 fn13 (law09_Fits_c hx53) rfl) ?_
   refine OpsQ.yes (Want.plain rfl) rfl (OpR.pickT rfl (c51) rfl) ?_
   refine OpsQ.yes (Want.plain rfl) rfl (OpR.pure rfl) ?_
   refine OpsQ.yes (Want.bool rfl rfl rfl rfl (by rw [(c54)]; rfl)) rfl (OpR.loadPtr 0 rfl rfl rfl rfl) ?_
   refine OpsQ.yes (Want.bool rfl rfl rfl rfl (by rw [(c54)]; rfl)) rfl (OpR.pure rfl) ?_
   refine OpsQ.yes (Want.bool rfl rfl rfl rfl (by rw [(c54)]; rfl)) rfl (OpR.call0 fn13 (law09_Fits_c hx55) rfl) ?_
   refine OpsQ.yes (Want.plain rfl) rfl (OpR.pickT rfl (c54) rfl) ?_
   refine OpsQ.yes (Want.plain rfl) rfl (OpR.pure rfl) ?_
   refine OpsQ.no (Want.bool rfl rfl rfl rfl (by rw [(eq_false_of_ne_true c56)]; rfl)) rfl ?_
   refine OpsQ.yes (Want.plain rfl) rfl (OpR.pickF rfl (eq_false_of_ne_true c56) rfl) ?_
   refine OpsQ.yes (Want.plain rfl) rfl (OpR.pure rfl) ?_
   exact OpsQ.nil
 obtain ⟨x57, hx57, ht41⟩ := bnd_some ht41
 refine T.drawQ drawsX [.agg [(eOP x7.1.fRoot)], .sl 1 (List.map (eI .i64) x1), .val (.int .i64 x10), .sl 1 (List.map (eI .i64) x43), .val (.bool x44), .val (.bool x44), .agg [(eOP x7.2.fRoot)], .sl 1 (List.map (eI .i64) x1), .val (.int .i64 x10), .sl 1 (List.map (eI .i64) x46), .val (.bool x47), .val (.bool x47), .val (.bool x47), .agg [(eOP x3.fRoot)], .agg [(eOP x4.fRoot)], .agg [(eOP x49.fRoot)], .val y27, .val (.bool x50), .val (.bool x50), .val (.bool x50), .agg [(eOP x7.1.fRoot)], .agg [(eOP x7.2.fRoot)], .agg [(eOP x52.fRoot)], .sl 1 (List.map (eI .i64) x1), .val (.bool x53), .val (.bool x53), .val (.bool x53), .agg [(eOP x3.fRoot)], .sl 1 (List.map (eI .i64) x1), .val (.bool x55), .val (.bool x55), .val (.bool x55), .val (.bool x57), .val (.bool x57), .val (.bool x57)] [0, 6, 7, 8, 9, 10, 11, 12, 56, 57, 58, 59, 60, 61, 62, 63, 64, 65, 66, 67, 68, 69, 70, 71, 72, 73, 74, 75, 76, 77, 78, 79, 80, 81, 82, 83, 84, 85, 86, 87, 88, 89] (by decide +kernel) rfl ?_ rfl ?_
 rotate_left
 · obtain rfl := Option.some.inj ht41
   exact ⟨_, Gst.trans (Gst.only [6] rfl) (Gst.pick [] rfl rfl), rfl⟩
 refine OpsQ.yes (Want.plain rfl) rfl (OpR.loadPtr 2 rfl rfl rfl rfl) ?_
 refine OpsQ.yes (Want.plain rfl) rfl (OpR.pure rfl) ?_
 refine OpsQ.yes (Want.plain rfl) rfl (OpR.pure rfl) ?_
 refine OpsQ.yes (Want.plain rfl) rfl (OpR.sliceM (sz := 1) (eI .i64) hx43 rfl rfl rfl rfl BdM.none (BdM.some rfl) rfl) ?_
 refine OpsQ.yes (Want.plain rfl) rfl (OpR.call0 fn13 (law09_Fits_c hx44) rfl) ?_
 refine OpsQ.yes (Want.plain rfl) rfl (OpR.pure rfl) ?_
 refine OpsQ.yes (Want.bool rfl rfl rfl rfl (by rw [(c45)]; rfl)) rfl (OpR.loadPtr 3 rfl rfl rfl rfl) ?_
 refine OpsQ.yes (Want.bool rfl rfl rfl rfl (by rw [(c45)]; rfl)) rfl (OpR.pure rfl) ?_
 refine OpsQ.yes (Want.bool rfl rfl rfl rfl (by rw [(c45)]; rfl)) rfl (OpR.pure rfl) ?_
 refine OpsQ.yes (Want.bool rfl rfl rfl rfl (by rw [(c45)]; rfl)) rfl (OpR.sliceM (sz := 1) (eI .i64) hx46 rfl rfl rfl rfl (BdM.some rfl) BdM.none rfl) ?_
 refine OpsQ.yes (Want.bool rfl rfl rfl rfl (by rw [(c45)]; rfl)) rfl (OpR.call0 fn13 (law09_Fits_c hx47) rfl) ?_
 refine OpsQ.yes (Want.plain rfl) rfl (OpR.pickT rfl (c45) rfl) ?_
 refine OpsQ.yes (Want.plain rfl) rfl (OpR.pure rfl) ?_
 refine OpsQ.yes (Want.bool rfl rfl rfl rfl (by rw [(c48)]; rfl)) rfl (OpR.loadPtr 0 rfl rfl rfl rfl) ?_
 refine OpsQ.yes (Want.bool rfl rfl rfl rfl (by rw [(c48)]; rfl)) rfl (OpR.loadPtr 1 rfl rfl rfl rfl) ?_
 refine OpsQ.yes (Want.bool rfl rfl rfl rfl (by rw [(c48)]; rfl)) rfl (OpR.call0 fn25 (tree_Join_int_c hx49) rfl) ?_
 refine OpsQ.yes (Want.bool rfl rfl rfl rfl (by rw [(c48)]; rfl)) rfl (OpR.pure rfl) ?_
 refine OpsQ.yes (Want.bool rfl rfl rfl rfl (by rw [(c48)]; rfl)) rfl (OpR.call [4] fn13 (law09_Fits_c_2 hx50) rfl rfl rfl (fun _ => rfl)) ?_
 refine OpsQ.yes (Want.plain rfl) rfl (OpR.pickT rfl (c48) rfl) ?_
 refine OpsQ.yes (Want.plain rfl) rfl (OpR.pure rfl) ?_
 refine OpsQ.yes (Want.bool rfl rfl rfl rfl (by rw [(c51)]; rfl)) rfl (OpR.loadPtr 2 rfl rfl rfl rfl) ?_
 refine OpsQ.yes (Want.bool rfl rfl rfl rfl (by rw [(c51)]; rfl)) rfl (OpR.loadPtr 3 rfl rfl rfl rfl) ?_
 refine OpsQ.yes (Want.bool rfl rfl rfl rfl (by rw [(c51)]; rfl)) rfl (OpR.call0 fn25 (tree_Join_int_c hx52) rfl) ?_
 refine OpsQ.yes (Want.bool rfl rfl rfl rfl (by rw [(c51)]; rfl)) rfl (OpR.pure rfl) ?_
 refine OpsQ.yes (Want.bool rfl rfl rfl rfl (by rw [(c51)]; rfl)) rfl (OpR.call0 fn13 (law09_Fits_c hx53) rfl) ?_
 refine OpsQ.yes (Want.plain rfl) rfl (OpR.pickT rfl (c51) rfl) ?_
 refine OpsQ.yes (Want.plain rfl) rfl (OpR.pure rfl) ?_
 refine OpsQ.yes (Want.bool rfl rfl rfl rfl (by rw [(c54)]; rfl)) rfl (OpR.loadPtr 0 rfl rfl rfl rfl) ?_
 refine OpsQ.yes (Want.bool rfl rfl rfl rfl (by rw [(c54)]; rfl)) rfl (OpR.pure rfl) ?_
 refine OpsQ.yes (Want.bool rfl rfl rfl rfl (by rw [(c54)]; rfl)) rfl (OpR.call0 fn13 (law09_Fits_c hx55) rfl) ?_
 refine OpsQ.yes (Want.plain rfl) rfl (OpR.pickT rfl (c54) rfl) ?_
 refine OpsQ.yes (Want.plain rfl) rfl (OpR.pure rfl) ?_
 refine OpsQ.yes (Want.bool rfl rfl rfl rfl (by rw [(c56)]; rfl)) rfl (OpR.call0 fn17 (law09_awake_c hx57) rfl) ?_
 refine OpsQ.yes (Want.plain rfl) rfl (OpR.pickT rfl (c56) rfl) ?_
 refine OpsQ.yes (Want.plain rfl) rfl (OpR.pure rfl) ?_
 exact OpsQ.nil
end Go.Proofs.Ytkmdfaodbiknlaa.S
