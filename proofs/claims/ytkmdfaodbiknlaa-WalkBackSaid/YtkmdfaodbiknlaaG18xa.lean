/- Printed by a program of this session's own (gen.py): Lean functions for Go functions, and the proofs that the Go code comes to their answers. -/
import Derived.Test.YtkmdfaodbiknlaaG14xa
import Derived.Test.YtkmdfaodbiknlaaG2xa
import Derived.Test.YtkmdfaodbiknlaaG15xa
import Derived.Test.YtkmdfaodbiknlaaG3xa
set_option linter.unusedVariables false
set_option linter.unusedSimpArgs false
set_option maxRecDepth 20000
namespace Go.Proofs.Ytkmdfaodbiknlaa.S
open Go Go.Sm
attribute [local irreducible] T TL OpR CallT iter loop
noncomputable def law10_WalkBack (a0 : List Int) (a1 : Int × Int × Int) : Option Bool :=
  bnd (law10_few a0) fun x1 =>
  bnd (tree_Of_int x1) fun x2 =>
  bnd (ref10_Stretch x1 a1.1 a1.2.1) fun x4 =>
  bnd (if a1.2.2 < 0 then
    some 0
  else
    some a1.2.2 : Option Int) fun t5 =>
  bnd (if t5 > (w64 ((x1.length : Int) - (w64 (x4.2 - x4.1)))) then
    some (w64 ((x1.length : Int) - (w64 (x4.2 - x4.1))))
  else
    some t5 : Option Int) fun t7 =>
  bnd (walk_Move_int x2 x4.1 x4.2 t7) fun x9 =>
  bnd (walk_Move_int x9 t7 (w64 ((w64 (t7 + x4.2)) - x4.1)) x4.1) fun x11 =>
  bnd (walk_Splice_int x2 x4.1 x4.2 (⟨none⟩ : tree_Tree_int)) fun x14 =>
  bnd (walk_Slice_int x2 x4.1 x4.2) fun x15 =>
  bnd (walk_Splice_int x14 x4.1 x4.1 x15) fun x16 =>
  bnd (bnd (law09_Fits x11 x1) fun x18 =>
  if x18 = true then
    bnd (law09_Fits x16 x1) fun x20 =>
    if x20 = true then
      bnd (law10_awake) fun x22 =>
      some x22
    else
      some false
  else
    some false : Option Bool) fun t17 =>
  some t17
set_option maxHeartbeats 4000000 in
theorem law10_WalkBack_c {a0 : List Int} {a1 : Int × Int × Int} {res : Bool} (h0 : law10_WalkBack a0 a1 = some res) : CallF X 8 [.sl 1 (List.map (eI .i64) a0), .agg [.val (.int .i64 a1.1), .val (.int .i64 a1.2.1), .val (.int .i64 a1.2.2)]] [] (fun x => .val (.bool res)) (fun x => []) := by
 unfold law10_WalkBack at h0
 refine CallF.mkG (X := X) rfl Try.func8 rfl rfl Try.ntmps8 rfl rfl ?_
 refine T.seq ?_
 refine T.region ?_
 refine TL.op1 (OpR.boxImm rfl rfl) rfl ?_
 refine TL.op1 (OpR.pure rfl) rfl ?_
 refine TL.nil ?_
 show T X _ _ _
 refine T.seq ?_
 refine T.region ?_
 refine TL.op1 (OpR.pure rfl) rfl ?_
 obtain ⟨x1, hx1, h0⟩ := bnd_some h0
 refine TL.op1 (OpR.call0 fn26 (law10_few_c hx1) rfl) rfl ?_
 refine TL.op1 (OpR.pure rfl) rfl ?_
 refine TL.nil ?_
 show T X _ _ _
 refine T.seq ?_
 refine T.region ?_
 refine TL.op1 (OpR.pure rfl) rfl ?_
 obtain ⟨x2, hx2, h0⟩ := bnd_some h0
 refine TL.op1 (OpR.call0 fn12 (tree_Of_int_c hx2) rfl) rfl ?_
 refine TL.op (OpR.alloc rfl rfl (fun _ => rfl)) rfl (fun p3 => ?_)
 refine TL.op0 (OpR.store 0 rfl rfl rfl rfl rfl rfl rfl rfl) ?_
 refine TL.nil ?_
 show T X _ _ _
 refine T.seq ?_
 refine T.region ?_
 refine TL.op1 (OpR.pure rfl) rfl ?_
 refine TL.op1 (OpR.indexNod rfl rfl rfl rfl rfl ⟨by decide, by decide⟩ rfl) rfl ?_
 refine TL.op1 (OpR.pure rfl) rfl ?_
 refine TL.op1 (OpR.indexNod rfl rfl rfl rfl rfl ⟨by decide, by decide⟩ rfl) rfl ?_
 refine TL.op1 (OpR.pure rfl) rfl ?_
 obtain ⟨x4, hx4, h0⟩ := bnd_some h0
 refine TL.op1 (OpR.call0 fn34 (ref10_Stretch_c hx4) rfl) rfl ?_
 refine TL.op1 (OpR.pure rfl) rfl ?_
 refine TL.op1 (OpR.pure rfl) rfl ?_
 refine TL.op1 (OpR.pure rfl) rfl ?_
 refine TL.op1 (OpR.pure rfl) rfl ?_
 refine TL.op1 (OpR.pure rfl) rfl ?_
 refine TL.nil ?_
 show T X _ _ _
 refine T.seq ?_
 refine T.region ?_
 refine TL.op1 (OpR.indexNod rfl rfl rfl rfl rfl ⟨by decide, by decide⟩ rfl) rfl ?_
 refine TL.op1 (OpR.pure rfl) rfl ?_
 refine TL.op1 (OpR.pure rfl) rfl ?_
 refine TL.nil ?_
 show T X _ _ _
 refine T.seq ?_
 refine T.seq ?_
 refine T.region ?_
 refine TL.op1 (OpR.pure rfl) rfl ?_
 refine TL.op1 (OpR.pure rfl) rfl ?_
 refine TL.nil ?_
 show T X _ _ _
 obtain ⟨t5, ht5, h0⟩ := bnd_some h0
 refine T.cutC (fun S' => S' = ⟨[(8, .val (.int .i64 t5)), (7, .val (.int .i64 x4.2)), (6, .val (.int .i64 x4.1)), (5, .val (.pointer (some ⟨(blk p3), 0, none⟩))), (4, .val (.bool false)), (0, .sl 1 (List.map (eI .i64) x1))], [.var (blk p3) [(eOP x2.fRoot)] 27], 80⟩) (fun _ h => h) ?_ ?_
 · rcases ite_some ht5 with ⟨c6, ht5⟩ | ⟨c6, ht5⟩
   rotate_left
   · refine T.condF rfl (decide_eq_false c6) ?_
     refine T.skip ?_
     obtain rfl := Option.some.inj ht5
     exact ⟨_, Gst.only [0, 4, 5, 6, 7, 8] rfl, rfl⟩
   refine T.condT rfl (decide_eq_true c6) ?_
   refine T.region ?_
   refine TL.op1 (OpR.pure rfl) rfl ?_
   refine TL.nil ?_
   obtain rfl := Option.some.inj ht5
   exact ⟨_, Gst.only [0, 4, 5, 6, 7, 8] rfl, rfl⟩
 rintro _ rfl
 show T X _ _ _
 refine T.seq ?_
 refine T.seq ?_
 refine T.region ?_
 refine TL.op1 (OpR.pure rfl) rfl ?_
 refine TL.op1 (OpR.pure rfl) rfl ?_
 refine TL.op1 (OpR.cast (OpR.pure rfl) (intE (lenM _ _))) rfl ?_
 refine TL.op1 (OpR.pure rfl) rfl ?_
 refine TL.op1 (OpR.pure rfl) rfl ?_
 refine TL.op1 (OpR.pure rfl) rfl ?_
 refine TL.op1 (OpR.pure rfl) rfl ?_
 refine TL.op1 (OpR.pure rfl) rfl ?_
 refine TL.nil ?_
 show T X _ _ _
 obtain ⟨t7, ht7, h0⟩ := bnd_some h0
 refine T.cutC (fun S' => S' = ⟨[(8, .val (.int .i64 t7)), (7, .val (.int .i64 x4.2)), (6, .val (.int .i64 x4.1)), (5, .val (.pointer (some ⟨(blk p3), 0, none⟩))), (4, .val (.bool false)), (0, .sl 1 (List.map (eI .i64) x1))], [.var (blk p3) [(eOP x2.fRoot)] 27], 80⟩) (fun _ h => h) ?_ ?_
 · rcases ite_some ht7 with ⟨c8, ht7⟩ | ⟨c8, ht7⟩
   rotate_left
   · refine T.condF rfl (decide_eq_false c8) ?_
     refine T.skip ?_
     obtain rfl := Option.some.inj ht7
     exact ⟨_, Gst.only [0, 4, 5, 6, 7, 8] rfl, rfl⟩
   refine T.condT rfl (decide_eq_true c8) ?_
   refine T.region ?_
   refine TL.op1 (OpR.pure rfl) rfl ?_
   refine TL.op1 (OpR.cast (OpR.pure rfl) (intE (lenM _ _))) rfl ?_
   refine TL.op1 (OpR.pure rfl) rfl ?_
   refine TL.op1 (OpR.pure rfl) rfl ?_
   refine TL.op1 (OpR.pure rfl) rfl ?_
   refine TL.op1 (OpR.pure rfl) rfl ?_
   refine TL.op1 (OpR.pure rfl) rfl ?_
   refine TL.nil ?_
   obtain rfl := Option.some.inj ht7
   exact ⟨_, Gst.only [0, 4, 5, 6, 7, 8] rfl, rfl⟩
 rintro _ rfl
 show T X _ _ _
 refine T.seq ?_
 refine T.region ?_
 refine TL.op1 (OpR.loadPtr 0 rfl rfl rfl rfl) rfl ?_
 refine TL.op1 (OpR.pure rfl) rfl ?_
 refine TL.op1 (OpR.pure rfl) rfl ?_
 refine TL.op1 (OpR.pure rfl) rfl ?_
 obtain ⟨x9, hx9, h0⟩ := bnd_some h0
 refine TL.op1 (OpR.call0 fn31 (walk_Move_int_c hx9) rfl) rfl ?_
 refine TL.op (OpR.alloc rfl rfl (fun _ => rfl)) rfl (fun p10 => ?_)
 refine TL.op0 (OpR.store 1 rfl rfl rfl rfl rfl rfl rfl rfl) ?_
 refine TL.nil ?_
 show T X _ _ _
 refine T.seq ?_
 refine T.region ?_
 refine TL.op1 (OpR.loadPtr 1 rfl rfl rfl rfl) rfl ?_
 refine TL.op1 (OpR.pure rfl) rfl ?_
 refine TL.op1 (OpR.pure rfl) rfl ?_
 refine TL.op1 (OpR.pure rfl) rfl ?_
 refine TL.op1 (OpR.pure rfl) rfl ?_
 refine TL.op1 (OpR.pure rfl) rfl ?_
 refine TL.op1 (OpR.pure rfl) rfl ?_
 refine TL.op1 (OpR.pure rfl) rfl ?_
 obtain ⟨x11, hx11, h0⟩ := bnd_some h0
 refine TL.op1 (OpR.call0 fn31 (walk_Move_int_c hx11) rfl) rfl ?_
 refine TL.op (OpR.alloc rfl rfl (fun _ => rfl)) rfl (fun p12 => ?_)
 refine TL.op0 (OpR.store 2 rfl rfl rfl rfl rfl rfl rfl rfl) ?_
 refine TL.nil ?_
 show T X _ _ _
 refine T.seq ?_
 obtain ⟨x14, hx14, h0⟩ := bnd_some h0
 obtain ⟨x15, hx15, h0⟩ := bnd_some h0
 obtain ⟨x16, hx16, h0⟩ := bnd_some h0
 refine T.drawS drawsX (fun env13 => [.agg [(eOP x2.fRoot)], .val (.int .i64 x4.1), .val (.int .i64 x4.2), .agg [(eOP none)], .agg [(eOP x14.fRoot)], .val (.int .i64 x4.1), .val (.int .i64 x4.1), .agg [(eOP x2.fRoot)], .val (.int .i64 x4.1), .val (.int .i64 x4.2), .agg [(eOP x15.fRoot)], .agg [(eOP x16.fRoot)], .val (.pointer (some ⟨(blk (env13 12)), 0, none⟩)), .dead]) (fun D env13 => [.var (blk p3) [(eOP x2.fRoot)] 27, .var (blk p10) [(eOP x9.fRoot)] 27, .var (blk p12) [(eOP x11.fRoot)] 27] ++ (bif D 12 then [(bif D 13 then .var (blk (env13 12)) [(eOP x16.fRoot)] 27 else .var (blk (env13 12)) [(eOP none)] 27)] else [])) [0, 0, 0, 0, 15, 0, 0, 0, 0, 0, 927, 2047, 0, 8191] [0, 4, 5, 6, 7, 8, 9, 10, 11, 43, 44, 45, 46, 47, 48, 49, 50, 51, 52, 53, 54, 55, 56, 57, 58, 59, 60, 61, 62, 63, 64, 65, 66, 67, 68] (fun env13 => [.var (blk p3) [(eOP x2.fRoot)] 27, .var (blk p10) [(eOP x9.fRoot)] 27, .var (blk p12) [(eOP x11.fRoot)] 27, .var (blk (env13 12)) [(eOP x16.fRoot)] 27]) (by decide +kernel) (by decide +kernel) (fun _ => rfl) (fun _ => rfl) ?_ (fun _ => rfl) (fun _ => rfl) ?_
 rotate_left
 · intro env13
   show T X _ _ _
   refine T.seq ?_
   obtain ⟨t17, ht17, h0⟩ := bnd_some h0
   refine T.cutC (fun S' => S' = ⟨[(4, .val (.bool t17))], [], 80⟩) (fun _ h => h) ?_ ?_
   rotate_left
   · rintro _ rfl
     show T X _ _ _
     refine T.ret ?_
     obtain rfl := Option.some.inj h0
     exact PostG.retP (ks := []) (Gst.only [4] rfl) undef (ResL.cons (ResV.tmp rfl) ResL.nil) rfl rfl rfl rfl
   refine T.region ?_
   refine TL.op1 (OpR.loadPtr 2 rfl rfl rfl rfl) rfl ?_
   refine TL.op1 (OpR.pure rfl) rfl ?_
   obtain ⟨x18, hx18, ht17⟩ := bnd_some ht17
   refine TL.op1 (OpR.call0 fn13 (law09_Fits_c hx18) rfl) rfl ?_
   refine TL.op1 (OpR.pure rfl) rfl ?_
   rcases ite_some ht17 with ⟨c19, ht17⟩ | ⟨c19, ht17⟩
   rotate_left
   · refine TL.off rfl rfl rfl rfl (eq_false_of_ne_true c19) rfl rfl ?_
     refine TL.off rfl rfl rfl rfl (eq_false_of_ne_true c19) rfl rfl ?_
     refine TL.off rfl rfl rfl rfl (eq_false_of_ne_true c19) rfl rfl ?_
     refine TL.op1 (OpR.pickF rfl (eq_false_of_ne_true c19) rfl) rfl ?_
     refine TL.op1 (OpR.pure rfl) rfl ?_
     refine TL.off rfl rfl rfl rfl rfl rfl rfl ?_
     refine TL.op1 (OpR.pickF rfl rfl rfl) rfl ?_
     refine TL.op1 (OpR.pure rfl) rfl ?_
     refine TL.nil ?_
     obtain rfl := Option.some.inj ht17
     exact ⟨_, Gst.trans (Gst.only [4] rfl) (Gst.pick [] rfl rfl), rfl⟩
   refine TL.on rfl rfl rfl rfl (c19) ?_
   refine TL.op1 (OpR.loadPtr 3 rfl rfl rfl rfl) rfl ?_
   refine TL.on rfl rfl rfl rfl (c19) ?_
   refine TL.op1 (OpR.pure rfl) rfl ?_
   refine TL.on rfl rfl rfl rfl (c19) ?_
   obtain ⟨x20, hx20, ht17⟩ := bnd_some ht17
   refine TL.op1 (OpR.call0 fn13 (law09_Fits_c hx20) rfl) rfl ?_
   refine TL.op1 (OpR.pickT rfl (c19) rfl) rfl ?_
   refine TL.op1 (OpR.pure rfl) rfl ?_
   rcases ite_some ht17 with ⟨c21, ht17⟩ | ⟨c21, ht17⟩
   rotate_left
   · refine TL.off rfl rfl rfl rfl (eq_false_of_ne_true c21) rfl rfl ?_
     refine TL.op1 (OpR.pickF rfl (eq_false_of_ne_true c21) rfl) rfl ?_
     refine TL.op1 (OpR.pure rfl) rfl ?_
     refine TL.nil ?_
     obtain rfl := Option.some.inj ht17
     exact ⟨_, Gst.trans (Gst.only [4] rfl) (Gst.pick [] rfl rfl), rfl⟩
   refine TL.on rfl rfl rfl rfl (c21) ?_
   obtain ⟨x22, hx22, ht17⟩ := bnd_some ht17
   refine TL.op1 (OpR.call0 fn33 (law10_awake_c hx22) rfl) rfl ?_
   refine TL.op1 (OpR.pickT rfl (c21) rfl) rfl ?_
   refine TL.op1 (OpR.pure rfl) rfl ?_
   refine TL.nil ?_
   obtain rfl := Option.some.inj ht17
   exact ⟨_, Gst.trans (Gst.only [4] rfl) (Gst.pick [] rfl rfl), rfl⟩
 refine oS (d := .agg [(eOP x2.fRoot)]) (fun _ => Want.plain rfl) (fun _ => rfl) (fun _ _ _ => rfl) (fun _ _ => OpR.loadPtr 0 rfl rfl rfl rfl) (fun _ _ _ _ _ _ _ => rfl) ?_
 refine oS (d := .val (.int .i64 x4.1)) (fun _ => Want.plain rfl) (fun _ => rfl) (fun _ _ _ => rfl) (fun _ _ => OpR.pure rfl) (fun _ _ _ _ _ _ _ => rfl) ?_
 refine oS (d := .val (.int .i64 x4.2)) (fun _ => Want.plain rfl) (fun _ => rfl) (fun _ _ _ => rfl) (fun _ _ => OpR.pure rfl) (fun _ _ _ _ _ _ _ => rfl) ?_
 refine oS (d := .agg [(eOP none)]) (fun _ => Want.plain rfl) (fun _ => rfl) (fun _ _ _ => rfl) (fun _ _ => OpR.build rfl rfl rfl rfl rfl) (fun _ _ _ _ _ _ _ => rfl) ?_
 refine oS (d := .agg [(eOP x14.fRoot)]) (fun _ => Want.plain rfl) (fun _ => rfl) (fun _ _ _ => rfl) (fun _ _ => OpR.call0 fn29 (walk_Splice_int_c hx14) rfl) (fun _ _ _ _ _ _ _ => rfl) ?_
 refine oS (d := .val (.int .i64 x4.1)) (fun _ => Want.plain rfl) (fun _ => rfl) (fun _ _ _ => rfl) (fun _ _ => OpR.pure rfl) (fun _ _ _ _ _ _ _ => rfl) ?_
 refine oS (d := .val (.int .i64 x4.1)) (fun _ => Want.plain rfl) (fun _ => rfl) (fun _ _ _ => rfl) (fun _ _ => OpR.pure rfl) (fun _ _ _ _ _ _ _ => rfl) ?_
 refine oS (d := .agg [(eOP x2.fRoot)]) (fun _ => Want.plain rfl) (fun _ => rfl) (fun _ _ _ => rfl) (fun _ _ => OpR.loadPtr 0 rfl rfl rfl rfl) (fun _ _ _ _ _ _ _ => rfl) ?_
 refine oS (d := .val (.int .i64 x4.1)) (fun _ => Want.plain rfl) (fun _ => rfl) (fun _ _ _ => rfl) (fun _ _ => OpR.pure rfl) (fun _ _ _ _ _ _ _ => rfl) ?_
 refine oS (d := .val (.int .i64 x4.2)) (fun _ => Want.plain rfl) (fun _ => rfl) (fun _ _ _ => rfl) (fun _ _ => OpR.pure rfl) (fun _ _ _ _ _ _ _ => rfl) ?_
 refine oS (d := .agg [(eOP x15.fRoot)]) (fun _ => Want.plain rfl) (fun _ => rfl) (fun _ _ _ => rfl) (fun _ _ => OpR.call0 fn27 (walk_Slice_int_c hx15) rfl) (fun _ _ _ _ _ _ _ => rfl) ?_
 refine oS (d := .agg [(eOP x16.fRoot)]) (fun _ => Want.plain rfl) (fun _ => rfl) (fun _ _ _ => rfl) (fun _ _ => OpR.call0 fn29 (walk_Splice_int_c hx16) rfl) (fun _ _ _ _ _ _ _ => rfl) ?_
 refine OpsS.cons' true ?_ (fun D hA env13 x j hj hD => match j, hj, hD with | 0, _, _ => rfl | 1, _, _ => rfl | 2, _, _ => rfl | 3, _, _ => rfl | 4, _, _ => rfl | 5, _, _ => rfl | 6, _, _ => rfl | 7, _, _ => rfl | 8, _, _ => rfl | 9, _, _ => rfl | 10, _, _ => rfl | 11, _, _ => rfl | 12, hj, _ => absurd rfl hj | 13, _, _ => rfl | _ + 14, _, _ => rfl) ?_
 · intro D env13 hA
   have e13 : D 13 = false := hA.no 13 _ rfl rfl
   exact OpS.yes (o0 := [.var (blk p3) [(eOP x2.fRoot)] 27, .var (blk p10) [(eOP x9.fRoot)] 27, .var (blk p12) [(eOP x11.fRoot)] 27]) (o1 := fun x => [.var (blk p3) [(eOP x2.fRoot)] 27, .var (blk p10) [(eOP x9.fRoot)] 27, .var (blk p12) [(eOP x11.fRoot)] 27, .var (blk x) [(eOP none)] 27]) (d := fun x => .val (.pointer (some ⟨(blk x), 0, none⟩))) (Want.plain rfl) (by first | rfl | simp only [e13, hA.me, cond_true, cond_false, List.cons_append, List.nil_append, List.append_nil]) (fun x => by first | rfl | simp only [ins_self, ins_ne D (show 12 ≠ 13 by decide), upd_self, e13, hA.me, cond_true, cond_false, List.cons_append, List.nil_append, List.append_nil]) (fun x => rfl) (OpR.alloc rfl rfl (fun _ => rfl))
 refine OpsS.cons' true ?_ (fun _ _ _ _ _ _ _ => rfl) ?_
 · intro D env13 hA
   have e12 : D 12 = true := hA.yes 12 _ rfl rfl
   exact OpS.yes (o0 := [.var (blk p3) [(eOP x2.fRoot)] 27, .var (blk p10) [(eOP x9.fRoot)] 27, .var (blk p12) [(eOP x11.fRoot)] 27, .var (blk (env13 12)) [(eOP none)] 27]) (o1 := fun x => [.var (blk p3) [(eOP x2.fRoot)] 27, .var (blk p10) [(eOP x9.fRoot)] 27, .var (blk p12) [(eOP x11.fRoot)] 27, .var (blk (env13 12)) [(eOP x16.fRoot)] 27]) (d := fun x => .dead) (Want.plain rfl) (by first | rfl | simp only [e12, hA.me, cond_true, cond_false, List.cons_append, List.nil_append, List.append_nil]) (fun x => by first | rfl | simp only [ins_self, ins_ne D (show 13 ≠ 12 by decide), upd_self, upd_ne env13 x (show 13 ≠ 12 by decide), e12, hA.me, cond_true, cond_false, List.cons_append, List.nil_append, List.append_nil]) (fun x => rfl) (OpR.store 3 rfl rfl rfl rfl rfl rfl rfl rfl)
 exact trivial
end Go.Proofs.Ytkmdfaodbiknlaa.S
