/- Printed by a program of this session's own (gen.py): Lean functions for Go functions, and the proofs that the Go code comes to their answers. -/
import Derived.Test.YtbcbggdgkdfciaaG1xa
import Derived.Test.YtbcbggdgkdfciaaG2xa
set_option linter.unusedVariables false
set_option linter.unusedSimpArgs false
set_option maxRecDepth 20000
namespace Go.Proofs.Ytbcbggdgkdfciaa.S
open Go Go.Sm
attribute [local irreducible] T TL OpR CallT iter loop
noncomputable def law08_awake : Option Bool :=
  bnd (arena_New_2) fun x1 =>
  bnd (cell_Put [120] x1.2) fun x4 =>
  bnd (row_Fresh 1 0) fun x8 =>
  bnd (row_Row_Set x8 2 x4.1) fun x9 =>
  bnd (row_Row_At x9.1 1) fun x10 =>
  bnd (if x9.2 = 0 then
    bnd (row_Row_Len x9.1) fun x14 =>
    if x14 = 3 then
      if x10.2 = true then
        bnd (cell_Cell_Empty x10.1) fun x17 =>
        if x17 = true then
          bnd (row_Row_Print x9.1 x4.2.2) fun x19 =>
          some (x19 == [44, 44, 120])
        else
          some false
      else
        some false
    else
      some false
  else
    some false : Option Bool) fun t12 =>
  some t12
set_option maxHeartbeats 4000000 in
theorem law08_awake_c {res : Bool} (h0 : law08_awake = some res) : CallF X 35 [] [] (fun x => .val (.bool res)) (fun x => []) := by
 unfold law08_awake at h0
 refine CallF.mkG (X := X) Try.func35 rfl rfl Try.ntmps35 rfl rfl ?_
 refine T.seq ?_
 refine T.region ?_
 refine TL.op1 (OpR.pure rfl) rfl ?_
 refine TL.nil ?_
 show T X _ _ _
 refine T.seq ?_
 refine T.region ?_
 obtain ⟨x1, hx1, h0⟩ := bnd_some h0
 refine TL.op (OpR.call [] fn25 (arena_New_2_c hx1) rfl rfl rfl (fun _ => rfl)) rfl (fun w2 => ?_)
 refine TL.op1 (OpR.pure rfl) rfl ?_
 refine TL.op1 (OpR.pure rfl) rfl ?_
 refine TL.op1 (OpR.pure rfl) rfl ?_
 refine TL.op1 (OpR.pure rfl) rfl ?_
 refine TL.op1 (OpR.pure rfl) rfl ?_
 refine TL.nil ?_
 show T X _ _ _
 refine T.seq ?_
 refine T.region ?_
 refine TL.op1 (OpR.pure rfl) rfl ?_
 refine TL.op (OpR.litRow rfl rfl rfl rfl rfl rfl rfl rfl (fun _ => rfl)) rfl (fun v3 => ?_)
 refine TL.op1 (OpR.markRow 2 rfl rfl rfl rfl rfl rfl rfl rfl) rfl ?_
 obtain ⟨x4, hx4, h0⟩ := bnd_some h0
 refine TL.op (OpR.call [0, 1] fn73 (cell_Put_c hx4) rfl rfl rfl (fun _ => rfl)) rfl (fun w5 => ?_)
 refine TL.op1 (OpR.pure rfl) rfl ?_
 refine TL.op1 (OpR.pure rfl) rfl ?_
 refine TL.op1 (OpR.pure rfl) rfl ?_
 refine TL.op (OpR.alloc rfl rfl (fun _ => rfl)) rfl (fun p6 => ?_)
 refine TL.op0 (OpR.store 3 rfl rfl rfl rfl rfl rfl rfl rfl) ?_
 refine TL.op1 (OpR.pure rfl) rfl ?_
 refine TL.nil ?_
 show T X _ _ _
 refine T.seq ?_
 obtain ⟨x8, hx8, h0⟩ := bnd_some h0
 obtain ⟨x9, hx9, h0⟩ := bnd_some h0
 refine T.drawS drawsX (fun env7 => [.agg [.sl 5 (List.map e_cell_Cell x8.fCells), .val (.int .i64 x8.fEnd), .val (.bool x8.fHidden)], .agg [.sl 2 (List.map e_arena_Span x4.1.fText.fL), .val (.int .i64 x4.1.fText.fN), .val (.int .i64 x4.1.fRaw.fAt), .val (.int .i64 x4.1.fRaw.fN), .val (.bool x4.1.fKept)], .tup [.agg [.sl 5 (List.map e_cell_Cell x9.1.fCells), .val (.int .i64 x9.1.fEnd), .val (.bool x9.1.fHidden)], .val (.int .i64 x9.2)], .tup [.agg [.sl 5 (List.map e_cell_Cell x9.1.fCells), .val (.int .i64 x9.1.fEnd), .val (.bool x9.1.fHidden)], .val (.int .i64 x9.2)], .agg [.sl 5 (List.map e_cell_Cell x9.1.fCells), .val (.int .i64 x9.1.fEnd), .val (.bool x9.1.fHidden)], .val (.int .i64 x9.2), .val (.pointer (some ⟨(blk (env7 6)), 0, none⟩)), .dead, .val (.int .i64 x9.2)]) (fun D env7 => [.var (blk (vn w2 0)) [.val (vn w5 0)] 142, .row (vn w5 0) (List.map byteD x4.2.2) 1 5, .gone, .var (blk p6) [.sl 2 (List.map e_arena_Span x4.1.fText.fL), .val (.int .i64 x4.1.fText.fN), .val (.int .i64 x4.1.fRaw.fAt), .val (.int .i64 x4.1.fRaw.fN), .val (.bool x4.1.fKept)] 108] ++ (bif D 6 then [(bif D 7 then .var (blk (env7 6)) [.sl 5 (List.map e_cell_Cell x9.1.fCells), .val (.int .i64 x9.1.fEnd), .val (.bool x9.1.fHidden)] 49 else .var (blk (env7 6)) [.val (.slice none 0 0), .val (.int .i64 0), .val (.bool false)] 49)] else [])) [0, 0, 3, 7, 15, 15, 0, 95, 255] [0, 1, 2, 3, 4, 5, 6, 9, 10, 11, 12, 13, 14, 15, 16, 17, 18, 19, 20, 21, 22, 23, 24, 25] (fun env7 => [.var (blk (vn w2 0)) [.val (vn w5 0)] 142, .row (vn w5 0) (List.map byteD x4.2.2) 1 5, .gone, .var (blk p6) [.sl 2 (List.map e_arena_Span x4.1.fText.fL), .val (.int .i64 x4.1.fText.fN), .val (.int .i64 x4.1.fRaw.fAt), .val (.int .i64 x4.1.fRaw.fN), .val (.bool x4.1.fKept)] 108, .var (blk (env7 6)) [.sl 5 (List.map e_cell_Cell x9.1.fCells), .val (.int .i64 x9.1.fEnd), .val (.bool x9.1.fHidden)] 49]) (by decide +kernel) (by decide +kernel) (fun _ => rfl) (fun _ => rfl) ?_ (fun _ => rfl) (fun _ => rfl) ?_
 · refine oS (d := .agg [.sl 5 (List.map e_cell_Cell x8.fCells), .val (.int .i64 x8.fEnd), .val (.bool x8.fHidden)]) (fun _ => Want.plain rfl) (fun _ => rfl) (fun _ _ _ => rfl) (fun _ _ => OpR.call0 fn36 (row_Fresh_c hx8) rfl) (fun _ _ _ _ _ _ _ => rfl) ?_
   refine oS (d := .agg [.sl 2 (List.map e_arena_Span x4.1.fText.fL), .val (.int .i64 x4.1.fText.fN), .val (.int .i64 x4.1.fRaw.fAt), .val (.int .i64 x4.1.fRaw.fN), .val (.bool x4.1.fKept)]) (fun _ => Want.plain rfl) (fun _ => rfl) (fun _ _ _ => rfl) (fun _ _ => OpR.loadPtr 3 rfl rfl rfl rfl) (fun _ _ _ _ _ _ _ => rfl) ?_
   refine oS (d := .tup [.agg [.sl 5 (List.map e_cell_Cell x9.1.fCells), .val (.int .i64 x9.1.fEnd), .val (.bool x9.1.fHidden)], .val (.int .i64 x9.2)]) (fun _ => Want.plain rfl) (fun _ => rfl) (fun _ _ _ => rfl) (fun _ _ => OpR.call0 fn74 (row_Row_Set_c hx9) rfl) (fun _ _ _ _ _ _ _ => rfl) ?_
   refine oS (d := .tup [.agg [.sl 5 (List.map e_cell_Cell x9.1.fCells), .val (.int .i64 x9.1.fEnd), .val (.bool x9.1.fHidden)], .val (.int .i64 x9.2)]) (fun _ => Want.plain rfl) (fun _ => rfl) (fun _ _ _ => rfl) (fun _ _ => OpR.pure rfl) (fun _ _ _ _ _ _ _ => rfl) ?_
   refine oS (d := .agg [.sl 5 (List.map e_cell_Cell x9.1.fCells), .val (.int .i64 x9.1.fEnd), .val (.bool x9.1.fHidden)]) (fun _ => Want.plain rfl) (fun _ => rfl) (fun _ _ _ => rfl) (fun _ _ => OpR.pure rfl) (fun _ _ _ _ _ _ _ => rfl) ?_
   refine oS (d := .val (.int .i64 x9.2)) (fun _ => Want.plain rfl) (fun _ => rfl) (fun _ _ _ => rfl) (fun _ _ => OpR.pure rfl) (fun _ _ _ _ _ _ _ => rfl) ?_
   refine OpsS.cons' true ?_ (fun D hA env7 x j hj hD => match j, hj, hD with | 0, _, _ => rfl | 1, _, _ => rfl | 2, _, _ => rfl | 3, _, _ => rfl | 4, _, _ => rfl | 5, _, _ => rfl | 6, hj, _ => absurd rfl hj | 7, _, _ => rfl | 8, _, _ => rfl | _ + 9, _, _ => rfl) ?_
   · intro D env7 hA
     have e7 : D 7 = false := hA.no 7 _ rfl rfl
     exact OpS.yes (o0 := [.var (blk (vn w2 0)) [.val (vn w5 0)] 142, .row (vn w5 0) (List.map byteD x4.2.2) 1 5, .gone, .var (blk p6) [.sl 2 (List.map e_arena_Span x4.1.fText.fL), .val (.int .i64 x4.1.fText.fN), .val (.int .i64 x4.1.fRaw.fAt), .val (.int .i64 x4.1.fRaw.fN), .val (.bool x4.1.fKept)] 108]) (o1 := fun x => [.var (blk (vn w2 0)) [.val (vn w5 0)] 142, .row (vn w5 0) (List.map byteD x4.2.2) 1 5, .gone, .var (blk p6) [.sl 2 (List.map e_arena_Span x4.1.fText.fL), .val (.int .i64 x4.1.fText.fN), .val (.int .i64 x4.1.fRaw.fAt), .val (.int .i64 x4.1.fRaw.fN), .val (.bool x4.1.fKept)] 108, .var (blk x) [.val (.slice none 0 0), .val (.int .i64 0), .val (.bool false)] 49]) (d := fun x => .val (.pointer (some ⟨(blk x), 0, none⟩))) (Want.plain rfl) (by first | rfl | simp only [e7, hA.me, cond_true, cond_false, List.cons_append, List.nil_append, List.append_nil]) (fun x => by first | rfl | simp only [ins_self, ins_ne D (show 6 ≠ 7 by decide), upd_self, e7, hA.me, cond_true, cond_false, List.cons_append, List.nil_append, List.append_nil]) (fun x => rfl) (OpR.alloc rfl rfl (fun _ => rfl))
   refine OpsS.cons' true ?_ (fun _ _ _ _ _ _ _ => rfl) ?_
   · intro D env7 hA
     have e6 : D 6 = true := hA.yes 6 _ rfl rfl
     exact OpS.yes (o0 := [.var (blk (vn w2 0)) [.val (vn w5 0)] 142, .row (vn w5 0) (List.map byteD x4.2.2) 1 5, .gone, .var (blk p6) [.sl 2 (List.map e_arena_Span x4.1.fText.fL), .val (.int .i64 x4.1.fText.fN), .val (.int .i64 x4.1.fRaw.fAt), .val (.int .i64 x4.1.fRaw.fN), .val (.bool x4.1.fKept)] 108, .var (blk (env7 6)) [.val (.slice none 0 0), .val (.int .i64 0), .val (.bool false)] 49]) (o1 := fun x => [.var (blk (vn w2 0)) [.val (vn w5 0)] 142, .row (vn w5 0) (List.map byteD x4.2.2) 1 5, .gone, .var (blk p6) [.sl 2 (List.map e_arena_Span x4.1.fText.fL), .val (.int .i64 x4.1.fText.fN), .val (.int .i64 x4.1.fRaw.fAt), .val (.int .i64 x4.1.fRaw.fN), .val (.bool x4.1.fKept)] 108, .var (blk (env7 6)) [.sl 5 (List.map e_cell_Cell x9.1.fCells), .val (.int .i64 x9.1.fEnd), .val (.bool x9.1.fHidden)] 49]) (d := fun x => .dead) (Want.plain rfl) (by first | rfl | simp only [e6, hA.me, cond_true, cond_false, List.cons_append, List.nil_append, List.append_nil]) (fun x => by first | rfl | simp only [ins_self, ins_ne D (show 7 ≠ 6 by decide), upd_self, upd_ne env7 x (show 7 ≠ 6 by decide), e6, hA.me, cond_true, cond_false, List.cons_append, List.nil_append, List.append_nil]) (fun x => rfl) (OpR.store 4 rfl rfl rfl rfl rfl rfl rfl rfl)
   refine oS (d := .val (.int .i64 x9.2)) (fun _ => Want.plain rfl) (fun _ => rfl) (fun _ _ _ => rfl) (fun _ _ => OpR.pure rfl) (fun _ _ _ _ _ _ _ => rfl) ?_
   exact trivial
 intro env7
 show T X _ _ _
 refine T.seq ?_
 refine T.region ?_
 refine TL.op1 (OpR.loadPtr 4 rfl rfl rfl rfl) rfl ?_
 obtain ⟨x10, hx10, h0⟩ := bnd_some h0
 refine TL.op1 (OpR.call0 fn53 (row_Row_At_c hx10) rfl) rfl ?_
 refine TL.op1 (OpR.pure rfl) rfl ?_
 refine TL.op1 (OpR.pure rfl) rfl ?_
 refine TL.op1 (OpR.pure rfl) rfl ?_
 refine TL.op (OpR.alloc rfl rfl (fun _ => rfl)) rfl (fun p11 => ?_)
 refine TL.op0 (OpR.store 5 rfl rfl rfl rfl rfl rfl rfl rfl) ?_
 refine TL.op1 (OpR.pure rfl) rfl ?_
 refine TL.nil ?_
 show T X _ _ _
 refine T.seq ?_
 obtain ⟨t12, ht12, h0⟩ := bnd_some h0
 refine T.cutC (fun S' => S' = ⟨[(0, .val (.bool t12))], [], 52⟩) (fun _ h => h) ?_ ?_
 rotate_left
 · rintro _ rfl
   show T X _ _ _
   refine T.ret ?_
   obtain rfl := Option.some.inj h0
   exact PostG.retP (ks := []) (Gst.only [0] rfl) undef (ResL.cons (ResV.tmp rfl) ResL.nil) rfl rfl rfl rfl
 refine T.region ?_
 refine TL.op1 (OpR.pure rfl) rfl ?_
 refine TL.op1 (OpR.pure rfl) rfl ?_
 refine TL.op1 (OpR.pure rfl) rfl ?_
 rcases ite_some ht12 with ⟨c13, ht12⟩ | ⟨c13, ht12⟩
 rotate_left
 · refine TL.off rfl rfl rfl rfl (beq_eq_false_iff_ne.2 c13) rfl rfl ?_
   refine TL.off rfl rfl rfl rfl (beq_eq_false_iff_ne.2 c13) rfl rfl ?_
   refine TL.off rfl rfl rfl rfl (beq_eq_false_iff_ne.2 c13) rfl rfl ?_
   refine TL.op1 (OpR.pickF rfl (beq_eq_false_iff_ne.2 c13) rfl) rfl ?_
   refine TL.op1 (OpR.pure rfl) rfl ?_
   refine TL.off rfl rfl rfl rfl rfl rfl rfl ?_
   refine TL.op1 (OpR.pickF rfl rfl rfl) rfl ?_
   refine TL.op1 (OpR.pure rfl) rfl ?_
   refine TL.off rfl rfl rfl rfl rfl rfl rfl ?_
   refine TL.off rfl rfl rfl rfl rfl rfl rfl ?_
   refine TL.op1 (OpR.pickF rfl rfl rfl) rfl ?_
   refine TL.op1 (OpR.pure rfl) rfl ?_
   refine TL.off rfl rfl rfl rfl rfl rfl rfl ?_
   refine TL.off rfl rfl rfl rfl rfl rfl rfl ?_
   refine TL.off rfl rfl rfl rfl rfl rfl rfl ?_
   refine TL.off rfl rfl rfl rfl rfl rfl rfl ?_
   refine TL.off rfl rfl rfl rfl rfl rfl rfl ?_
   refine TL.op1 (OpR.pickF rfl rfl rfl) rfl ?_
   refine TL.op1 (OpR.pure rfl) rfl ?_
   refine TL.nil ?_
   obtain rfl := Option.some.inj ht12
   exact ⟨_, Gst.trans (Gst.only [0] rfl) (Gst.pick [] rfl rfl), rfl⟩
 refine TL.on rfl rfl rfl rfl (beq_iff_eq.2 c13) ?_
 refine TL.op1 (OpR.loadPtr 4 rfl rfl rfl rfl) rfl ?_
 refine TL.on rfl rfl rfl rfl (beq_iff_eq.2 c13) ?_
 obtain ⟨x14, hx14, ht12⟩ := bnd_some ht12
 refine TL.op1 (OpR.call0 fn52 (row_Row_Len_c hx14) rfl) rfl ?_
 refine TL.on rfl rfl rfl rfl (beq_iff_eq.2 c13) ?_
 refine TL.op1 (OpR.pure rfl) rfl ?_
 refine TL.op1 (OpR.pickT rfl (beq_iff_eq.2 c13) rfl) rfl ?_
 refine TL.op1 (OpR.pure rfl) rfl ?_
 rcases ite_some ht12 with ⟨c15, ht12⟩ | ⟨c15, ht12⟩
 rotate_left
 · refine TL.off rfl rfl rfl rfl (beq_eq_false_iff_ne.2 c15) rfl rfl ?_
   refine TL.op1 (OpR.pickF rfl (beq_eq_false_iff_ne.2 c15) rfl) rfl ?_
   refine TL.op1 (OpR.pure rfl) rfl ?_
   refine TL.off rfl rfl rfl rfl rfl rfl rfl ?_
   refine TL.off rfl rfl rfl rfl rfl rfl rfl ?_
   refine TL.op1 (OpR.pickF rfl rfl rfl) rfl ?_
   refine TL.op1 (OpR.pure rfl) rfl ?_
   refine TL.off rfl rfl rfl rfl rfl rfl rfl ?_
   refine TL.off rfl rfl rfl rfl rfl rfl rfl ?_
   refine TL.off rfl rfl rfl rfl rfl rfl rfl ?_
   refine TL.off rfl rfl rfl rfl rfl rfl rfl ?_
   refine TL.off rfl rfl rfl rfl rfl rfl rfl ?_
   refine TL.op1 (OpR.pickF rfl rfl rfl) rfl ?_
   refine TL.op1 (OpR.pure rfl) rfl ?_
   refine TL.nil ?_
   obtain rfl := Option.some.inj ht12
   exact ⟨_, Gst.trans (Gst.only [0] rfl) (Gst.pick [] rfl rfl), rfl⟩
 refine TL.on rfl rfl rfl rfl (beq_iff_eq.2 c15) ?_
 refine TL.op1 (OpR.pure rfl) rfl ?_
 refine TL.op1 (OpR.pickT rfl (beq_iff_eq.2 c15) rfl) rfl ?_
 refine TL.op1 (OpR.pure rfl) rfl ?_
 rcases ite_some ht12 with ⟨c16, ht12⟩ | ⟨c16, ht12⟩
 rotate_left
 · refine TL.off rfl rfl rfl rfl (eq_false_of_ne_true c16) rfl rfl ?_
   refine TL.off rfl rfl rfl rfl (eq_false_of_ne_true c16) rfl rfl ?_
   refine TL.op1 (OpR.pickF rfl (eq_false_of_ne_true c16) rfl) rfl ?_
   refine TL.op1 (OpR.pure rfl) rfl ?_
   refine TL.off rfl rfl rfl rfl rfl rfl rfl ?_
   refine TL.off rfl rfl rfl rfl rfl rfl rfl ?_
   refine TL.off rfl rfl rfl rfl rfl rfl rfl ?_
   refine TL.off rfl rfl rfl rfl rfl rfl rfl ?_
   refine TL.off rfl rfl rfl rfl rfl rfl rfl ?_
   refine TL.op1 (OpR.pickF rfl rfl rfl) rfl ?_
   refine TL.op1 (OpR.pure rfl) rfl ?_
   refine TL.nil ?_
   obtain rfl := Option.some.inj ht12
   exact ⟨_, Gst.trans (Gst.only [0] rfl) (Gst.pick [] rfl rfl), rfl⟩
 refine TL.on rfl rfl rfl rfl (c16) ?_
 refine TL.op1 (OpR.loadPtr 5 rfl rfl rfl rfl) rfl ?_
 refine TL.on rfl rfl rfl rfl (c16) ?_
 obtain ⟨x17, hx17, ht12⟩ := bnd_some ht12
 refine TL.op1 (OpR.call0 fn75 (cell_Cell_Empty_c hx17) rfl) rfl ?_
 refine TL.op1 (OpR.pickT rfl (c16) rfl) rfl ?_
 refine TL.op1 (OpR.pure rfl) rfl ?_
 rcases ite_some ht12 with ⟨c18, ht12⟩ | ⟨c18, ht12⟩
 rotate_left
 · refine TL.off rfl rfl rfl rfl (eq_false_of_ne_true c18) rfl rfl ?_
   refine TL.off rfl rfl rfl rfl (eq_false_of_ne_true c18) rfl rfl ?_
   refine TL.off rfl rfl rfl rfl (eq_false_of_ne_true c18) rfl rfl ?_
   refine TL.off rfl rfl rfl rfl (eq_false_of_ne_true c18) rfl rfl ?_
   refine TL.off rfl rfl rfl rfl (eq_false_of_ne_true c18) rfl rfl ?_
   refine TL.op1 (OpR.pickF rfl (eq_false_of_ne_true c18) rfl) rfl ?_
   refine TL.op1 (OpR.pure rfl) rfl ?_
   refine TL.nil ?_
   obtain rfl := Option.some.inj ht12
   exact ⟨_, Gst.trans (Gst.only [0] rfl) (Gst.pick [] rfl rfl), rfl⟩
 refine TL.on rfl rfl rfl rfl (c18) ?_
 refine TL.op1 (OpR.loadPtr 4 rfl rfl rfl rfl) rfl ?_
 refine TL.on rfl rfl rfl rfl (c18) ?_
 refine TL.op1 (OpR.pure rfl) rfl ?_
 refine TL.on rfl rfl rfl rfl (c18) ?_
 obtain ⟨x19, hx19, ht12⟩ := bnd_some ht12
 refine TL.op1 (OpR.call [0, 1] fn33 (row_Row_Print_c hx19) rfl rfl rfl (fun _ => rfl)) rfl ?_
 refine TL.on rfl rfl rfl rfl (c18) ?_
 refine TL.op1 (OpR.toStr (bs := x19) rfl rfl rfl rfl rfl rfl rfl) rfl ?_
 refine TL.on rfl rfl rfl rfl (c18) ?_
 refine TL.op1 (OpR.cast (OpR.pure rfl) (boolE (strEq _ _))) rfl ?_
 refine TL.op1 (OpR.pickT rfl (c18) rfl) rfl ?_
 refine TL.op1 (OpR.pure rfl) rfl ?_
 refine TL.nil ?_
 obtain rfl := Option.some.inj ht12
 exact ⟨_, Gst.trans (Gst.only [0] rfl) (Gst.pick [] rfl rfl), rfl⟩
noncomputable def law07_Plain (a0 : cell_Cell) (a1 : List UInt8) : Option ref07_Cell :=
  bnd (cell_Cell_Bytes a0 a1) fun x3 =>
  bnd (if a0.fKept = true then
    bnd (arena_Arena_Bytes a0.fRaw a1) fun x6 =>
    some x6
  else
    some [] : Option (List UInt8)) fun t4 =>
  some (⟨x3, t4, a0.fKept⟩ : ref07_Cell)
set_option maxHeartbeats 4000000 in
theorem law07_Plain_c {a0 : cell_Cell} {a1 : List UInt8} {b0 : Nat} {v1 : Value} {res : ref07_Cell} (h0 : law07_Plain a0 a1 = some res) : CallF X 54 [.val (.pointer (some ⟨b0, 0, none⟩)), .agg [.sl 2 (List.map e_arena_Span a0.fText.fL), .val (.int .i64 a0.fText.fN), .val (.int .i64 a0.fRaw.fAt), .val (.int .i64 a0.fRaw.fN), .val (.bool a0.fKept)]] [.var b0 [.val v1] 142, .row v1 (List.map byteD a1) 1 5] (fun x => .agg [.val (.string (bs res.fS)), .val (.string (bs res.fRaw)), .val (.bool res.fKept)]) (fun x => [.var b0 [.val v1] 142, .row v1 (List.map byteD a1) 1 5]) := by
 unfold law07_Plain at h0
 refine CallF.mkG (X := X) Try.func54 rfl rfl Try.ntmps54 rfl rfl ?_
 refine T.seq ?_
 refine T.region ?_
 refine TL.op1 (OpR.boxImm rfl rfl) rfl ?_
 refine TL.op (OpR.alloc rfl rfl (fun _ => rfl)) rfl (fun p1 => ?_)
 refine TL.nil ?_
 show T X _ _ _
 refine T.seq ?_
 obtain ⟨x3, hx3, h0⟩ := bnd_some h0
 refine T.drawS drawsX (fun env2 => [.agg [.sl 2 (List.map e_arena_Span a0.fText.fL), .val (.int .i64 a0.fText.fN), .val (.int .i64 a0.fRaw.fAt), .val (.int .i64 a0.fRaw.fN), .val (.bool a0.fKept)], .val (.pointer (some ⟨b0, 0, none⟩)), .sl 1 (List.map byteD x3), .val (.string (bs x3)), .nod [.val (.bool a0.fKept)], .val (.bool a0.fKept), .agg [.val (.string (bs x3)), .val (.string (bs [])), .val (.bool a0.fKept)], .val (.pointer (some ⟨(blk (env2 7)), 0, none⟩)), .dead]) (fun D env2 => [.var b0 [.val v1] 142, .row v1 (List.map byteD a1) 1 5, .var (blk p1) [.val (.string (bs [])), .val (.string (bs [])), .val (.bool false)] 112] ++ (bif D 7 then [(bif D 8 then .var (blk (env2 7)) [.val (.string (bs x3)), .val (.string (bs [])), .val (.bool a0.fKept)] 112 else .var (blk (env2 7)) [.val (.string (bs [])), .val (.string (bs [])), .val (.bool false)] 112)] else [])) [0, 0, 3, 7, 0, 16, 63, 0, 255] [0, 1, 3, 4, 5, 6, 7, 8, 9, 10, 11, 12] (fun env2 => [.var b0 [.val v1] 142, .row v1 (List.map byteD a1) 1 5, .var (blk p1) [.val (.string (bs [])), .val (.string (bs [])), .val (.bool false)] 112, .var (blk (env2 7)) [.val (.string (bs x3)), .val (.string (bs [])), .val (.bool a0.fKept)] 112]) (by decide +kernel) (by decide +kernel) (fun _ => rfl) (fun _ => rfl) ?_ (fun _ => rfl) (fun _ => rfl) ?_
 rotate_left
 · intro env2
   show T X _ _ _
   refine T.seq ?_
   refine T.seq ?_
   refine T.region ?_
   refine TL.op1 (OpR.pure rfl) rfl ?_
   refine TL.op1 (OpR.pure rfl) rfl ?_
   refine TL.nil ?_
   show T X _ _ _
   obtain ⟨t4, ht4, h0⟩ := bnd_some h0
   refine T.cutC (fun S' => S' = ⟨[(5, .val (.pointer (some ⟨(blk (env2 7)), 0, none⟩))), (4, .val (.pointer (some ⟨(blk p1), 0, none⟩)))], [.var b0 [.val v1] 142, .row v1 (List.map byteD a1) 1 5, .var (blk p1) [.val (.string (bs [])), .val (.string (bs [])), .val (.bool false)] 112, .var (blk (env2 7)) [.val (.string (bs x3)), .val (.string (bs t4)), .val (.bool a0.fKept)] 112], 22⟩) (fun _ h => h) ?_ ?_
   rotate_left
   · rintro _ rfl
     show T X _ _ _
     refine T.seq ?_
     refine T.region ?_
     refine TL.op1 (OpR.loadPtr 3 rfl rfl rfl rfl) rfl ?_
     refine TL.op0 (OpR.store 2 rfl rfl rfl rfl rfl rfl rfl rfl) ?_
     refine TL.nil ?_
     show T X _ _ _
     refine T.ret ?_
     obtain rfl := Option.some.inj h0
     exact PostG.retP (ks := [0, 1]) (Gst.trans (Gst.only [4] rfl) (Gst.pick [0, 1, 2] rfl rfl)) undef (ResL.cons (ResV.var 2 rfl rfl rfl rfl) ResL.nil) rfl rfl rfl rfl
   rcases ite_some ht4 with ⟨c5, ht4⟩ | ⟨c5, ht4⟩
   rotate_left
   · refine T.condF rfl (eq_false_of_ne_true c5) ?_
     refine T.skip ?_
     obtain rfl := Option.some.inj ht4
     exact ⟨_, Gst.only [4, 5] rfl, rfl⟩
   refine T.condT rfl (c5) ?_
   refine T.region ?_
   refine TL.op1 (OpR.pure rfl) rfl ?_
   refine TL.op1 (OpR.pure rfl) rfl ?_
   refine TL.op1 (OpR.pure rfl) rfl ?_
   obtain ⟨x6, hx6, ht4⟩ := bnd_some ht4
   refine TL.op1 (OpR.call [0, 1] fn91 (arena_Arena_Bytes_c hx6) rfl rfl rfl (fun _ => rfl)) rfl ?_
   refine TL.op1 (OpR.toStr (bs := x6) rfl rfl rfl rfl rfl rfl rfl) rfl ?_
   refine TL.op1 (OpR.pure rfl) rfl ?_
   refine TL.op0 (OpR.store 3 rfl rfl rfl rfl rfl rfl rfl rfl) ?_
   refine TL.nil ?_
   obtain rfl := Option.some.inj ht4
   exact ⟨_, Gst.only [4, 5] rfl, rfl⟩
 refine oS (d := .agg [.sl 2 (List.map e_arena_Span a0.fText.fL), .val (.int .i64 a0.fText.fN), .val (.int .i64 a0.fRaw.fAt), .val (.int .i64 a0.fRaw.fN), .val (.bool a0.fKept)]) (fun _ => Want.plain rfl) (fun _ => rfl) (fun _ _ _ => rfl) (fun _ _ => OpR.pure rfl) (fun _ _ _ _ _ _ _ => rfl) ?_
 refine oS (d := .val (.pointer (some ⟨b0, 0, none⟩))) (fun _ => Want.plain rfl) (fun _ => rfl) (fun _ _ _ => rfl) (fun _ _ => OpR.pure rfl) (fun _ _ _ _ _ _ _ => rfl) ?_
 refine OpsS.cons' true ?_ (fun _ _ _ _ _ _ _ => rfl) ?_
 · intro D env2 hA
   have e8 : D 8 = false := hA.no 8 _ rfl rfl
   rcases Bool.eq_false_or_eq_true (D 7) with e7 | e7
   rotate_left
   · exact OpS.yes (o0 := [.var b0 [.val v1] 142, .row v1 (List.map byteD a1) 1 5, .var (blk p1) [.val (.string (bs [])), .val (.string (bs [])), .val (.bool false)] 112]) (o1 := fun x => [.var b0 [.val v1] 142, .row v1 (List.map byteD a1) 1 5, .var (blk p1) [.val (.string (bs [])), .val (.string (bs [])), .val (.bool false)] 112]) (d := fun x => .sl 1 (List.map byteD x3)) (Want.plain rfl) (by first | rfl | simp only [e8, e7, cond_true, cond_false, List.cons_append, List.nil_append, List.append_nil]) (fun x => by first | rfl | simp only [ins_self, ins_ne D (show 2 ≠ 7 by decide), ins_ne D (show 2 ≠ 8 by decide), upd_self, upd_ne env2 x (show 2 ≠ 7 by decide), e8, e7, cond_true, cond_false, List.cons_append, List.nil_append, List.append_nil]) (fun x => rfl) (OpR.call [0, 1] fn102 (cell_Cell_Bytes_c hx3) rfl rfl rfl (fun _ => rfl))
   exact OpS.yes (o0 := [.var b0 [.val v1] 142, .row v1 (List.map byteD a1) 1 5, .var (blk p1) [.val (.string (bs [])), .val (.string (bs [])), .val (.bool false)] 112, .var (blk (env2 7)) [.val (.string (bs [])), .val (.string (bs [])), .val (.bool false)] 112]) (o1 := fun x => [.var b0 [.val v1] 142, .row v1 (List.map byteD a1) 1 5, .var (blk p1) [.val (.string (bs [])), .val (.string (bs [])), .val (.bool false)] 112, .var (blk (env2 7)) [.val (.string (bs [])), .val (.string (bs [])), .val (.bool false)] 112]) (d := fun x => .sl 1 (List.map byteD x3)) (Want.plain rfl) (by first | rfl | simp only [e8, e7, cond_true, cond_false, List.cons_append, List.nil_append, List.append_nil]) (fun x => by first | rfl | simp only [ins_self, ins_ne D (show 2 ≠ 7 by decide), ins_ne D (show 2 ≠ 8 by decide), upd_self, upd_ne env2 x (show 2 ≠ 7 by decide), e8, e7, cond_true, cond_false, List.cons_append, List.nil_append, List.append_nil]) (fun x => rfl) (OpR.call [0, 1] fn102 (cell_Cell_Bytes_c hx3) rfl rfl rfl (fun _ => rfl))
 refine oS (d := .val (.string (bs x3))) (fun _ => Want.plain rfl) (fun _ => rfl) (fun _ _ _ => rfl) (fun _ _ => OpR.toStr (bs := x3) rfl rfl rfl rfl rfl rfl rfl) (fun _ _ _ _ _ _ _ => rfl) ?_
 refine oS (d := .nod [.val (.bool a0.fKept)]) (fun _ => Want.plain rfl) (fun _ => rfl) (fun _ _ _ => rfl) (fun _ _ => OpR.pure rfl) (fun _ _ _ _ _ _ _ => rfl) ?_
 refine oS (d := .val (.bool a0.fKept)) (fun _ => Want.plain rfl) (fun _ => rfl) (fun _ _ _ => rfl) (fun _ _ => OpR.pure rfl) (fun _ _ _ _ _ _ _ => rfl) ?_
 refine oS (d := .agg [.val (.string (bs x3)), .val (.string (bs [])), .val (.bool a0.fKept)]) (fun _ => Want.plain rfl) (fun _ => rfl) (fun _ _ _ => rfl) (fun _ _ => OpR.build rfl rfl rfl rfl rfl) (fun _ _ _ _ _ _ _ => rfl) ?_
 refine OpsS.cons' true ?_ (fun D hA env2 x j hj hD => match j, hj, hD with | 0, _, _ => rfl | 1, _, _ => rfl | 2, _, _ => rfl | 3, _, _ => rfl | 4, _, _ => rfl | 5, _, _ => rfl | 6, _, _ => rfl | 7, hj, _ => absurd rfl hj | 8, _, _ => rfl | _ + 9, _, _ => rfl) ?_
 · intro D env2 hA
   have e8 : D 8 = false := hA.no 8 _ rfl rfl
   exact OpS.yes (o0 := [.var b0 [.val v1] 142, .row v1 (List.map byteD a1) 1 5, .var (blk p1) [.val (.string (bs [])), .val (.string (bs [])), .val (.bool false)] 112]) (o1 := fun x => [.var b0 [.val v1] 142, .row v1 (List.map byteD a1) 1 5, .var (blk p1) [.val (.string (bs [])), .val (.string (bs [])), .val (.bool false)] 112, .var (blk x) [.val (.string (bs [])), .val (.string (bs [])), .val (.bool false)] 112]) (d := fun x => .val (.pointer (some ⟨(blk x), 0, none⟩))) (Want.plain rfl) (by first | rfl | simp only [e8, hA.me, cond_true, cond_false, List.cons_append, List.nil_append, List.append_nil]) (fun x => by first | rfl | simp only [ins_self, ins_ne D (show 7 ≠ 8 by decide), upd_self, e8, hA.me, cond_true, cond_false, List.cons_append, List.nil_append, List.append_nil]) (fun x => rfl) (OpR.alloc rfl rfl (fun _ => rfl))
 refine OpsS.cons' true ?_ (fun _ _ _ _ _ _ _ => rfl) ?_
 · intro D env2 hA
   have e7 : D 7 = true := hA.yes 7 _ rfl rfl
   exact OpS.yes (o0 := [.var b0 [.val v1] 142, .row v1 (List.map byteD a1) 1 5, .var (blk p1) [.val (.string (bs [])), .val (.string (bs [])), .val (.bool false)] 112, .var (blk (env2 7)) [.val (.string (bs [])), .val (.string (bs [])), .val (.bool false)] 112]) (o1 := fun x => [.var b0 [.val v1] 142, .row v1 (List.map byteD a1) 1 5, .var (blk p1) [.val (.string (bs [])), .val (.string (bs [])), .val (.bool false)] 112, .var (blk (env2 7)) [.val (.string (bs x3)), .val (.string (bs [])), .val (.bool a0.fKept)] 112]) (d := fun x => .dead) (Want.plain rfl) (by first | rfl | simp only [e7, hA.me, cond_true, cond_false, List.cons_append, List.nil_append, List.append_nil]) (fun x => by first | rfl | simp only [ins_self, ins_ne D (show 8 ≠ 7 by decide), upd_self, upd_ne env2 x (show 8 ≠ 7 by decide), e7, hA.me, cond_true, cond_false, List.cons_append, List.nil_append, List.append_nil]) (fun x => rfl) (OpR.store 3 rfl rfl rfl rfl rfl rfl rfl rfl)
 exact trivial
noncomputable def law08_Plain.l1 (a0 : row_Row) (a1 : List UInt8) (s6 : Int × (List ref07_Cell)) : Option (Lp (Int × (List ref07_Cell)) (List ref07_Cell)) :=
  if s6.1 < (a0.fCells.length : Int) then
    bnd (idx a0.fCells s6.1) fun x15 =>
    bnd (law07_Plain x15 a1) fun x18 =>
    bnd (app 40 s6.2 [x18]) fun x19 =>
    some (Lp.next (w64 (s6.1 + 1), x19))
  else
    some (Lp.done s6.2)
noncomputable def law08_Plain (a0 : row_Row) (a1 : List UInt8) : Option ref08_Row :=
  bnd (loop (law08_Plain.l1 a0 a1) (0, []) : Option (List ref07_Cell)) fun t3 =>
  some (⟨t3, a0.fEnd, a0.fHidden⟩ : ref08_Row)
set_option maxHeartbeats 4000000 in
theorem law08_Plain_c {a0 : row_Row} {a1 : List UInt8} {b0 : Nat} {v1 : Value} {res : ref08_Row} (h0 : law08_Plain a0 a1 = some res) : CallF X 31 [.val (.pointer (some ⟨b0, 0, none⟩)), .agg [.sl 5 (List.map e_cell_Cell a0.fCells), .val (.int .i64 a0.fEnd), .val (.bool a0.fHidden)]] [.var b0 [.val v1] 142, .row v1 (List.map byteD a1) 1 5] (fun x => .agg [.sl 3 (List.map e_ref07_Cell res.fCells), .val (.int .i64 res.fEnd), .val (.bool res.fHidden)]) (fun x => [.var b0 [.val v1] 142, .row v1 (List.map byteD a1) 1 5]) := by
 unfold law08_Plain at h0
 refine CallF.mkG (X := X) Try.func31 rfl rfl Try.ntmps31 rfl rfl ?_
 refine T.seq ?_
 refine T.region ?_
 refine TL.op1 (OpR.boxImm rfl rfl) rfl ?_
 refine TL.op (OpR.alloc rfl rfl (fun _ => rfl)) rfl (fun p1 => ?_)
 refine TL.nil ?_
 show T X _ _ _
 refine T.seq ?_
 refine T.region ?_
 refine TL.op1 (OpR.pure rfl) rfl ?_
 refine TL.op1 (OpR.pure rfl) rfl ?_
 refine TL.op1 (OpR.pure rfl) rfl ?_
 refine TL.op1 (OpR.pure rfl) rfl ?_
 refine TL.op1 (OpR.build rfl rfl rfl rfl rfl) rfl ?_
 refine TL.op (OpR.alloc rfl rfl (fun _ => rfl)) rfl (fun p2 => ?_)
 refine TL.op0 (OpR.store 3 rfl rfl rfl rfl rfl rfl rfl rfl) ?_
 refine TL.nil ?_
 show T X _ _ _
 refine T.seq ?_
 refine T.seq ?_
 refine T.region ?_
 refine TL.op1 (OpR.pure rfl) rfl ?_
 refine TL.op1 (OpR.pure rfl) rfl ?_
 refine TL.op1 (OpR.cast (OpR.pure rfl) (intE (lenM _ _))) rfl ?_
 refine TL.op1 (OpR.pure rfl) rfl ?_
 refine TL.nil ?_
 show T X _ _ _
 obtain ⟨t3, ht3, h0⟩ := bnd_some h0
 refine T.cutC (fun S' => ∃ y4 : Value, S' = ⟨[(5, .val (.pointer (some ⟨(blk p2), 0, none⟩))), (4, .val (.pointer (some ⟨(blk p1), 0, none⟩)))], [.var b0 [.val v1] 142, .row v1 (List.map byteD a1) 1 5, .var (blk p1) [.val (.slice none 0 0), .val (.int .i64 0), .val (.bool false)] 57, .var (blk p2) [.val y4, .val (.int .i64 a0.fEnd), .val (.bool a0.fHidden)] 57, .row y4 (List.map e_ref07_Cell t3) 3 112], 30⟩) (fun _ h => h) ?_ ?_
 rotate_left
 · rintro _ ⟨y4, rfl⟩
   show T X _ _ _
   refine T.seq ?_
   refine T.region ?_
   refine TL.op1 (OpR.loadPtr 3 rfl rfl rfl rfl) rfl ?_
   refine TL.op0 (OpR.store 2 rfl rfl rfl rfl rfl rfl rfl rfl) ?_
   refine TL.nil ?_
   show T X _ _ _
   refine T.ret ?_
   obtain rfl := Option.some.inj h0
   exact PostG.retP (ks := [0, 1]) (Gst.trans (Gst.only [4] rfl) (Gst.trans (Gst.freezeRow 4 rfl rfl (ReS.cons Re.refl ReS.nil) (ReO.same (ReO.same (ReO.var (ReL.cons (Re.base .all) (ReL.cons Re.refl (ReL.cons Re.refl ReL.nil))) (ReO.var (ReL.cons (Re.base .all) (ReL.cons Re.refl (ReL.cons Re.refl ReL.nil))) (ReO.same ReO.nil)))))) (Gst.pick [0, 1, 2] rfl rfl))) undef (ResL.cons (ResV.var 2 rfl rfl rfl rfl) ResL.nil) rfl rfl rfl rfl
 refine T.block ?_
 obtain ⟨n7, n12⟩ := loop_some ht3
 refine T.loop (fun n S' => ∃ S'', Gst S' S'' ∧ ∃ y5 : Value, ∃ s6 : Int × (List ref07_Cell), S'' = ⟨[(16, .val (.int .i64 s6.1)), (15, .val (.int .i64 (a0.fCells.length : Int))), (14, .sl 5 (List.map e_cell_Cell a0.fCells)), (5, .val (.pointer (some ⟨(blk p2), 0, none⟩))), (4, .val (.pointer (some ⟨(blk p1), 0, none⟩))), (0, .val (.pointer (some ⟨b0, 0, none⟩)))], [.var b0 [.val v1] 142, .row v1 (List.map byteD a1) 1 5, .var (blk p1) [.val (.slice none 0 0), .val (.int .i64 0), .val (.bool false)] 57, .var (blk p2) [.val y5, .val (.int .i64 a0.fEnd), .val (.bool a0.fHidden)] 57, .row y5 (List.map e_ref07_Cell s6.2) 3 112], 30⟩ ∧ iter (law08_Plain.l1 a0 a1) n s6 = some t3) n7 ?_ ?_
 · exact ⟨_, Gst.trans (Gst.only [0, 4, 5, 14, 15, 16] rfl) (Gst.nilRow (ow := [.var b0 [.val v1] 142, .row v1 (List.map byteD a1) 1 5, .var (blk p1) [.val (.slice none 0 0), .val (.int .i64 0), .val (.bool false)] 57, .var (blk p2) [.val (.slice none 0 0), .val (.int .i64 a0.fEnd), .val (.bool a0.fHidden)] 57]) 3 112 rfl), (.slice none 0 0), (0, []), rfl, n12⟩
 rintro n7 _ ⟨_, g, y5, s6, rfl, i11⟩
 refine T.ghost g ?_
 obtain ⟨m8, q9, rfl, q10, i11⟩ := iter_succ i11
 unfold law08_Plain.l1 at q10
 refine T.seq ?_
 refine T.region ?_
 refine TL.op1 (OpR.pure rfl) rfl ?_
 refine TL.nil ?_
 show T X _ _ _
 refine T.seq ?_
 rcases ite_some q10 with ⟨c14, q10⟩ | ⟨c14, q10⟩
 rotate_left
 · refine T.condF rfl (decide_eq_false c14) ?_
   refine T.exit ?_
   obtain rfl := Option.some.inj q10
   obtain rfl : _ = _ := i11
   exact ⟨_, Gst.only [4, 5] rfl, y5, rfl⟩
 refine T.condT rfl (decide_eq_true c14) ?_
 refine T.skip ?_
 show T X _ _ _
 refine T.seq ?_
 refine T.block ?_
 refine T.seq ?_
 refine T.region ?_
 obtain ⟨x15, hx15, q10⟩ := bnd_some q10
 refine TL.op1 (OpR.indexM e_cell_Cell hx15 rfl rfl rfl rfl rfl) rfl ?_
 refine TL.op1 (OpR.pure rfl) rfl ?_
 refine TL.op (OpR.alloc rfl rfl (fun _ => rfl)) rfl (fun p16 => ?_)
 refine TL.op0 (OpR.store 5 rfl rfl rfl rfl rfl rfl rfl rfl) ?_
 refine TL.nil ?_
 show T X _ _ _
 obtain ⟨x18, hx18, q10⟩ := bnd_some q10
 obtain ⟨x19, hx19, q10⟩ := bnd_some q10
 refine T.drawS drawsX (fun env17 => [.val (.pointer (some ⟨(blk p2), 0, none⟩)), .val y5, .val (.pointer (some ⟨b0, 0, none⟩)), .agg [.sl 2 (List.map e_arena_Span x15.fText.fL), .val (.int .i64 x15.fText.fN), .val (.int .i64 x15.fRaw.fAt), .val (.int .i64 x15.fRaw.fN), .val (.bool x15.fKept)], .agg [.val (.string (bs x18.fS)), .val (.string (bs x18.fRaw)), .val (.bool x18.fKept)], .sl 3 (List.map e_ref07_Cell [x18]), .val (env17 6), .val (.pointer (some ⟨(blk p2), 0, none⟩)), .dead]) (fun D env17 => [.var b0 [.val v1] 142, .row v1 (List.map byteD a1) 1 5, .var (blk p1) [.val (.slice none 0 0), .val (.int .i64 0), .val (.bool false)] 57, (bif D 8 then .var (blk p2) [.val (env17 6), .val (.int .i64 a0.fEnd), .val (.bool a0.fHidden)] 57 else .var (blk p2) [.val y5, .val (.int .i64 a0.fEnd), .val (.bool a0.fHidden)] 57), (bif D 6 then .row (env17 6) (List.map e_ref07_Cell x19) 3 112 else .row y5 (List.map e_ref07_Cell s6.2) 3 112), .var (blk p16) [.sl 2 (List.map e_arena_Span x15.fText.fL), .val (.int .i64 x15.fText.fN), .val (.int .i64 x15.fRaw.fAt), .val (.int .i64 x15.fRaw.fN), .val (.bool x15.fKept)] 108]) [0, 1, 0, 0, 12, 28, 63, 127, 255] [0, 4, 5, 7, 14, 15, 16, 17, 18, 19, 20, 21, 22, 23, 24, 25, 26, 27] (fun env17 => [.var b0 [.val v1] 142, .row v1 (List.map byteD a1) 1 5, .var (blk p1) [.val (.slice none 0 0), .val (.int .i64 0), .val (.bool false)] 57, .var (blk p2) [.val (env17 6), .val (.int .i64 a0.fEnd), .val (.bool a0.fHidden)] 57, .row (env17 6) (List.map e_ref07_Cell x19) 3 112, .var (blk p16) [.sl 2 (List.map e_arena_Span x15.fText.fL), .val (.int .i64 x15.fText.fN), .val (.int .i64 x15.fRaw.fAt), .val (.int .i64 x15.fRaw.fN), .val (.bool x15.fKept)] 108]) (by decide +kernel) (by decide +kernel) (fun _ => rfl) (fun _ => rfl) ?_ (fun _ => rfl) (fun _ => rfl) ?_
 rotate_left
 · intro env17
   show T X _ _ _
   refine T.region ?_
   refine TL.op1 (OpR.pure rfl) rfl ?_
   refine TL.op1 (OpR.pure rfl) rfl ?_
   refine TL.nil ?_
   obtain rfl := Option.some.inj q10
   exact ⟨m8, Nat.lt_succ_self _, _, Gst.trans (Gst.only [0, 4, 5, 14, 15, 16] rfl) (Gst.pick [0, 1, 2, 3, 4] rfl rfl), (env17 6), (w64 (s6.1 + 1), x19), rfl, i11⟩
 refine oS (d := .val (.pointer (some ⟨(blk p2), 0, none⟩))) (fun _ => Want.plain rfl) (fun _ => rfl) (fun _ _ _ => rfl) (fun _ _ => OpR.pure rfl) (fun _ _ _ _ _ _ _ => rfl) ?_
 refine OpsS.cons' true ?_ (fun _ _ _ _ _ _ _ => rfl) ?_
 · intro D env17 hA
   have e6 : D 6 = false := hA.no 6 _ rfl rfl
   have e8 : D 8 = false := hA.no 8 _ rfl rfl
   exact OpS.yes (o0 := [.var b0 [.val v1] 142, .row v1 (List.map byteD a1) 1 5, .var (blk p1) [.val (.slice none 0 0), .val (.int .i64 0), .val (.bool false)] 57, .var (blk p2) [.val y5, .val (.int .i64 a0.fEnd), .val (.bool a0.fHidden)] 57, .row y5 (List.map e_ref07_Cell s6.2) 3 112, .var (blk p16) [.sl 2 (List.map e_arena_Span x15.fText.fL), .val (.int .i64 x15.fText.fN), .val (.int .i64 x15.fRaw.fAt), .val (.int .i64 x15.fRaw.fN), .val (.bool x15.fKept)] 108]) (o1 := fun x => [.var b0 [.val v1] 142, .row v1 (List.map byteD a1) 1 5, .var (blk p1) [.val (.slice none 0 0), .val (.int .i64 0), .val (.bool false)] 57, .var (blk p2) [.val y5, .val (.int .i64 a0.fEnd), .val (.bool a0.fHidden)] 57, .row y5 (List.map e_ref07_Cell s6.2) 3 112, .var (blk p16) [.sl 2 (List.map e_arena_Span x15.fText.fL), .val (.int .i64 x15.fText.fN), .val (.int .i64 x15.fRaw.fAt), .val (.int .i64 x15.fRaw.fN), .val (.bool x15.fKept)] 108]) (d := fun x => .val y5) (Want.plain rfl) (by first | rfl | simp only [e6, e8, cond_true, cond_false, List.cons_append, List.nil_append, List.append_nil]) (fun x => by first | rfl | simp only [ins_self, ins_ne D (show 1 ≠ 6 by decide), ins_ne D (show 1 ≠ 8 by decide), upd_self, upd_ne env17 x (show 1 ≠ 6 by decide), e6, e8, cond_true, cond_false, List.cons_append, List.nil_append, List.append_nil]) (fun x => rfl) (OpR.loadPtr 3 rfl rfl rfl rfl)
 refine oS (d := .val (.pointer (some ⟨b0, 0, none⟩))) (fun _ => Want.plain rfl) (fun _ => rfl) (fun _ _ _ => rfl) (fun _ _ => OpR.pure rfl) (fun _ _ _ _ _ _ _ => rfl) ?_
 refine oS (d := .agg [.sl 2 (List.map e_arena_Span x15.fText.fL), .val (.int .i64 x15.fText.fN), .val (.int .i64 x15.fRaw.fAt), .val (.int .i64 x15.fRaw.fN), .val (.bool x15.fKept)]) (fun _ => Want.plain rfl) (fun _ => rfl) (fun _ _ _ => rfl) (fun _ _ => OpR.loadPtr 5 rfl rfl rfl rfl) (fun _ _ _ _ _ _ _ => rfl) ?_
 refine OpsS.cons' true ?_ (fun _ _ _ _ _ _ _ => rfl) ?_
 · intro D env17 hA
   have e6 : D 6 = false := hA.no 6 _ rfl rfl
   have e8 : D 8 = false := hA.no 8 _ rfl rfl
   exact OpS.yes (o0 := [.var b0 [.val v1] 142, .row v1 (List.map byteD a1) 1 5, .var (blk p1) [.val (.slice none 0 0), .val (.int .i64 0), .val (.bool false)] 57, .var (blk p2) [.val y5, .val (.int .i64 a0.fEnd), .val (.bool a0.fHidden)] 57, .row y5 (List.map e_ref07_Cell s6.2) 3 112, .var (blk p16) [.sl 2 (List.map e_arena_Span x15.fText.fL), .val (.int .i64 x15.fText.fN), .val (.int .i64 x15.fRaw.fAt), .val (.int .i64 x15.fRaw.fN), .val (.bool x15.fKept)] 108]) (o1 := fun x => [.var b0 [.val v1] 142, .row v1 (List.map byteD a1) 1 5, .var (blk p1) [.val (.slice none 0 0), .val (.int .i64 0), .val (.bool false)] 57, .var (blk p2) [.val y5, .val (.int .i64 a0.fEnd), .val (.bool a0.fHidden)] 57, .row y5 (List.map e_ref07_Cell s6.2) 3 112, .var (blk p16) [.sl 2 (List.map e_arena_Span x15.fText.fL), .val (.int .i64 x15.fText.fN), .val (.int .i64 x15.fRaw.fAt), .val (.int .i64 x15.fRaw.fN), .val (.bool x15.fKept)] 108]) (d := fun x => .agg [.val (.string (bs x18.fS)), .val (.string (bs x18.fRaw)), .val (.bool x18.fKept)]) (Want.plain rfl) (by first | rfl | simp only [e6, e8, cond_true, cond_false, List.cons_append, List.nil_append, List.append_nil]) (fun x => by first | rfl | simp only [ins_self, ins_ne D (show 4 ≠ 6 by decide), ins_ne D (show 4 ≠ 8 by decide), upd_self, upd_ne env17 x (show 4 ≠ 6 by decide), e6, e8, cond_true, cond_false, List.cons_append, List.nil_append, List.append_nil]) (fun x => rfl) (OpR.call [0, 1] fn54 (law07_Plain_c hx18) rfl rfl rfl (fun _ => rfl))
 refine oS (d := .sl 3 (List.map e_ref07_Cell [x18])) (fun _ => Want.plain rfl) (fun _ => rfl) (fun _ _ _ => rfl) (fun _ _ => OpR.lit rfl rfl rfl rfl rfl rfl rfl) (fun _ _ _ _ _ _ _ => rfl) ?_
 refine OpsS.cons' true ?_ (fun D hA env17 x j hj hD => match j, hj, hD with | 0, _, _ => rfl | 1, _, _ => rfl | 2, _, _ => rfl | 3, _, _ => rfl | 4, _, _ => rfl | 5, _, _ => rfl | 6, hj, _ => absurd rfl hj | 7, _, _ => rfl | 8, _, _ => rfl | _ + 9, _, _ => rfl) ?_
 · intro D env17 hA
   have e8 : D 8 = false := hA.no 8 _ rfl rfl
   exact OpS.yes (o0 := [.var b0 [.val v1] 142, .row v1 (List.map byteD a1) 1 5, .var (blk p1) [.val (.slice none 0 0), .val (.int .i64 0), .val (.bool false)] 57, .var (blk p2) [.val y5, .val (.int .i64 a0.fEnd), .val (.bool a0.fHidden)] 57, .row y5 (List.map e_ref07_Cell s6.2) 3 112, .var (blk p16) [.sl 2 (List.map e_arena_Span x15.fText.fL), .val (.int .i64 x15.fText.fN), .val (.int .i64 x15.fRaw.fAt), .val (.int .i64 x15.fRaw.fN), .val (.bool x15.fKept)] 108]) (o1 := fun x => [.var b0 [.val v1] 142, .row v1 (List.map byteD a1) 1 5, .var (blk p1) [.val (.slice none 0 0), .val (.int .i64 0), .val (.bool false)] 57, .var (blk p2) [.val y5, .val (.int .i64 a0.fEnd), .val (.bool a0.fHidden)] 57, .row x (List.map e_ref07_Cell x19) 3 112, .var (blk p16) [.sl 2 (List.map e_arena_Span x15.fText.fL), .val (.int .i64 x15.fText.fN), .val (.int .i64 x15.fRaw.fAt), .val (.int .i64 x15.fRaw.fN), .val (.bool x15.fKept)] 108]) (d := fun x => .val x) (Want.plain rfl) (by first | rfl | simp only [e8, hA.me, cond_true, cond_false, List.cons_append, List.nil_append, List.append_nil]) (fun x => by first | rfl | simp only [ins_self, ins_ne D (show 6 ≠ 8 by decide), upd_self, e8, hA.me, cond_true, cond_false, List.cons_append, List.nil_append, List.append_nil]) (fun x => rfl) (OpR.appendM (m := [x18]) e_ref07_Cell 4 hx19 rfl rfl rfl rfl rfl rfl rfl rfl rfl (fun _ => rfl))
 refine oS (d := .val (.pointer (some ⟨(blk p2), 0, none⟩))) (fun _ => Want.plain rfl) (fun _ => rfl) (fun _ _ _ => rfl) (fun _ _ => OpR.pure rfl) (fun _ _ _ _ _ _ _ => rfl) ?_
 refine OpsS.cons' true ?_ (fun _ _ _ _ _ _ _ => rfl) ?_
 · intro D env17 hA
   have e6 : D 6 = true := hA.yes 6 _ rfl rfl
   exact OpS.yes (o0 := [.var b0 [.val v1] 142, .row v1 (List.map byteD a1) 1 5, .var (blk p1) [.val (.slice none 0 0), .val (.int .i64 0), .val (.bool false)] 57, .var (blk p2) [.val y5, .val (.int .i64 a0.fEnd), .val (.bool a0.fHidden)] 57, .row (env17 6) (List.map e_ref07_Cell x19) 3 112, .var (blk p16) [.sl 2 (List.map e_arena_Span x15.fText.fL), .val (.int .i64 x15.fText.fN), .val (.int .i64 x15.fRaw.fAt), .val (.int .i64 x15.fRaw.fN), .val (.bool x15.fKept)] 108]) (o1 := fun x => [.var b0 [.val v1] 142, .row v1 (List.map byteD a1) 1 5, .var (blk p1) [.val (.slice none 0 0), .val (.int .i64 0), .val (.bool false)] 57, .var (blk p2) [.val (env17 6), .val (.int .i64 a0.fEnd), .val (.bool a0.fHidden)] 57, .row (env17 6) (List.map e_ref07_Cell x19) 3 112, .var (blk p16) [.sl 2 (List.map e_arena_Span x15.fText.fL), .val (.int .i64 x15.fText.fN), .val (.int .i64 x15.fRaw.fAt), .val (.int .i64 x15.fRaw.fN), .val (.bool x15.fKept)] 108]) (d := fun x => .dead) (Want.plain rfl) (by first | rfl | simp only [e6, hA.me, cond_true, cond_false, List.cons_append, List.nil_append, List.append_nil]) (fun x => by first | rfl | simp only [ins_self, ins_ne D (show 8 ≠ 6 by decide), upd_self, upd_ne env17 x (show 8 ≠ 6 by decide), e6, hA.me, cond_true, cond_false, List.cons_append, List.nil_append, List.append_nil]) (fun x => rfl) (OpR.store 3 rfl rfl rfl rfl rfl rfl rfl rfl)
 exact trivial
end Go.Proofs.Ytbcbggdgkdfciaa.S
