/- Printed by a program of this session's own (gen.py): Lean functions for Go functions, and the proofs that the Go code comes to their answers. -/
import Derived.Test.YtpmhiiemklhbhaaG1xb
set_option linter.unusedVariables false
set_option linter.unusedSimpArgs false
set_option maxRecDepth 20000
namespace Go.Proofs.Ytpmhiiemklhbhaa.S
open Go Go.Sm
attribute [local irreducible] T TL OpR CallT iter loop
noncomputable def walk_stack_row_Row_forth.l1 (s7 : (List walk_frame_damier_row_Row)) : Option (Lp (List walk_frame_damier_row_Row) (Ex (List walk_frame_damier_row_Row) (Bool × (List walk_frame_damier_row_Row)))) :=
  if (s7.length : Int) > 0 then
    bnd (walk_stack_row_Row_top s7) fun x16 =>
    bnd (idx s7 x16) fun x17 =>
    bnd (some x17.fN) fun q18 => match q18 with
      | none =>
        none
      | some z19 =>
        bnd (o_tree_Node_damier_row_Row z19) fun x21 =>
        bnd (idx x21.fKids x17.fNext) fun x23 =>
        bnd (o_tree_Node_damier_row_Row x23) fun x24 =>
        bnd (idx (s7.set x16.toNat (⟨x17.fN, w64 (x17.fFirst + x24.fN), x17.fNext⟩ : walk_frame_damier_row_Row)) x16) fun x25 =>
        bnd (idx ((s7.set x16.toNat (⟨x17.fN, w64 (x17.fFirst + x24.fN), x17.fNext⟩ : walk_frame_damier_row_Row)).set x16.toNat (⟨x25.fN, x25.fFirst, w64 (x25.fNext + 1)⟩ : walk_frame_damier_row_Row)) x16) fun x26 =>
        bnd (some x26.fN) fun q27 => match q27 with
          | none =>
            none
          | some z28 =>
            bnd (o_tree_Node_damier_row_Row z28) fun x30 =>
            if x26.fNext < (x30.fKids.length : Int) then
              bnd (idx x30.fKids x26.fNext) fun x34 =>
              bnd (o_tree_Node_damier_row_Row x34) fun x35 =>
              bnd (walk_stack_row_Row_down_2 x35.fKids x35.fItems x35.fN x26.fFirst x26.fFirst ((s7.set x16.toNat (⟨x17.fN, w64 (x17.fFirst + x24.fN), x17.fNext⟩ : walk_frame_damier_row_Row)).set x16.toNat (⟨x25.fN, x25.fFirst, w64 (x25.fNext + 1)⟩ : walk_frame_damier_row_Row))) fun x36 =>
              some (Lp.done (Ex.ret (true, x36)))
            else
              bnd (some (((s7.set x16.toNat (⟨x17.fN, w64 (x17.fFirst + x24.fN), x17.fNext⟩ : walk_frame_damier_row_Row)).set x16.toNat (⟨x25.fN, x25.fFirst, w64 (x25.fNext + 1)⟩ : walk_frame_damier_row_Row)).length : Int)) fun x38 =>
              bnd (cut ((s7.set x16.toNat (⟨x17.fN, w64 (x17.fFirst + x24.fN), x17.fNext⟩ : walk_frame_damier_row_Row)).set x16.toNat (⟨x25.fN, x25.fFirst, w64 (x25.fNext + 1)⟩ : walk_frame_damier_row_Row)) 0 (w64 (x38 - 1))) fun x39 =>
              some (Lp.next x39)
  else
    some (Lp.done (Ex.brk s7))
noncomputable def walk_stack_row_Row_forth (a0 : List walk_frame_damier_row_Row) : Option (Bool × (List walk_frame_damier_row_Row)) :=
  bnd (cut a0 0 (w64 ((a0.length : Int) - 1))) fun x2 =>
  bnd (loop walk_stack_row_Row_forth.l1 x2 : Option (Ex (List walk_frame_damier_row_Row) (Bool × (List walk_frame_damier_row_Row)))) fun t3 => match t3 with
    | .brk u4 =>
      some (false, u4)
    | .ret u4 => some u4
set_option maxHeartbeats 4000000 in
theorem walk_stack_row_Row_forth_c {a0 : List walk_frame_damier_row_Row} {b0 : Nat} {v1 : Value} {res : Bool × (List walk_frame_damier_row_Row)} (h0 : walk_stack_row_Row_forth a0 = some res) : CallF X 48 [.val (.pointer (some ⟨b0, 0, none⟩))] [.var b0 [.val v1] 111, .row v1 (List.map e_walk_frame_damier_row_Row a0) 3 117] (fun x => .val (.bool res.1)) (fun x => [.var b0 [.val (vn x 0)] 111, .row (vn x 0) (List.map e_walk_frame_damier_row_Row res.2) 3 117]) := by
 unfold walk_stack_row_Row_forth at h0
 refine CallF.mkG (X := X) rfl Try.func48 rfl rfl Try.ntmps48 rfl rfl ?_
 refine aS ?_
 refine aA rfl rfl ?_
 refine TL.nil ?_
 show T X _ _ _
 refine T.seq ?_
 obtain ⟨x2, hx2, h0⟩ := bnd_some h0
 refine T.drawS drawsX (fun env1 => [.val (.pointer (some ⟨b0, 0, none⟩)), .val (.pointer (some ⟨b0, 0, none⟩)), .val (.pointer (some ⟨b0, 0, none⟩)), .val (.pointer (some ⟨b0, 0, none⟩)), .val v1, .val (.pointer (some ⟨b0, 0, none⟩)), .val (.pointer (some ⟨b0, 0, none⟩)), .val (.pointer (some ⟨b0, 0, none⟩)), .val v1, .val (.int .i64 (a0.length : Int)), .val (.int .i64 (w64 ((a0.length : Int) - 1))), .val (vw v1 (0 : Int).toNat (w64 ((a0.length : Int) - 1) : Int).toNat 3), .val (.pointer (some ⟨b0, 0, none⟩)), .val (.pointer (some ⟨b0, 0, none⟩)), .dead]) (fun D env1 => [(bif D 14 then .var b0 [.val (vw v1 (0 : Int).toNat (w64 ((a0.length : Int) - 1) : Int).toNat 3)] 111 else .var b0 [.val v1] 111), .row v1 (List.map e_walk_frame_damier_row_Row a0) 3 117]) [0, 0, 2, 6, 14, 0, 32, 96, 224, 480, 992, 2046, 4095, 8191, 16383] [0, 2] (fun env1 => [.var b0 [.val (vw v1 (0 : Int).toNat (w64 ((a0.length : Int) - 1) : Int).toNat 3)] 111, .row v1 (List.map e_walk_frame_damier_row_Row a0) 3 117]) (by decide +kernel) (by decide +kernel) (fun _ => rfl) (fun _ => rfl) ?_ (fun _ => rfl) (fun _ => rfl) ?_
 · iterate 4 refine aC ?_
   refine OpsS.cons' true ?_ (fun _ _ _ _ _ _ _ => rfl) ?_
   · intro D env1 hA
     have e14 : D 14 = false := hA.no 14 _ rfl rfl
     exact OpS.yes (o0 := [.var b0 [.val v1] 111, .row v1 (List.map e_walk_frame_damier_row_Row a0) 3 117]) (o1 := fun x => [.var b0 [.val v1] 111, .row v1 (List.map e_walk_frame_damier_row_Row a0) 3 117]) (d := fun x => .val v1) (Want.plain rfl) (by first | rfl | simp only [e14, cond_true, cond_false, List.cons_append, List.nil_append, List.append_nil]) (fun x => by first | rfl | simp only [ins_self, ins_ne D (show 4 ≠ 14 by decide), upd_self, e14, cond_true, cond_false, List.cons_append, List.nil_append, List.append_nil]) (fun x => rfl) (OpR.loadPtr 0 rfl rfl rfl rfl)
   iterate 3 refine aC ?_
   refine OpsS.cons' true ?_ (fun _ _ _ _ _ _ _ => rfl) ?_
   · intro D env1 hA
     have e14 : D 14 = false := hA.no 14 _ rfl rfl
     exact OpS.yes (o0 := [.var b0 [.val v1] 111, .row v1 (List.map e_walk_frame_damier_row_Row a0) 3 117]) (o1 := fun x => [.var b0 [.val v1] 111, .row v1 (List.map e_walk_frame_damier_row_Row a0) 3 117]) (d := fun x => .val v1) (Want.plain rfl) (by first | rfl | simp only [e14, cond_true, cond_false, List.cons_append, List.nil_append, List.append_nil]) (fun x => by first | rfl | simp only [ins_self, ins_ne D (show 8 ≠ 14 by decide), upd_self, e14, cond_true, cond_false, List.cons_append, List.nil_append, List.append_nil]) (fun x => rfl) (OpR.loadPtr 0 rfl rfl rfl rfl)
   refine oS (d := .val (.int .i64 (a0.length : Int))) (fun _ => Want.plain rfl) (fun _ => rfl) (fun _ _ _ => rfl) (fun _ _ => OpR.rowLenM e_walk_frame_damier_row_Row 1 rfl rfl rfl rfl) (fun _ _ _ _ _ _ _ => rfl) ?_
   refine aC ?_
   refine oS (d := .val (vw v1 (0 : Int).toNat (w64 ((a0.length : Int) - 1) : Int).toNat 3)) (fun _ => Want.plain rfl) (fun _ => rfl) (fun _ _ _ => rfl) (fun _ _ => OpR.sliceRowM e_walk_frame_damier_row_Row 1 hx2 rfl rfl rfl rfl rfl rfl BdM.none (BdM.some rfl)) (fun _ _ _ _ _ _ _ => rfl) ?_
   iterate 2 refine aC ?_
   refine OpsS.cons' true ?_ (fun _ _ _ _ _ _ _ => rfl) ?_
   · intro D env1 hA
     exact OpS.yes (o0 := [.var b0 [.val v1] 111, .row v1 (List.map e_walk_frame_damier_row_Row a0) 3 117]) (o1 := fun x => [.var b0 [.val (vw v1 (0 : Int).toNat (w64 ((a0.length : Int) - 1) : Int).toNat 3)] 111, .row v1 (List.map e_walk_frame_damier_row_Row a0) 3 117]) (d := fun x => .dead) (Want.plain rfl) (by first | rfl | simp only [hA.me, cond_true, cond_false, List.cons_append, List.nil_append, List.append_nil]) (fun x => by first | rfl | simp only [ins_self, upd_self, hA.me, cond_true, cond_false, List.cons_append, List.nil_append, List.append_nil]) (fun x => rfl) (OpR.store 0 rfl rfl rfl rfl rfl rfl rfl rfl)
   exact trivial
 intro env1
 show T X _ _ _
 refine T.ghost (Gst.truncM (ow := [.var b0 [.val (vw v1 (0 : Int).toNat (w64 ((a0.length : Int) - 1) : Int).toNat 3)] 111, .row v1 (List.map e_walk_frame_damier_row_Row a0) 3 117]) e_walk_frame_damier_row_Row 1 hx2 rfl rfl) ?_
 refine T.seq ?_
 obtain ⟨t3, ht3, h0⟩ := bnd_some h0
 refine T.cutC (fun S' => ∃ u4, t3 = Ex.brk u4 ∧ ∃ y5 : Value, S' = ⟨[(2, .val (.bool false))], [.var b0 [.val y5] 111, .row y5 (List.map e_walk_frame_damier_row_Row u4) 3 117], 106⟩) (fun _ h => h) ?_ ?_
 rotate_left
 · rintro _ ⟨u4, rfl, y5, rfl⟩
   show T X _ _ _
   refine aS ?_
   refine aA rfl rfl ?_
   refine TL.nil ?_
   show T X _ _ _
   refine T.ret ?_
   obtain rfl := Option.some.inj h0
   exact PostG.retP (ks := [0, 1]) (Gst.only [2] rfl) (.tuple #[y5]) (ResL.cons (ResV.tmp rfl) ResL.nil) rfl rfl rfl rfl
 refine T.block ?_
 obtain ⟨n8, n13⟩ := loop_some ht3
 refine T.loop (fun n S' => ∃ S'', Gst S' S'' ∧ ∃ y6 : Value, ∃ s7 : (List walk_frame_damier_row_Row), S'' = ⟨[(2, .val (.bool false)), (0, .val (.pointer (some ⟨b0, 0, none⟩)))], [.var b0 [.val y6] 111, .row y6 (List.map e_walk_frame_damier_row_Row s7) 3 117], 106⟩ ∧ iter walk_stack_row_Row_forth.l1 n s7 = some t3) n8 ?_ ?_
 · exact ⟨_, Gst.only [0, 2] rfl, (vw v1 (0 : Int).toNat (w64 ((a0.length : Int) - 1) : Int).toNat 3), x2, rfl, n13⟩
 rintro n8 _ ⟨_, g, y6, s7, rfl, i12⟩
 refine T.ghost g ?_
 obtain ⟨m9, q10, rfl, q11, i12⟩ := iter_succ i12
 unfold walk_stack_row_Row_forth.l1 at q11
 refine T.seq ?_
 refine aS ?_
 iterate 3 refine aA rfl rfl ?_
 refine TL.op1 (OpR.loadPtr 0 rfl rfl rfl rfl) rfl ?_
 refine TL.op1 (OpR.rowLenM e_walk_frame_damier_row_Row 1 rfl rfl rfl rfl) rfl ?_
 refine aA rfl rfl ?_
 refine TL.nil ?_
 show T X _ _ _
 rcases ite_some q11 with ⟨c15, q11⟩ | ⟨c15, q11⟩
 rotate_left
 · refine T.condF rfl (decide_eq_false c15) ?_
   refine T.exit ?_
   obtain rfl := Option.some.inj q11
   obtain rfl : _ = _ := i12
   exact ⟨_, Gst.only [2] rfl, _, rfl, y6, rfl⟩
 refine T.condT rfl (decide_eq_true c15) ?_
 refine T.skip ?_
 show T X _ _ _
 refine T.block ?_
 refine aS ?_
 refine aA rfl rfl ?_
 obtain ⟨x16, hx16, q11⟩ := bnd_some q11
 refine TL.op1 (OpR.call [0, 1] fn47 (walk_stack_row_Row_top_c hx16) rfl rfl rfl (fun _ => rfl)) rfl ?_
 refine aA rfl rfl ?_
 refine TL.nil ?_
 show T X _ _ _
 refine T.seq ?_
 obtain ⟨x17, hx17, q11⟩ := bnd_some q11
 obtain ⟨q18, hq18, q11⟩ := bnd_some q11
 rcases q18 with _ | z19
 · dsimp only at q11
   exact (by cases q11)
 dsimp only at q11
 obtain ⟨x21, hx21, q11⟩ := bnd_some q11
 rw [o_tree_Node_damier_row_Row_eq hx21] at hq18
 obtain ⟨x23, hx23, q11⟩ := bnd_some q11
 obtain ⟨x24, hx24, q11⟩ := bnd_some q11
 rw [o_tree_Node_damier_row_Row_eq hx24] at hx23
 refine T.drawS drawsX (fun env22 => [.val (.pointer (some ⟨blk y6, x16.toNat * 3, none⟩)), .val (.pointer (some ⟨blk y6, x16.toNat * 3, none⟩)), .val (.pointer (some ⟨blk y6, x16.toNat * 3 + 1, none⟩)), .val (.int .i64 x17.fFirst), .val (.pointer (some ⟨blk y6, x16.toNat * 3, none⟩)), .val (.pointer (some ⟨blk y6, x16.toNat * 3, none⟩)), .val (.pointer (some ⟨blk y6, x16.toNat * 3, none⟩)), .nod [.sl 1 (List.map eNP x21.fKids), .sl 3 (List.map e_row_Row x21.fItems), .val (.int .i64 x21.fN)], .nod [.sl 1 (List.map eNP x21.fKids), .sl 3 (List.map e_row_Row x21.fItems), .val (.int .i64 x21.fN)], .nod [.sl 1 (List.map eNP x21.fKids), .sl 3 (List.map e_row_Row x21.fItems), .val (.int .i64 x21.fN)], .sl 1 (List.map eNP x21.fKids), .val (.pointer (some ⟨blk y6, x16.toNat * 3, none⟩)), .val (.pointer (some ⟨blk y6, x16.toNat * 3, none⟩)), .val (.pointer (some ⟨blk y6, x16.toNat * 3 + 2, none⟩)), .val (.int .i64 x17.fNext), .nod [.nod [.sl 1 (List.map eNP x24.fKids), .sl 3 (List.map e_row_Row x24.fItems), .val (.int .i64 x24.fN)]], .nod [.sl 1 (List.map eNP x24.fKids), .sl 3 (List.map e_row_Row x24.fItems), .val (.int .i64 x24.fN)], .nod [.sl 1 (List.map eNP x24.fKids), .sl 3 (List.map e_row_Row x24.fItems), .val (.int .i64 x24.fN)], .nod [.val (.int .i64 x24.fN)], .val (.int .i64 x24.fN), .val (.int .i64 (w64 (x17.fFirst + x24.fN))), .val (.pointer (some ⟨blk y6, x16.toNat * 3, none⟩)), .val (.pointer (some ⟨blk y6, x16.toNat * 3 + 1, none⟩)), .dead]) (fun D env22 => [.var b0 [.val y6] 111, (bif D 23 then .row y6 (List.map e_walk_frame_damier_row_Row (s7.set x16.toNat (⟨x17.fN, w64 (x17.fFirst + x24.fN), x17.fNext⟩ : walk_frame_damier_row_Row))) 3 117 else .row y6 (List.map e_walk_frame_damier_row_Row s7) 3 117)]) [0, 1, 3, 7, 0, 16, 48, 112, 240, 496, 1008, 0, 2048, 6144, 14336, 32752, 65520, 131056, 262128, 524272, 1048575, 2097151, 4194303, 8388607] [0, 2, 3] (fun env22 => [.var b0 [.val y6] 111, .row y6 (List.map e_walk_frame_damier_row_Row (s7.set x16.toNat (⟨x17.fN, w64 (x17.fFirst + x24.fN), x17.fNext⟩ : walk_frame_damier_row_Row))) 3 117]) (by decide +kernel) (by decide +kernel) (fun _ => rfl) (fun _ => rfl) ?_ (fun _ => rfl) (fun _ => rfl) ?_
 · iterate 3 refine aC ?_
   refine OpsS.cons' true ?_ (fun _ _ _ _ _ _ _ => rfl) ?_
   · intro D env22 hA
     have e23 : D 23 = false := hA.no 23 _ rfl rfl
     exact OpS.yes (o0 := [.var b0 [.val y6] 111, .row y6 (List.map e_walk_frame_damier_row_Row s7) 3 117]) (o1 := fun x => [.var b0 [.val y6] 111, .row y6 (List.map e_walk_frame_damier_row_Row s7) 3 117]) (d := fun x => .val (.int .i64 x17.fFirst)) (Want.plain rfl) (by first | rfl | simp only [e23, cond_true, cond_false, List.cons_append, List.nil_append, List.append_nil]) (fun x => by first | rfl | simp only [ins_self, ins_ne D (show 3 ≠ 23 by decide), upd_self, e23, cond_true, cond_false, List.cons_append, List.nil_append, List.append_nil]) (fun x => rfl) (OpR.rowLoadM (j := x16) e_walk_frame_damier_row_Row 1 hx17 rfl rfl rfl rfl)
   iterate 3 refine aC ?_
   refine OpsS.cons' true ?_ (fun _ _ _ _ _ _ _ => rfl) ?_
   · intro D env22 hA
     have e23 : D 23 = false := hA.no 23 _ rfl rfl
     exact OpS.yes (o0 := [.var b0 [.val y6] 111, .row y6 (List.map e_walk_frame_damier_row_Row s7) 3 117]) (o1 := fun x => [.var b0 [.val y6] 111, .row y6 (List.map e_walk_frame_damier_row_Row s7) 3 117]) (d := fun x => .nod [.sl 1 (List.map eNP x21.fKids), .sl 3 (List.map e_row_Row x21.fItems), .val (.int .i64 x21.fN)]) (Want.plain rfl) (by first | rfl | simp only [e23, cond_true, cond_false, List.cons_append, List.nil_append, List.append_nil]) (fun x => by first | rfl | simp only [ins_self, ins_ne D (show 7 ≠ 23 by decide), upd_self, e23, cond_true, cond_false, List.cons_append, List.nil_append, List.append_nil]) (fun x => rfl) (OpR.cast (OpR.rowLoad0M (j := x16) e_walk_frame_damier_row_Row 1 hx17 rfl rfl rfl rfl) (congrArg eOP (Option.some.inj hq18)))
   iterate 6 refine aC ?_
   refine OpsS.cons' true ?_ (fun _ _ _ _ _ _ _ => rfl) ?_
   · intro D env22 hA
     have e23 : D 23 = false := hA.no 23 _ rfl rfl
     exact OpS.yes (o0 := [.var b0 [.val y6] 111, .row y6 (List.map e_walk_frame_damier_row_Row s7) 3 117]) (o1 := fun x => [.var b0 [.val y6] 111, .row y6 (List.map e_walk_frame_damier_row_Row s7) 3 117]) (d := fun x => .val (.int .i64 x17.fNext)) (Want.plain rfl) (by first | rfl | simp only [e23, cond_true, cond_false, List.cons_append, List.nil_append, List.append_nil]) (fun x => by first | rfl | simp only [ins_self, ins_ne D (show 14 ≠ 23 by decide), upd_self, e23, cond_true, cond_false, List.cons_append, List.nil_append, List.append_nil]) (fun x => rfl) (OpR.rowLoadM (j := x16) e_walk_frame_damier_row_Row 1 hx17 rfl rfl rfl rfl)
   refine oS (d := .nod [.nod [.sl 1 (List.map eNP x24.fKids), .sl 3 (List.map e_row_Row x24.fItems), .val (.int .i64 x24.fN)]]) (fun _ => Want.plain rfl) (fun _ => rfl) (fun _ _ _ => rfl) (fun _ _ => OpR.indexM eNP hx23 rfl rfl rfl rfl rfl) (fun _ _ _ _ _ _ _ => rfl) ?_
   iterate 7 refine aC ?_
   refine OpsS.cons' true ?_ (fun _ _ _ _ _ _ _ => rfl) ?_
   · intro D env22 hA
     exact OpS.yes (o0 := [.var b0 [.val y6] 111, .row y6 (List.map e_walk_frame_damier_row_Row s7) 3 117]) (o1 := fun x => [.var b0 [.val y6] 111, .row y6 (List.map e_walk_frame_damier_row_Row (s7.set x16.toNat (⟨x17.fN, w64 (x17.fFirst + x24.fN), x17.fNext⟩ : walk_frame_damier_row_Row))) 3 117]) (d := fun x => .dead) (Want.plain rfl) (by first | rfl | simp only [hA.me, cond_true, cond_false, List.cons_append, List.nil_append, List.append_nil]) (fun x => by first | rfl | simp only [ins_self, upd_self, hA.me, cond_true, cond_false, List.cons_append, List.nil_append, List.append_nil]) (fun x => rfl) (OpR.rowStoreM (j := x16) e_walk_frame_damier_row_Row (⟨x17.fN, w64 (x17.fFirst + x24.fN), x17.fNext⟩ : walk_frame_damier_row_Row) 1 hx17 rfl rfl rfl rfl rfl rfl rfl rfl rfl)
   exact trivial
 intro env22
 show T X _ _ _
 refine aS ?_
 iterate 3 refine aA rfl rfl ?_
 obtain ⟨x25, hx25, q11⟩ := bnd_some q11
 refine TL.op1 (OpR.rowLoadM (j := x16) e_walk_frame_damier_row_Row 1 hx25 rfl rfl rfl rfl) rfl ?_
 iterate 3 refine aA rfl rfl ?_
 refine TL.op0 (OpR.rowStoreM (j := x16) e_walk_frame_damier_row_Row (⟨x25.fN, x25.fFirst, w64 (x25.fNext + 1)⟩ : walk_frame_damier_row_Row) 1 hx25 rfl rfl rfl rfl rfl rfl rfl rfl rfl) ?_
 refine TL.nil ?_
 show T X _ _ _
 refine T.seq ?_
 refine T.seq ?_
 obtain ⟨x26, hx26, q11⟩ := bnd_some q11
 obtain ⟨q27, hq27, q11⟩ := bnd_some q11
 rcases q27 with _ | z28
 · dsimp only at q11
   exact (by cases q11)
 dsimp only at q11
 obtain ⟨x30, hx30, q11⟩ := bnd_some q11
 rw [o_tree_Node_damier_row_Row_eq hx30] at hq27
 refine T.drawQ drawsX [.val (.pointer (some ⟨blk y6, x16.toNat * 3, none⟩)), .val (.pointer (some ⟨blk y6, x16.toNat * 3, none⟩)), .val (.pointer (some ⟨blk y6, x16.toNat * 3 + 2, none⟩)), .val (.int .i64 x26.fNext), .val (.pointer (some ⟨blk y6, x16.toNat * 3, none⟩)), .val (.pointer (some ⟨blk y6, x16.toNat * 3, none⟩)), .val (.pointer (some ⟨blk y6, x16.toNat * 3, none⟩)), .nod [.sl 1 (List.map eNP x30.fKids), .sl 3 (List.map e_row_Row x30.fItems), .val (.int .i64 x30.fN)], .nod [.sl 1 (List.map eNP x30.fKids), .sl 3 (List.map e_row_Row x30.fItems), .val (.int .i64 x30.fN)], .nod [.sl 1 (List.map eNP x30.fKids), .sl 3 (List.map e_row_Row x30.fItems), .val (.int .i64 x30.fN)], .sl 1 (List.map eNP x30.fKids), .val (.int .i64 (x30.fKids.length : Int)), .val (.bool (decide (x26.fNext < (x30.fKids.length : Int))))] [0, 2, 3, 68] (by decide +kernel) rfl ?_ rfl ?_
 · iterate 3 refine aB rfl rfl rfl ?_
   refine OpsQ.yes (Want.plain rfl) rfl (OpR.rowLoadM (j := x16) e_walk_frame_damier_row_Row 1 hx26 rfl rfl rfl rfl) ?_
   iterate 3 refine aB rfl rfl rfl ?_
   refine OpsQ.yes (Want.plain rfl) rfl (OpR.cast (OpR.rowLoad0M (j := x16) e_walk_frame_damier_row_Row 1 hx26 rfl rfl rfl rfl) (congrArg eOP (Option.some.inj hq27))) ?_
   iterate 3 refine aB rfl rfl rfl ?_
   refine OpsQ.yes (Want.plain rfl) rfl (OpR.cast (OpR.pure rfl) (intE (lenM _ _))) ?_
   refine aB rfl rfl rfl ?_
   exact OpsQ.nil
 show T X _ _ _
 rcases ite_some q11 with ⟨c32, q11⟩ | ⟨c32, q11⟩
 rotate_left
 · refine T.condF rfl (decide_eq_false c32) ?_
   refine T.skip ?_
   show T X _ _ _
   obtain ⟨x38, hx38, q11⟩ := bnd_some q11
   obtain ⟨x39, hx39, q11⟩ := bnd_some q11
   refine T.drawS drawsX (fun env37 => [.val (.pointer (some ⟨b0, 0, none⟩)), .val (.pointer (some ⟨b0, 0, none⟩)), .val (.pointer (some ⟨b0, 0, none⟩)), .val (.pointer (some ⟨b0, 0, none⟩)), .val y6, .val (.pointer (some ⟨b0, 0, none⟩)), .val (.pointer (some ⟨b0, 0, none⟩)), .val (.pointer (some ⟨b0, 0, none⟩)), .val y6, .val (.int .i64 x38), .val (.int .i64 (w64 (x38 - 1))), .val (vw y6 (0 : Int).toNat (w64 (x38 - 1) : Int).toNat 3), .val (.pointer (some ⟨b0, 0, none⟩)), .val (.pointer (some ⟨b0, 0, none⟩)), .dead]) (fun D env37 => [(bif D 14 then .var b0 [.val (vw y6 (0 : Int).toNat (w64 (x38 - 1) : Int).toNat 3)] 111 else .var b0 [.val y6] 111), .row y6 (List.map e_walk_frame_damier_row_Row ((s7.set x16.toNat (⟨x17.fN, w64 (x17.fFirst + x24.fN), x17.fNext⟩ : walk_frame_damier_row_Row)).set x16.toNat (⟨x25.fN, x25.fFirst, w64 (x25.fNext + 1)⟩ : walk_frame_damier_row_Row))) 3 117]) [0, 0, 2, 6, 14, 0, 32, 96, 224, 480, 992, 2046, 4095, 8191, 16383] [0, 2] (fun env37 => [.var b0 [.val (vw y6 (0 : Int).toNat (w64 (x38 - 1) : Int).toNat 3)] 111, .row y6 (List.map e_walk_frame_damier_row_Row ((s7.set x16.toNat (⟨x17.fN, w64 (x17.fFirst + x24.fN), x17.fNext⟩ : walk_frame_damier_row_Row)).set x16.toNat (⟨x25.fN, x25.fFirst, w64 (x25.fNext + 1)⟩ : walk_frame_damier_row_Row))) 3 117]) (by decide +kernel) (by decide +kernel) (fun _ => rfl) (fun _ => rfl) ?_ (fun _ => rfl) (fun _ => rfl) ?_
   rotate_left
   · intro env37
     obtain rfl := Option.some.inj q11
     exact ⟨m9, Nat.lt_succ_self _, _, Gst.trans (Gst.truncM (ow := [.var b0 [.val (vw y6 (0 : Int).toNat (w64 (x38 - 1) : Int).toNat 3)] 111, .row y6 (List.map e_walk_frame_damier_row_Row ((s7.set x16.toNat (⟨x17.fN, w64 (x17.fFirst + x24.fN), x17.fNext⟩ : walk_frame_damier_row_Row)).set x16.toNat (⟨x25.fN, x25.fFirst, w64 (x25.fNext + 1)⟩ : walk_frame_damier_row_Row))) 3 117]) e_walk_frame_damier_row_Row 1 hx39 rfl rfl) (Gst.only [0, 2] rfl), (vw y6 (0 : Int).toNat (w64 (x38 - 1) : Int).toNat 3), x39, rfl, i12⟩
   iterate 4 refine aC ?_
   refine OpsS.cons' true ?_ (fun _ _ _ _ _ _ _ => rfl) ?_
   · intro D env37 hA
     have e14 : D 14 = false := hA.no 14 _ rfl rfl
     exact OpS.yes (o0 := [.var b0 [.val y6] 111, .row y6 (List.map e_walk_frame_damier_row_Row ((s7.set x16.toNat (⟨x17.fN, w64 (x17.fFirst + x24.fN), x17.fNext⟩ : walk_frame_damier_row_Row)).set x16.toNat (⟨x25.fN, x25.fFirst, w64 (x25.fNext + 1)⟩ : walk_frame_damier_row_Row))) 3 117]) (o1 := fun x => [.var b0 [.val y6] 111, .row y6 (List.map e_walk_frame_damier_row_Row ((s7.set x16.toNat (⟨x17.fN, w64 (x17.fFirst + x24.fN), x17.fNext⟩ : walk_frame_damier_row_Row)).set x16.toNat (⟨x25.fN, x25.fFirst, w64 (x25.fNext + 1)⟩ : walk_frame_damier_row_Row))) 3 117]) (d := fun x => .val y6) (Want.plain rfl) (by first | rfl | simp only [e14, cond_true, cond_false, List.cons_append, List.nil_append, List.append_nil]) (fun x => by first | rfl | simp only [ins_self, ins_ne D (show 4 ≠ 14 by decide), upd_self, e14, cond_true, cond_false, List.cons_append, List.nil_append, List.append_nil]) (fun x => rfl) (OpR.loadPtr 0 rfl rfl rfl rfl)
   iterate 3 refine aC ?_
   refine OpsS.cons' true ?_ (fun _ _ _ _ _ _ _ => rfl) ?_
   · intro D env37 hA
     have e14 : D 14 = false := hA.no 14 _ rfl rfl
     exact OpS.yes (o0 := [.var b0 [.val y6] 111, .row y6 (List.map e_walk_frame_damier_row_Row ((s7.set x16.toNat (⟨x17.fN, w64 (x17.fFirst + x24.fN), x17.fNext⟩ : walk_frame_damier_row_Row)).set x16.toNat (⟨x25.fN, x25.fFirst, w64 (x25.fNext + 1)⟩ : walk_frame_damier_row_Row))) 3 117]) (o1 := fun x => [.var b0 [.val y6] 111, .row y6 (List.map e_walk_frame_damier_row_Row ((s7.set x16.toNat (⟨x17.fN, w64 (x17.fFirst + x24.fN), x17.fNext⟩ : walk_frame_damier_row_Row)).set x16.toNat (⟨x25.fN, x25.fFirst, w64 (x25.fNext + 1)⟩ : walk_frame_damier_row_Row))) 3 117]) (d := fun x => .val y6) (Want.plain rfl) (by first | rfl | simp only [e14, cond_true, cond_false, List.cons_append, List.nil_append, List.append_nil]) (fun x => by first | rfl | simp only [ins_self, ins_ne D (show 8 ≠ 14 by decide), upd_self, e14, cond_true, cond_false, List.cons_append, List.nil_append, List.append_nil]) (fun x => rfl) (OpR.loadPtr 0 rfl rfl rfl rfl)
   refine oS (d := .val (.int .i64 x38)) (fun _ => Want.plain rfl) (fun _ => rfl) (fun _ _ _ => rfl) (fun _ _ => OpR.cast (OpR.rowLenM e_walk_frame_damier_row_Row 1 rfl rfl rfl rfl) (intE (Option.some.inj hx38))) (fun _ _ _ _ _ _ _ => rfl) ?_
   refine aC ?_
   refine oS (d := .val (vw y6 (0 : Int).toNat (w64 (x38 - 1) : Int).toNat 3)) (fun _ => Want.plain rfl) (fun _ => rfl) (fun _ _ _ => rfl) (fun _ _ => OpR.sliceRowM e_walk_frame_damier_row_Row 1 hx39 rfl rfl rfl rfl rfl rfl BdM.none (BdM.some rfl)) (fun _ _ _ _ _ _ _ => rfl) ?_
   iterate 2 refine aC ?_
   refine OpsS.cons' true ?_ (fun _ _ _ _ _ _ _ => rfl) ?_
   · intro D env37 hA
     exact OpS.yes (o0 := [.var b0 [.val y6] 111, .row y6 (List.map e_walk_frame_damier_row_Row ((s7.set x16.toNat (⟨x17.fN, w64 (x17.fFirst + x24.fN), x17.fNext⟩ : walk_frame_damier_row_Row)).set x16.toNat (⟨x25.fN, x25.fFirst, w64 (x25.fNext + 1)⟩ : walk_frame_damier_row_Row))) 3 117]) (o1 := fun x => [.var b0 [.val (vw y6 (0 : Int).toNat (w64 (x38 - 1) : Int).toNat 3)] 111, .row y6 (List.map e_walk_frame_damier_row_Row ((s7.set x16.toNat (⟨x17.fN, w64 (x17.fFirst + x24.fN), x17.fNext⟩ : walk_frame_damier_row_Row)).set x16.toNat (⟨x25.fN, x25.fFirst, w64 (x25.fNext + 1)⟩ : walk_frame_damier_row_Row))) 3 117]) (d := fun x => .dead) (Want.plain rfl) (by first | rfl | simp only [hA.me, cond_true, cond_false, List.cons_append, List.nil_append, List.append_nil]) (fun x => by first | rfl | simp only [ins_self, upd_self, hA.me, cond_true, cond_false, List.cons_append, List.nil_append, List.append_nil]) (fun x => rfl) (OpR.store 0 rfl rfl rfl rfl rfl rfl rfl rfl)
   exact trivial
 refine T.condT rfl (decide_eq_true c32) ?_
 refine T.seq ?_
 obtain ⟨x34, hx34, q11⟩ := bnd_some q11
 obtain ⟨x35, hx35, q11⟩ := bnd_some q11
 rw [o_tree_Node_damier_row_Row_eq hx35] at hx34
 obtain ⟨x36, hx36, q11⟩ := bnd_some q11
 refine T.drawS drawsX (fun env33 => [.val (.pointer (some ⟨b0, 0, none⟩)), .val (.pointer (some ⟨blk y6, x16.toNat * 3, none⟩)), .val (.pointer (some ⟨blk y6, x16.toNat * 3, none⟩)), .val (.pointer (some ⟨blk y6, x16.toNat * 3, none⟩)), .nod [.sl 1 (List.map eNP x30.fKids), .sl 3 (List.map e_row_Row x30.fItems), .val (.int .i64 x30.fN)], .nod [.sl 1 (List.map eNP x30.fKids), .sl 3 (List.map e_row_Row x30.fItems), .val (.int .i64 x30.fN)], .nod [.sl 1 (List.map eNP x30.fKids), .sl 3 (List.map e_row_Row x30.fItems), .val (.int .i64 x30.fN)], .sl 1 (List.map eNP x30.fKids), .val (.pointer (some ⟨blk y6, x16.toNat * 3, none⟩)), .val (.pointer (some ⟨blk y6, x16.toNat * 3, none⟩)), .val (.pointer (some ⟨blk y6, x16.toNat * 3 + 2, none⟩)), .val (.int .i64 x26.fNext), .nod [.nod [.sl 1 (List.map eNP x35.fKids), .sl 3 (List.map e_row_Row x35.fItems), .val (.int .i64 x35.fN)]], .nod [.sl 1 (List.map eNP x35.fKids), .sl 3 (List.map e_row_Row x35.fItems), .val (.int .i64 x35.fN)], .val (.pointer (some ⟨blk y6, x16.toNat * 3, none⟩)), .val (.pointer (some ⟨blk y6, x16.toNat * 3, none⟩)), .val (.pointer (some ⟨blk y6, x16.toNat * 3 + 1, none⟩)), .val (.int .i64 x26.fFirst), .val (.pointer (some ⟨blk y6, x16.toNat * 3, none⟩)), .val (.pointer (some ⟨blk y6, x16.toNat * 3, none⟩)), .val (.pointer (some ⟨blk y6, x16.toNat * 3 + 1, none⟩)), .val (.int .i64 x26.fFirst), .tup []]) (fun D env33 => [(bif D 22 then .var b0 [.val (vn (env33 22) 0)] 111 else .var b0 [.val y6] 111), (bif D 22 then .row (vn (env33 22) 0) (List.map e_walk_frame_damier_row_Row x36) 3 117 else .row y6 (List.map e_walk_frame_damier_row_Row ((s7.set x16.toNat (⟨x17.fN, w64 (x17.fFirst + x24.fN), x17.fNext⟩ : walk_frame_damier_row_Row)).set x16.toNat (⟨x25.fN, x25.fFirst, w64 (x25.fNext + 1)⟩ : walk_frame_damier_row_Row))) 3 117)]) [0, 0, 2, 6, 14, 30, 62, 126, 0, 256, 768, 1792, 4094, 8190, 0, 16384, 49152, 114688, 0, 262144, 786432, 1835008, 4194303] [0, 2] (fun env33 => [.var b0 [.val (vn (env33 22) 0)] 111, .row (vn (env33 22) 0) (List.map e_walk_frame_damier_row_Row x36) 3 117]) (by decide +kernel) (by decide +kernel) (fun _ => rfl) (fun _ => rfl) ?_ (fun _ => rfl) (fun _ => rfl) ?_
 rotate_left
 · intro env33
   show T X _ _ _
   refine aS ?_
   refine aA rfl rfl ?_
   refine TL.nil ?_
   show T X _ _ _
   refine T.ret ?_
   obtain rfl := Option.some.inj q11
   obtain rfl : _ = _ := i12
   obtain rfl := Option.some.inj h0
   exact PostG.retP (ks := [0, 1]) (Gst.only [2] rfl) (.tuple #[(vn (env33 22) 0)]) (ResL.cons (ResV.tmp rfl) ResL.nil) rfl rfl rfl rfl
 iterate 4 refine aC ?_
 refine OpsS.cons' true ?_ (fun _ _ _ _ _ _ _ => rfl) ?_
 · intro D env33 hA
   have e22 : D 22 = false := hA.no 22 _ rfl rfl
   exact OpS.yes (o0 := [.var b0 [.val y6] 111, .row y6 (List.map e_walk_frame_damier_row_Row ((s7.set x16.toNat (⟨x17.fN, w64 (x17.fFirst + x24.fN), x17.fNext⟩ : walk_frame_damier_row_Row)).set x16.toNat (⟨x25.fN, x25.fFirst, w64 (x25.fNext + 1)⟩ : walk_frame_damier_row_Row))) 3 117]) (o1 := fun x => [.var b0 [.val y6] 111, .row y6 (List.map e_walk_frame_damier_row_Row ((s7.set x16.toNat (⟨x17.fN, w64 (x17.fFirst + x24.fN), x17.fNext⟩ : walk_frame_damier_row_Row)).set x16.toNat (⟨x25.fN, x25.fFirst, w64 (x25.fNext + 1)⟩ : walk_frame_damier_row_Row))) 3 117]) (d := fun x => .nod [.sl 1 (List.map eNP x30.fKids), .sl 3 (List.map e_row_Row x30.fItems), .val (.int .i64 x30.fN)]) (Want.plain rfl) (by first | rfl | simp only [e22, cond_true, cond_false, List.cons_append, List.nil_append, List.append_nil]) (fun x => by first | rfl | simp only [ins_self, ins_ne D (show 4 ≠ 22 by decide), upd_self, upd_ne env33 x (show 4 ≠ 22 by decide), e22, cond_true, cond_false, List.cons_append, List.nil_append, List.append_nil]) (fun x => rfl) (OpR.cast (OpR.rowLoad0M (j := x16) e_walk_frame_damier_row_Row 1 hx26 rfl rfl rfl rfl) (congrArg eOP (Option.some.inj hq27)))
 iterate 6 refine aC ?_
 refine OpsS.cons' true ?_ (fun _ _ _ _ _ _ _ => rfl) ?_
 · intro D env33 hA
   have e22 : D 22 = false := hA.no 22 _ rfl rfl
   exact OpS.yes (o0 := [.var b0 [.val y6] 111, .row y6 (List.map e_walk_frame_damier_row_Row ((s7.set x16.toNat (⟨x17.fN, w64 (x17.fFirst + x24.fN), x17.fNext⟩ : walk_frame_damier_row_Row)).set x16.toNat (⟨x25.fN, x25.fFirst, w64 (x25.fNext + 1)⟩ : walk_frame_damier_row_Row))) 3 117]) (o1 := fun x => [.var b0 [.val y6] 111, .row y6 (List.map e_walk_frame_damier_row_Row ((s7.set x16.toNat (⟨x17.fN, w64 (x17.fFirst + x24.fN), x17.fNext⟩ : walk_frame_damier_row_Row)).set x16.toNat (⟨x25.fN, x25.fFirst, w64 (x25.fNext + 1)⟩ : walk_frame_damier_row_Row))) 3 117]) (d := fun x => .val (.int .i64 x26.fNext)) (Want.plain rfl) (by first | rfl | simp only [e22, cond_true, cond_false, List.cons_append, List.nil_append, List.append_nil]) (fun x => by first | rfl | simp only [ins_self, ins_ne D (show 11 ≠ 22 by decide), upd_self, upd_ne env33 x (show 11 ≠ 22 by decide), e22, cond_true, cond_false, List.cons_append, List.nil_append, List.append_nil]) (fun x => rfl) (OpR.rowLoadM (j := x16) e_walk_frame_damier_row_Row 1 hx26 rfl rfl rfl rfl)
 refine oS (d := .nod [.nod [.sl 1 (List.map eNP x35.fKids), .sl 3 (List.map e_row_Row x35.fItems), .val (.int .i64 x35.fN)]]) (fun _ => Want.plain rfl) (fun _ => rfl) (fun _ _ _ => rfl) (fun _ _ => OpR.indexM eNP hx34 rfl rfl rfl rfl rfl) (fun _ _ _ _ _ _ _ => rfl) ?_
 iterate 4 refine aC ?_
 refine OpsS.cons' true ?_ (fun _ _ _ _ _ _ _ => rfl) ?_
 · intro D env33 hA
   have e22 : D 22 = false := hA.no 22 _ rfl rfl
   exact OpS.yes (o0 := [.var b0 [.val y6] 111, .row y6 (List.map e_walk_frame_damier_row_Row ((s7.set x16.toNat (⟨x17.fN, w64 (x17.fFirst + x24.fN), x17.fNext⟩ : walk_frame_damier_row_Row)).set x16.toNat (⟨x25.fN, x25.fFirst, w64 (x25.fNext + 1)⟩ : walk_frame_damier_row_Row))) 3 117]) (o1 := fun x => [.var b0 [.val y6] 111, .row y6 (List.map e_walk_frame_damier_row_Row ((s7.set x16.toNat (⟨x17.fN, w64 (x17.fFirst + x24.fN), x17.fNext⟩ : walk_frame_damier_row_Row)).set x16.toNat (⟨x25.fN, x25.fFirst, w64 (x25.fNext + 1)⟩ : walk_frame_damier_row_Row))) 3 117]) (d := fun x => .val (.int .i64 x26.fFirst)) (Want.plain rfl) (by first | rfl | simp only [e22, cond_true, cond_false, List.cons_append, List.nil_append, List.append_nil]) (fun x => by first | rfl | simp only [ins_self, ins_ne D (show 17 ≠ 22 by decide), upd_self, upd_ne env33 x (show 17 ≠ 22 by decide), e22, cond_true, cond_false, List.cons_append, List.nil_append, List.append_nil]) (fun x => rfl) (OpR.rowLoadM (j := x16) e_walk_frame_damier_row_Row 1 hx26 rfl rfl rfl rfl)
 iterate 3 refine aC ?_
 refine OpsS.cons' true ?_ (fun _ _ _ _ _ _ _ => rfl) ?_
 · intro D env33 hA
   have e22 : D 22 = false := hA.no 22 _ rfl rfl
   exact OpS.yes (o0 := [.var b0 [.val y6] 111, .row y6 (List.map e_walk_frame_damier_row_Row ((s7.set x16.toNat (⟨x17.fN, w64 (x17.fFirst + x24.fN), x17.fNext⟩ : walk_frame_damier_row_Row)).set x16.toNat (⟨x25.fN, x25.fFirst, w64 (x25.fNext + 1)⟩ : walk_frame_damier_row_Row))) 3 117]) (o1 := fun x => [.var b0 [.val y6] 111, .row y6 (List.map e_walk_frame_damier_row_Row ((s7.set x16.toNat (⟨x17.fN, w64 (x17.fFirst + x24.fN), x17.fNext⟩ : walk_frame_damier_row_Row)).set x16.toNat (⟨x25.fN, x25.fFirst, w64 (x25.fNext + 1)⟩ : walk_frame_damier_row_Row))) 3 117]) (d := fun x => .val (.int .i64 x26.fFirst)) (Want.plain rfl) (by first | rfl | simp only [e22, cond_true, cond_false, List.cons_append, List.nil_append, List.append_nil]) (fun x => by first | rfl | simp only [ins_self, ins_ne D (show 21 ≠ 22 by decide), upd_self, upd_ne env33 x (show 21 ≠ 22 by decide), e22, cond_true, cond_false, List.cons_append, List.nil_append, List.append_nil]) (fun x => rfl) (OpR.rowLoadM (j := x16) e_walk_frame_damier_row_Row 1 hx26 rfl rfl rfl rfl)
 refine OpsS.cons' true ?_ (fun D hA env33 x j hj hD => match j, hj, hD with | 0, _, _ => rfl | 1, _, _ => rfl | 2, _, _ => rfl | 3, _, _ => rfl | 4, _, _ => rfl | 5, _, _ => rfl | 6, _, _ => rfl | 7, _, _ => rfl | 8, _, _ => rfl | 9, _, _ => rfl | 10, _, _ => rfl | 11, _, _ => rfl | 12, _, _ => rfl | 13, _, _ => rfl | 14, _, _ => rfl | 15, _, _ => rfl | 16, _, _ => rfl | 17, _, _ => rfl | 18, _, _ => rfl | 19, _, _ => rfl | 20, _, _ => rfl | 21, _, _ => rfl | 22, hj, _ => absurd rfl hj | _ + 23, _, _ => rfl) ?_
 · intro D env33 hA
   exact OpS.yes (o0 := [.var b0 [.val y6] 111, .row y6 (List.map e_walk_frame_damier_row_Row ((s7.set x16.toNat (⟨x17.fN, w64 (x17.fFirst + x24.fN), x17.fNext⟩ : walk_frame_damier_row_Row)).set x16.toNat (⟨x25.fN, x25.fFirst, w64 (x25.fNext + 1)⟩ : walk_frame_damier_row_Row))) 3 117]) (o1 := fun x => [.var b0 [.val (vn x 0)] 111, .row (vn x 0) (List.map e_walk_frame_damier_row_Row x36) 3 117]) (d := fun x => .tup []) (Want.plain rfl) (by first | rfl | simp only [hA.me, cond_true, cond_false, List.cons_append, List.nil_append, List.append_nil]) (fun x => by first | rfl | simp only [ins_self, upd_self, hA.me, cond_true, cond_false, List.cons_append, List.nil_append, List.append_nil]) (fun x => rfl) (OpR.call [0, 1] fn45 (walk_stack_row_Row_down_2_c hx36) rfl rfl rfl (fun _ => rfl))
 exact trivial
noncomputable def row_Row_has (a0 : row_Row) (a1 : Int) : Option Bool :=
  bnd (if a1 ≥ 0 then
    some (decide (a1 < (a0.fCells.length : Int)))
  else
    some false : Option Bool) fun t1 =>
  some t1
set_option maxHeartbeats 4000000 in
theorem row_Row_has_c {a0 : row_Row} {a1 : Int} {res : Bool} (h0 : row_Row_has a0 a1 = some res) : CallF X 49 [.agg [.sl 5 (List.map e_cell_Cell a0.fCells), .val (.int .i64 a0.fEnd), .val (.bool a0.fHidden)], .val (.int .i64 a1)] [] (fun x => .val (.bool res)) (fun x => []) := by
 unfold row_Row_has at h0
 refine CallF.mkG (X := X) rfl Try.func49 rfl rfl Try.ntmps49 rfl rfl ?_
 refine aS ?_
 refine TL.op1 (OpR.boxImm rfl rfl) rfl ?_
 refine aA rfl rfl ?_
 refine TL.nil ?_
 show T X _ _ _
 refine T.seq ?_
 obtain ⟨t1, ht1, h0⟩ := bnd_some h0
 refine T.cutC (fun S' => S' = ⟨[(4, .val (.bool t1))], [], 14⟩) (fun _ h => h) ?_ ?_
 rotate_left
 · rintro _ rfl
   show T X _ _ _
   refine T.ret ?_
   obtain rfl := Option.some.inj h0
   exact PostG.retP (ks := []) (Gst.only [4] rfl) undef (ResL.cons (ResV.tmp rfl) ResL.nil) rfl rfl rfl rfl
 refine T.region ?_
 iterate 3 refine aA rfl rfl ?_
 rcases ite_some ht1 with ⟨c2, ht1⟩ | ⟨c2, ht1⟩
 rotate_left
 · refine TL.off rfl rfl rfl rfl (decide_eq_false c2) rfl rfl ?_
   refine TL.off rfl rfl rfl rfl (decide_eq_false c2) rfl rfl ?_
   refine TL.off rfl rfl rfl rfl (decide_eq_false c2) rfl rfl ?_
   refine TL.off rfl rfl rfl rfl (decide_eq_false c2) rfl rfl ?_
   refine TL.off rfl rfl rfl rfl (decide_eq_false c2) rfl rfl ?_
   refine TL.op1 (OpR.pickF rfl (decide_eq_false c2) rfl) rfl ?_
   refine aA rfl rfl ?_
   refine TL.nil ?_
   obtain rfl := Option.some.inj ht1
   exact ⟨_, Gst.only [4] rfl, rfl⟩
 refine TL.on rfl rfl rfl rfl (decide_eq_true c2) ?_
 refine aA rfl rfl ?_
 refine TL.on rfl rfl rfl rfl (decide_eq_true c2) ?_
 refine aA rfl rfl ?_
 refine TL.on rfl rfl rfl rfl (decide_eq_true c2) ?_
 refine aA rfl rfl ?_
 refine TL.on rfl rfl rfl rfl (decide_eq_true c2) ?_
 refine TL.op1 (OpR.cast (OpR.pure rfl) (intE (lenM _ _))) rfl ?_
 refine TL.on rfl rfl rfl rfl (decide_eq_true c2) ?_
 refine aA rfl rfl ?_
 refine TL.op1 (OpR.pickT rfl (decide_eq_true c2) rfl) rfl ?_
 refine aA rfl rfl ?_
 refine TL.nil ?_
 obtain rfl := Option.some.inj ht1
 exact ⟨_, Gst.only [4] rfl, rfl⟩
noncomputable def row_Row_At (a0 : row_Row) (a1 : Int) : Option (cell_Cell × Bool) :=
  bnd (row_Row_has a0 a1) fun x2 =>
  if x2 = true then
    bnd (idx a0.fCells a1) fun x4 =>
    some (x4, true)
  else
    some ((⟨(⟨[], 0⟩ : piece_Text), (⟨0, 0⟩ : arena_Span), false⟩ : cell_Cell), false)
set_option maxHeartbeats 4000000 in
theorem row_Row_At_c {a0 : row_Row} {a1 : Int} {res : cell_Cell × Bool} (h0 : row_Row_At a0 a1 = some res) : CallF X 18 [.agg [.sl 5 (List.map e_cell_Cell a0.fCells), .val (.int .i64 a0.fEnd), .val (.bool a0.fHidden)], .val (.int .i64 a1)] [] (fun x => .tup [.agg [.sl 2 (List.map e_arena_Span res.1.fText.fL), .val (.int .i64 res.1.fText.fN), .val (.int .i64 res.1.fRaw.fAt), .val (.int .i64 res.1.fRaw.fN), .val (.bool res.1.fKept)], .val (.bool res.2)]) (fun x => []) := by
 unfold row_Row_At at h0
 refine CallF.mkG (X := X) rfl Try.func18 rfl rfl Try.ntmps18 rfl rfl ?_
 refine aS ?_
 refine TL.op1 (OpR.boxImm rfl rfl) rfl ?_
 refine TL.op (OpR.alloc rfl rfl (fun _ => rfl)) rfl (fun p1 => ?_)
 refine aA rfl rfl ?_
 refine TL.nil ?_
 show T X _ _ _
 refine T.seq ?_
 refine aS ?_
 iterate 2 refine aA rfl rfl ?_
 obtain ⟨x2, hx2, h0⟩ := bnd_some h0
 refine TL.op1 (OpR.call0 fn49 (row_Row_has_c hx2) rfl) rfl ?_
 refine aA rfl rfl ?_
 refine TL.nil ?_
 show T X _ _ _
 rcases ite_some h0 with ⟨c3, h0⟩ | ⟨c3, h0⟩
 rotate_left
 · refine T.condT rfl (not_f (eq_false_of_ne_true c3)) ?_
   refine aS ?_
   refine TL.op1 (OpR.build rfl rfl rfl rfl rfl) rfl ?_
   refine TL.op0 (OpR.store 0 rfl rfl rfl rfl rfl rfl rfl rfl) ?_
   refine aA rfl rfl ?_
   refine TL.nil ?_
   show T X _ _ _
   refine T.ret ?_
   obtain rfl := Option.some.inj h0
   exact PostG.retP (ks := []) (Gst.trans (Gst.only [4, 5] rfl) (Gst.denil (ReS.cons Re.refl (ReS.cons Re.refl ReS.nil)) (ReO.var (ReL.cons (Re.base .nil) (ReL.cons Re.refl (ReL.cons Re.refl (ReL.cons Re.refl (ReL.cons Re.refl ReL.nil))))) ReO.nil))) undef (ResL.cons (ResV.var 0 rfl rfl rfl rfl) (ResL.cons (ResV.tmp rfl) ResL.nil)) rfl rfl rfl rfl
 refine T.condF rfl (not_t (c3)) ?_
 refine T.skip ?_
 show T X _ _ _
 refine aS ?_
 iterate 3 refine aA rfl rfl ?_
 obtain ⟨x4, hx4, h0⟩ := bnd_some h0
 refine TL.op1 (OpR.indexM e_cell_Cell hx4 rfl rfl rfl rfl rfl) rfl ?_
 refine aA rfl rfl ?_
 refine TL.op0 (OpR.store 0 rfl rfl rfl rfl rfl rfl rfl rfl) ?_
 refine aA rfl rfl ?_
 refine TL.nil ?_
 show T X _ _ _
 refine T.ret ?_
 obtain rfl := Option.some.inj h0
 exact PostG.retP (ks := []) (Gst.only [4, 5] rfl) undef (ResL.cons (ResV.var 0 rfl rfl rfl rfl) (ResL.cons (ResV.tmp rfl) ResL.nil)) rfl rfl rfl rfl
noncomputable def cols_Cells_r0 (a0 : Int) (a1 : row_Row) (a2 : Int) (a3 : List cell_Cell) (a4 : List Bool) : Option ((List cell_Cell) × (List Bool)) :=
  bnd (row_Row_At a1 a2) fun x33 =>
  bnd (idx a3 a0) fun x34 =>
  bnd (idx a4 a0) fun x35 =>
  some ((a3.set a0.toNat x33.1), (a4.set a0.toNat x33.2))
set_option maxHeartbeats 4000000 in
theorem cols_Cells_r0_c {a0 : Int} {a1 : row_Row} {a2 : Int} {a3 : List cell_Cell} {a4 : List Bool} {b0 : Nat} {b1 : Nat} {b2 : Nat} {v3 : Value} {v4 : Value} {res : (List cell_Cell) × (List Bool)} (h0 : cols_Cells_r0 a0 a1 a2 a3 a4 = some res) : RoundF X b0 [.val (.int .i64 a0), .agg [.sl 5 (List.map e_cell_Cell a1.fCells), .val (.int .i64 a1.fEnd), .val (.bool a1.fHidden)]] [.lp b0 .ready none [21, 22] rfA7_0 rfB7_0 [(7, .val (.pointer (some ⟨b2, 0, none⟩))), (6, .val (.pointer (some ⟨b1, 0, none⟩))), (3, .nod [.val (.int .i64 a2)])] 37, .var b1 [.val v3] 35, .var b2 [.val v4] 36, .row v3 (List.map e_cell_Cell a3) 5 50, .row v4 (List.map eB a4) 1 4] (fun x => .val (.bool true)) (fun x => [.lp b0 .ready none [21, 22] rfA7_0 rfB7_0 [(7, .val (.pointer (some ⟨b2, 0, none⟩))), (6, .val (.pointer (some ⟨b1, 0, none⟩))), (3, .nod [.val (.int .i64 a2)])] 37, .var b1 [.val v3] 35, .var b2 [.val v4] 36, .row v3 (List.map e_cell_Cell res.1) 5 50, .row v4 (List.map eB res.2) 1 4]) := by
 unfold cols_Cells_r0 at h0
 refine RoundF.mk (X := X) rfl rfl rfl ?_
 refine aS ?_
 refine aA rfl rfl ?_
 refine TL.nil ?_
 show T (X.inR b0) _ _ _
 refine T.region ?_
 refine TL.op (OpR.alloc rfl rfl (fun _ => rfl)) rfl (fun p31 => ?_)
 refine TL.op0 (OpR.store 5 rfl rfl rfl rfl rfl rfl rfl rfl) ?_
 refine TL.nil ?_
 refine RoundA.mk ?_
 refine T.block ?_
 obtain ⟨x33, hx33, h0⟩ := bnd_some h0
 obtain ⟨x34, hx34, h0⟩ := bnd_some h0
 obtain ⟨x35, hx35, h0⟩ := bnd_some h0
 refine T.drawS drawsX (fun env32 => [.val v3, .val (.int .i64 a0), .val v4, .val (.int .i64 a0), .agg [.sl 5 (List.map e_cell_Cell a1.fCells), .val (.int .i64 a1.fEnd), .val (.bool a1.fHidden)], .val (.int .i64 a2), .tup [.agg [.sl 2 (List.map e_arena_Span x33.1.fText.fL), .val (.int .i64 x33.1.fText.fN), .val (.int .i64 x33.1.fRaw.fAt), .val (.int .i64 x33.1.fRaw.fN), .val (.bool x33.1.fKept)], .val (.bool x33.2)], .tup [.agg [.sl 2 (List.map e_arena_Span x33.1.fText.fL), .val (.int .i64 x33.1.fText.fN), .val (.int .i64 x33.1.fRaw.fAt), .val (.int .i64 x33.1.fRaw.fN), .val (.bool x33.1.fKept)], .val (.bool x33.2)], .agg [.sl 2 (List.map e_arena_Span x33.1.fText.fL), .val (.int .i64 x33.1.fText.fN), .val (.int .i64 x33.1.fRaw.fAt), .val (.int .i64 x33.1.fRaw.fN), .val (.bool x33.1.fKept)], .val (.bool x33.2), .val (.pointer (some ⟨blk v3, a0.toNat * 5, none⟩)), .dead, .val (.pointer (some ⟨blk v4, a0.toNat * 1, none⟩)), .dead]) (fun D env32 => [.lp b0 .busy none [21, 22] rfA7_0 rfB7_0 [(7, .val (.pointer (some ⟨b2, 0, none⟩))), (6, .val (.pointer (some ⟨b1, 0, none⟩))), (3, .nod [.val (.int .i64 a2)])] 37, .var b1 [.val v3] 35, .var b2 [.val v4] 36, (bif D 11 then .row v3 (List.map e_cell_Cell (a3.set a0.toNat x33.1)) 5 50 else .row v3 (List.map e_cell_Cell a3) 5 50), (bif D 13 then .row v4 (List.map eB (a4.set a0.toNat x33.2)) 1 4 else .row v4 (List.map eB a4) 1 4), .var (blk p31) [.sl 5 (List.map e_cell_Cell a1.fCells), .val (.int .i64 a1.fEnd), .val (.bool a1.fHidden)] 68]) [0, 0, 0, 0, 0, 0, 48, 112, 240, 240, 499, 1523, 4095, 8191] [] (fun env32 => [.lp b0 .busy none [21, 22] rfA7_0 rfB7_0 [(7, .val (.pointer (some ⟨b2, 0, none⟩))), (6, .val (.pointer (some ⟨b1, 0, none⟩))), (3, .nod [.val (.int .i64 a2)])] 37, .var b1 [.val v3] 35, .var b2 [.val v4] 36, .row v3 (List.map e_cell_Cell (a3.set a0.toNat x33.1)) 5 50, .row v4 (List.map eB (a4.set a0.toNat x33.2)) 1 4, .var (blk p31) [.sl 5 (List.map e_cell_Cell a1.fCells), .val (.int .i64 a1.fEnd), .val (.bool a1.fHidden)] 68]) (by decide +kernel) (by decide +kernel) (fun _ => rfl) (fun _ => rfl) ?_ (fun _ => rfl) (fun _ => rfl) ?_
 rotate_left
 · intro env32
   obtain rfl := Option.some.inj h0
   exact RoundG.mk (ks := [0, 1, 2, 3, 4]) (Gst.trans (Gst.only [] rfl) (Gst.pick [0, 1, 2, 3, 4] rfl rfl)) undef rfl rfl rfl rfl rfl
 refine oS (d := .val v3) (fun _ => Want.plain rfl) (fun _ => rfl) (fun _ _ _ => rfl) (fun _ _ => OpR.loadPtr 1 rfl rfl rfl rfl) (fun _ _ _ _ _ _ _ => rfl) ?_
 refine aC ?_
 refine oS (d := .val v4) (fun _ => Want.plain rfl) (fun _ => rfl) (fun _ _ _ => rfl) (fun _ _ => OpR.loadPtr 2 rfl rfl rfl rfl) (fun _ _ _ _ _ _ _ => rfl) ?_
 refine aC ?_
 refine oS (d := .agg [.sl 5 (List.map e_cell_Cell a1.fCells), .val (.int .i64 a1.fEnd), .val (.bool a1.fHidden)]) (fun _ => Want.plain rfl) (fun _ => rfl) (fun _ _ _ => rfl) (fun _ _ => OpR.loadPtr 5 rfl rfl rfl rfl) (fun _ _ _ _ _ _ _ => rfl) ?_
 refine aC ?_
 refine oS (d := .tup [.agg [.sl 2 (List.map e_arena_Span x33.1.fText.fL), .val (.int .i64 x33.1.fText.fN), .val (.int .i64 x33.1.fRaw.fAt), .val (.int .i64 x33.1.fRaw.fN), .val (.bool x33.1.fKept)], .val (.bool x33.2)]) (fun _ => Want.plain rfl) (fun _ => rfl) (fun _ _ _ => rfl) (fun _ _ => OpR.call0 fn18 (row_Row_At_c hx33) rfl) (fun _ _ _ _ _ _ _ => rfl) ?_
 iterate 3 refine aC ?_
 refine OpsS.cons' true ?_ (fun _ _ _ _ _ _ _ => rfl) ?_
 · intro D env32 hA
   have e11 : D 11 = false := hA.no 11 _ rfl rfl
   have e13 : D 13 = false := hA.no 13 _ rfl rfl
   exact OpS.yes (o0 := [.lp b0 .busy none [21, 22] rfA7_0 rfB7_0 [(7, .val (.pointer (some ⟨b2, 0, none⟩))), (6, .val (.pointer (some ⟨b1, 0, none⟩))), (3, .nod [.val (.int .i64 a2)])] 37, .var b1 [.val v3] 35, .var b2 [.val v4] 36, .row v3 (List.map e_cell_Cell a3) 5 50, .row v4 (List.map eB a4) 1 4, .var (blk p31) [.sl 5 (List.map e_cell_Cell a1.fCells), .val (.int .i64 a1.fEnd), .val (.bool a1.fHidden)] 68]) (o1 := fun x => [.lp b0 .busy none [21, 22] rfA7_0 rfB7_0 [(7, .val (.pointer (some ⟨b2, 0, none⟩))), (6, .val (.pointer (some ⟨b1, 0, none⟩))), (3, .nod [.val (.int .i64 a2)])] 37, .var b1 [.val v3] 35, .var b2 [.val v4] 36, .row v3 (List.map e_cell_Cell a3) 5 50, .row v4 (List.map eB a4) 1 4, .var (blk p31) [.sl 5 (List.map e_cell_Cell a1.fCells), .val (.int .i64 a1.fEnd), .val (.bool a1.fHidden)] 68]) (d := fun x => .val (.pointer (some ⟨blk v3, a0.toNat * 5, none⟩))) (Want.plain rfl) (by first | rfl | simp only [e11, e13, cond_true, cond_false, List.cons_append, List.nil_append, List.append_nil]) (fun x => by first | rfl | simp only [ins_self, ins_ne D (show 10 ≠ 11 by decide), ins_ne D (show 10 ≠ 13 by decide), upd_self, e11, e13, cond_true, cond_false, List.cons_append, List.nil_append, List.append_nil]) (fun x => rfl) (OpR.rowIndexM e_cell_Cell 3 hx34 rfl rfl rfl rfl rfl rfl rfl)
 refine OpsS.cons' true ?_ (fun _ _ _ _ _ _ _ => rfl) ?_
 · intro D env32 hA
   have e13 : D 13 = false := hA.no 13 _ rfl rfl
   exact OpS.yes (o0 := [.lp b0 .busy none [21, 22] rfA7_0 rfB7_0 [(7, .val (.pointer (some ⟨b2, 0, none⟩))), (6, .val (.pointer (some ⟨b1, 0, none⟩))), (3, .nod [.val (.int .i64 a2)])] 37, .var b1 [.val v3] 35, .var b2 [.val v4] 36, .row v3 (List.map e_cell_Cell a3) 5 50, .row v4 (List.map eB a4) 1 4, .var (blk p31) [.sl 5 (List.map e_cell_Cell a1.fCells), .val (.int .i64 a1.fEnd), .val (.bool a1.fHidden)] 68]) (o1 := fun x => [.lp b0 .busy none [21, 22] rfA7_0 rfB7_0 [(7, .val (.pointer (some ⟨b2, 0, none⟩))), (6, .val (.pointer (some ⟨b1, 0, none⟩))), (3, .nod [.val (.int .i64 a2)])] 37, .var b1 [.val v3] 35, .var b2 [.val v4] 36, .row v3 (List.map e_cell_Cell (a3.set a0.toNat x33.1)) 5 50, .row v4 (List.map eB a4) 1 4, .var (blk p31) [.sl 5 (List.map e_cell_Cell a1.fCells), .val (.int .i64 a1.fEnd), .val (.bool a1.fHidden)] 68]) (d := fun x => .dead) (Want.plain rfl) (by first | rfl | simp only [e13, hA.me, cond_true, cond_false, List.cons_append, List.nil_append, List.append_nil]) (fun x => by first | rfl | simp only [ins_self, ins_ne D (show 11 ≠ 13 by decide), upd_self, e13, hA.me, cond_true, cond_false, List.cons_append, List.nil_append, List.append_nil]) (fun x => rfl) (OpR.rowStore0M (j := a0) e_cell_Cell x33.1 3 hx34 rfl rfl rfl rfl rfl rfl rfl rfl rfl)
 refine OpsS.cons' true ?_ (fun _ _ _ _ _ _ _ => rfl) ?_
 · intro D env32 hA
   have e11 : D 11 = true := hA.yes 11 _ rfl rfl
   have e13 : D 13 = false := hA.no 13 _ rfl rfl
   exact OpS.yes (o0 := [.lp b0 .busy none [21, 22] rfA7_0 rfB7_0 [(7, .val (.pointer (some ⟨b2, 0, none⟩))), (6, .val (.pointer (some ⟨b1, 0, none⟩))), (3, .nod [.val (.int .i64 a2)])] 37, .var b1 [.val v3] 35, .var b2 [.val v4] 36, .row v3 (List.map e_cell_Cell (a3.set a0.toNat x33.1)) 5 50, .row v4 (List.map eB a4) 1 4, .var (blk p31) [.sl 5 (List.map e_cell_Cell a1.fCells), .val (.int .i64 a1.fEnd), .val (.bool a1.fHidden)] 68]) (o1 := fun x => [.lp b0 .busy none [21, 22] rfA7_0 rfB7_0 [(7, .val (.pointer (some ⟨b2, 0, none⟩))), (6, .val (.pointer (some ⟨b1, 0, none⟩))), (3, .nod [.val (.int .i64 a2)])] 37, .var b1 [.val v3] 35, .var b2 [.val v4] 36, .row v3 (List.map e_cell_Cell (a3.set a0.toNat x33.1)) 5 50, .row v4 (List.map eB a4) 1 4, .var (blk p31) [.sl 5 (List.map e_cell_Cell a1.fCells), .val (.int .i64 a1.fEnd), .val (.bool a1.fHidden)] 68]) (d := fun x => .val (.pointer (some ⟨blk v4, a0.toNat * 1, none⟩))) (Want.plain rfl) (by first | rfl | simp only [e11, e13, cond_true, cond_false, List.cons_append, List.nil_append, List.append_nil]) (fun x => by first | rfl | simp only [ins_self, ins_ne D (show 12 ≠ 11 by decide), ins_ne D (show 12 ≠ 13 by decide), upd_self, e11, e13, cond_true, cond_false, List.cons_append, List.nil_append, List.append_nil]) (fun x => rfl) (OpR.rowIndexM eB 4 hx35 rfl rfl rfl rfl rfl rfl rfl)
 refine OpsS.cons' true ?_ (fun _ _ _ _ _ _ _ => rfl) ?_
 · intro D env32 hA
   have e11 : D 11 = true := hA.yes 11 _ rfl rfl
   exact OpS.yes (o0 := [.lp b0 .busy none [21, 22] rfA7_0 rfB7_0 [(7, .val (.pointer (some ⟨b2, 0, none⟩))), (6, .val (.pointer (some ⟨b1, 0, none⟩))), (3, .nod [.val (.int .i64 a2)])] 37, .var b1 [.val v3] 35, .var b2 [.val v4] 36, .row v3 (List.map e_cell_Cell (a3.set a0.toNat x33.1)) 5 50, .row v4 (List.map eB a4) 1 4, .var (blk p31) [.sl 5 (List.map e_cell_Cell a1.fCells), .val (.int .i64 a1.fEnd), .val (.bool a1.fHidden)] 68]) (o1 := fun x => [.lp b0 .busy none [21, 22] rfA7_0 rfB7_0 [(7, .val (.pointer (some ⟨b2, 0, none⟩))), (6, .val (.pointer (some ⟨b1, 0, none⟩))), (3, .nod [.val (.int .i64 a2)])] 37, .var b1 [.val v3] 35, .var b2 [.val v4] 36, .row v3 (List.map e_cell_Cell (a3.set a0.toNat x33.1)) 5 50, .row v4 (List.map eB (a4.set a0.toNat x33.2)) 1 4, .var (blk p31) [.sl 5 (List.map e_cell_Cell a1.fCells), .val (.int .i64 a1.fEnd), .val (.bool a1.fHidden)] 68]) (d := fun x => .dead) (Want.plain rfl) (by first | rfl | simp only [e11, hA.me, cond_true, cond_false, List.cons_append, List.nil_append, List.append_nil]) (fun x => by first | rfl | simp only [ins_self, ins_ne D (show 13 ≠ 11 by decide), upd_self, e11, hA.me, cond_true, cond_false, List.cons_append, List.nil_append, List.append_nil]) (fun x => rfl) (OpR.rowStore0M (j := a0) eB x33.2 4 hx35 rfl rfl rfl rfl rfl rfl rfl rfl rfl)
 exact trivial
noncomputable def walk_Range_row_Row_1_5.l1 (a0 : Int) (a2 : Int) (s8 : Int × (List cell_Cell) × (List Bool) × (List walk_frame_damier_row_Row)) : Option (Lp (Int × (List cell_Cell) × (List Bool) × (List walk_frame_damier_row_Row)) ((List cell_Cell) × (List Bool))) :=
  if s8.1 < a2 then
    bnd (walk_stack_row_Row_top s8.2.2.2) fun x17 =>
    bnd (idx s8.2.2.2 x17) fun x18 =>
    bnd (some x18.fN) fun q19 => match q19 with
      | none =>
        none
      | some z20 =>
        bnd (o_tree_Node_damier_row_Row z20) fun x22 =>
        bnd (if x18.fNext = (x22.fItems.length : Int) then
          bnd (walk_stack_row_Row_forth s8.2.2.2) fun x27 =>
          some x27.2
        else
          some s8.2.2.2 : Option (List walk_frame_damier_row_Row)) fun t24 =>
        bnd (walk_stack_row_Row_top t24) fun x29 =>
        bnd (idx t24 x29) fun x30 =>
        bnd (some x30.fN) fun q31 => match q31 with
          | none =>
            none
          | some z32 =>
            bnd (o_tree_Node_damier_row_Row z32) fun x34 =>
            bnd (idx x34.fItems x30.fNext) fun x36 =>
            bnd (cols_Cells_r0 s8.1 x36 a0 s8.2.1 s8.2.2.1) fun x37 =>
            some (Lp.next (w64 (s8.1 + 1), x37.1, x37.2, (t24.set x29.toNat (⟨x30.fN, x30.fFirst, w64 (x30.fNext + 1)⟩ : walk_frame_damier_row_Row))))
  else
    some (Lp.done (s8.2.1, s8.2.2.1))
noncomputable def walk_Range_row_Row_1_5 (a0 : Int) (a1 : Int) (a2 : Int) (a3 : Option NP) (a4 : List cell_Cell) (a5 : List Bool) : Option ((List cell_Cell) × (List Bool)) :=
  if a1 = a2 then
    some (a4, a5)
  else
    bnd (tree_Tree_row_Row_Root (⟨a3⟩ : tree_Tree_damier_row_Row)) fun x4 =>
    match x4 with
    | .inl x4 =>
        none
    | .inr x4 =>
        bnd (walk_stack_row_Row_down x4.1 x4.2.1 x4.2.2 0 a1) fun x5 =>
        bnd (loop (walk_Range_row_Row_1_5.l1 a0 a2) (a1, a4, a5, x5) : Option ((List cell_Cell) × (List Bool))) fun t6 =>
        some (t6.1, t6.2)
set_option maxHeartbeats 4000000 in
theorem walk_Range_row_Row_1_5_c {a0 : Int} {a1 : Int} {a2 : Int} {a3 : Option NP} {a4 : List cell_Cell} {a5 : List Bool} {b0 : Nat} {b1 : Nat} {b2 : Nat} {b3 : Nat} {b4 : Nat} {b5 : Nat} {v6 : Value} {v7 : Value} {res : (List cell_Cell) × (List Bool)} (h0 : walk_Range_row_Row_1_5 a0 a1 a2 a3 a4 a5 = some res) : CallF X 44 [.fn (.yield b0) [] [], .val (.pointer (some ⟨b1, 0, none⟩)), .val (.pointer (some ⟨b2, 0, none⟩)), .val (.pointer (some ⟨b3, 0, none⟩))] [.lp b0 .ready none [21, 22] rfA7_0 rfB7_0 [(7, .val (.pointer (some ⟨b5, 0, none⟩))), (6, .val (.pointer (some ⟨b4, 0, none⟩))), (3, .nod [.val (.int .i64 a0)])] 37, .var b1 [.val (.int .i64 a1)] 3, .var b2 [.val (.int .i64 a2)] 3, .var b3 [(eOP a3)] 24, .var b4 [.val v6] 35, .var b5 [.val v7] 36, .row v6 (List.map e_cell_Cell a4) 5 50, .row v7 (List.map eB a5) 1 4] (fun x => .tup []) (fun x => [.lp b0 .ready none [21, 22] rfA7_0 rfB7_0 [(7, .val (.pointer (some ⟨b5, 0, none⟩))), (6, .val (.pointer (some ⟨b4, 0, none⟩))), (3, .nod [.val (.int .i64 a0)])] 37, .var b1 [.val (.int .i64 a1)] 3, .var b2 [.val (.int .i64 a2)] 3, .var b3 [(eOP a3)] 24, .var b4 [.val v6] 35, .var b5 [.val v7] 36, .row v6 (List.map e_cell_Cell res.1) 5 50, .row v7 (List.map eB res.2) 1 4]) := by
 unfold walk_Range_row_Row_1_5 at h0
 refine CallF.mkG (X := X) rfl Try.func44 rfl rfl Try.ntmps44 rfl rfl ?_
 refine T.seq ?_
 refine aS ?_
 refine TL.op1 (OpR.loadPtr 1 rfl rfl rfl rfl) rfl ?_
 refine TL.op1 (OpR.loadPtr 2 rfl rfl rfl rfl) rfl ?_
 refine aA rfl rfl ?_
 refine TL.nil ?_
 show T X _ _ _
 rcases ite_some h0 with ⟨c1, h0⟩ | ⟨c1, h0⟩
 · refine T.condT rfl (beq_iff_eq.2 c1) ?_
   refine T.ret ?_
   obtain rfl := Option.some.inj h0
   exact PostG.retP (ks := [0, 1, 2, 3, 4, 5, 6, 7]) (Gst.only [] rfl) undef ResL.nil rfl rfl rfl rfl
 refine T.condF rfl (beq_eq_false_iff_ne.2 c1) ?_
 refine T.skip ?_
 show T X _ _ _
 refine aS ?_
 refine TL.op (OpR.alloc rfl rfl (fun _ => rfl)) rfl (fun p2 => ?_)
 refine TL.nil ?_
 show T X _ _ _
 refine T.seq ?_
 obtain ⟨x4, hx4, h0⟩ := bnd_some h0
 rcases x4 with x4 | x4
 · dsimp only at h0
   exact (by cases h0)
 dsimp only at h0
 obtain ⟨x5, hx5, h0⟩ := bnd_some h0
 refine T.drawS drawsX (fun env3 => [.agg [(eOP a3)], .nod [.sl 1 (List.map eNP x4.1), .sl 3 (List.map e_row_Row x4.2.1), .val (.int .i64 x4.2.2)], .val (.int .i64 a1), .tup []]) (fun D env3 => [.lp b0 .ready none [21, 22] rfA7_0 rfB7_0 [(7, .val (.pointer (some ⟨b5, 0, none⟩))), (6, .val (.pointer (some ⟨b4, 0, none⟩))), (3, .nod [.val (.int .i64 a0)])] 37, .var b1 [.val (.int .i64 a1)] 3, .var b2 [.val (.int .i64 a2)] 3, .var b3 [(eOP a3)] 24, .var b4 [.val v6] 35, .var b5 [.val v7] 36, .row v6 (List.map e_cell_Cell a4) 5 50, .row v7 (List.map eB a5) 1 4, (bif D 3 then .var (blk p2) [.val (vn (env3 3) 0)] 111 else .var (blk p2) [.val (.slice none 0 0)] 111)] ++ (bif D 3 then [.row (vn (env3 3) 0) (List.map e_walk_frame_damier_row_Row x5) 3 117] else [])) [0, 1, 0, 7] [0, 1, 2, 5] (fun env3 => [.lp b0 .ready none [21, 22] rfA7_0 rfB7_0 [(7, .val (.pointer (some ⟨b5, 0, none⟩))), (6, .val (.pointer (some ⟨b4, 0, none⟩))), (3, .nod [.val (.int .i64 a0)])] 37, .var b1 [.val (.int .i64 a1)] 3, .var b2 [.val (.int .i64 a2)] 3, .var b3 [(eOP a3)] 24, .var b4 [.val v6] 35, .var b5 [.val v7] 36, .row v6 (List.map e_cell_Cell a4) 5 50, .row v7 (List.map eB a5) 1 4, .var (blk p2) [.val (vn (env3 3) 0)] 111, .row (vn (env3 3) 0) (List.map e_walk_frame_damier_row_Row x5) 3 117]) (by decide +kernel) (by decide +kernel) (fun _ => rfl) (fun _ => rfl) ?_ (fun _ => rfl) (fun _ => rfl) ?_
 · refine oS (d := .agg [(eOP a3)]) (fun _ => Want.plain rfl) (fun _ => rfl) (fun _ _ _ => rfl) (fun _ _ => OpR.loadPtr 3 rfl rfl rfl rfl) (fun _ _ _ _ _ _ _ => rfl) ?_
   refine oS (d := .nod [.sl 1 (List.map eNP x4.1), .sl 3 (List.map e_row_Row x4.2.1), .val (.int .i64 x4.2.2)]) (fun _ => Want.plain rfl) (fun _ => rfl) (fun _ _ _ => rfl) (fun _ _ => OpR.call0 fn46 (tree_Tree_row_Row_Root_cx2 hx4) rfl) (fun _ _ _ _ _ _ _ => rfl) ?_
   refine oS (d := .val (.int .i64 a1)) (fun _ => Want.plain rfl) (fun _ => rfl) (fun _ _ _ => rfl) (fun _ _ => OpR.loadPtr 1 rfl rfl rfl rfl) (fun _ _ _ _ _ _ _ => rfl) ?_
   refine OpsS.cons' true ?_ (fun D hA env3 x j hj hD => match j, hj, hD with | 0, _, _ => rfl | 1, _, _ => rfl | 2, _, _ => rfl | 3, hj, _ => absurd rfl hj | _ + 4, _, _ => rfl) ?_
   · intro D env3 hA
     exact OpS.yes (o0 := [.lp b0 .ready none [21, 22] rfA7_0 rfB7_0 [(7, .val (.pointer (some ⟨b5, 0, none⟩))), (6, .val (.pointer (some ⟨b4, 0, none⟩))), (3, .nod [.val (.int .i64 a0)])] 37, .var b1 [.val (.int .i64 a1)] 3, .var b2 [.val (.int .i64 a2)] 3, .var b3 [(eOP a3)] 24, .var b4 [.val v6] 35, .var b5 [.val v7] 36, .row v6 (List.map e_cell_Cell a4) 5 50, .row v7 (List.map eB a5) 1 4, .var (blk p2) [.val (.slice none 0 0)] 111]) (o1 := fun x => [.lp b0 .ready none [21, 22] rfA7_0 rfB7_0 [(7, .val (.pointer (some ⟨b5, 0, none⟩))), (6, .val (.pointer (some ⟨b4, 0, none⟩))), (3, .nod [.val (.int .i64 a0)])] 37, .var b1 [.val (.int .i64 a1)] 3, .var b2 [.val (.int .i64 a2)] 3, .var b3 [(eOP a3)] 24, .var b4 [.val v6] 35, .var b5 [.val v7] 36, .row v6 (List.map e_cell_Cell a4) 5 50, .row v7 (List.map eB a5) 1 4, .var (blk p2) [.val (vn x 0)] 111, .row (vn x 0) (List.map e_walk_frame_damier_row_Row x5) 3 117]) (d := fun x => .tup []) (Want.plain rfl) (by first | rfl | simp only [hA.me, cond_true, cond_false, List.cons_append, List.nil_append, List.append_nil]) (fun x => by first | rfl | simp only [ins_self, upd_self, hA.me, cond_true, cond_false, List.cons_append, List.nil_append, List.append_nil]) (fun x => rfl) (OpR.call [8] fn45 (walk_stack_row_Row_down_c hx5) rfl rfl rfl (fun _ => rfl))
   exact trivial
 intro env3
 show T X _ _ _
 refine aS ?_
 refine TL.op1 (OpR.loadPtr 1 rfl rfl rfl rfl) rfl ?_
 refine aA rfl rfl ?_
 refine TL.nil ?_
 show T X _ _ _
 obtain ⟨t6, ht6, h0⟩ := bnd_some h0
 refine T.cutN (fun S' => S' = ⟨[], [.lp b0 .ready none [21, 22] rfA7_0 rfB7_0 [(7, .val (.pointer (some ⟨b5, 0, none⟩))), (6, .val (.pointer (some ⟨b4, 0, none⟩))), (3, .nod [.val (.int .i64 a0)])] 37, .var b1 [.val (.int .i64 a1)] 3, .var b2 [.val (.int .i64 a2)] 3, .var b3 [(eOP a3)] 24, .var b4 [.val v6] 35, .var b5 [.val v7] 36, .row v6 (List.map e_cell_Cell t6.1) 5 50, .row v7 (List.map eB t6.2) 1 4], 62⟩) (fun _ _ g ⟨h, S', ds, g', r⟩ => ⟨h, S', ds, Gst.trans g g', r⟩) ?_ ?_
 rotate_left
 · rintro _ rfl
   obtain rfl := Option.some.inj h0
   exact PostG.finP (ks := [0, 1, 2, 3, 4, 5, 6, 7]) (Gst.only [] rfl) undef ResL.nil rfl rfl rfl rfl
 refine T.block ?_
 obtain ⟨n9, n14⟩ := loop_some ht6
 refine T.loop (fun n S' => ∃ S'', Gst S' S'' ∧ ∃ y7 : Value, ∃ s8 : Int × (List cell_Cell) × (List Bool) × (List walk_frame_damier_row_Row), S'' = ⟨[(6, .val (.int .i64 s8.1)), (5, .val (.pointer (some ⟨(blk p2), 0, none⟩))), (2, .val (.pointer (some ⟨b2, 0, none⟩))), (0, .fn (.yield b0) [] [])], [.lp b0 .ready none [21, 22] rfA7_0 rfB7_0 [(7, .val (.pointer (some ⟨b5, 0, none⟩))), (6, .val (.pointer (some ⟨b4, 0, none⟩))), (3, .nod [.val (.int .i64 a0)])] 37, .var b1 [.val (.int .i64 a1)] 3, .var b2 [.val (.int .i64 a2)] 3, .var b3 [(eOP a3)] 24, .var b4 [.val v6] 35, .var b5 [.val v7] 36, .row v6 (List.map e_cell_Cell s8.2.1) 5 50, .row v7 (List.map eB s8.2.2.1) 1 4, .var (blk p2) [.val y7] 111, .row y7 (List.map e_walk_frame_damier_row_Row s8.2.2.2) 3 117], 62⟩ ∧ iter (walk_Range_row_Row_1_5.l1 a0 a2) n s8 = some t6) n9 ?_ ?_
 · exact ⟨_, Gst.only [0, 2, 5, 6] rfl, (vn (env3 3) 0), (a1, a4, a5, x5), rfl, n14⟩
 rintro n9 _ ⟨_, g, y7, s8, rfl, i13⟩
 refine T.ghost g ?_
 obtain ⟨m10, q11, rfl, q12, i13⟩ := iter_succ i13
 unfold walk_Range_row_Row_1_5.l1 at q12
 refine T.seq ?_
 refine aS ?_
 refine aA rfl rfl ?_
 refine TL.op1 (OpR.loadPtr 2 rfl rfl rfl rfl) rfl ?_
 refine aA rfl rfl ?_
 refine TL.nil ?_
 show T X _ _ _
 rcases ite_some q12 with ⟨c16, q12⟩ | ⟨c16, q12⟩
 rotate_left
 · refine T.condF rfl (decide_eq_false c16) ?_
   refine T.exit ?_
   obtain rfl := Option.some.inj q12
   obtain rfl : _ = _ := i13
   exact ⟨_, Gst.trans (Gst.only [] rfl) (Gst.pick [0, 1, 2, 3, 4, 5, 6, 7] rfl rfl), rfl⟩
 refine T.condT rfl (decide_eq_true c16) ?_
 refine T.skip ?_
 show T X _ _ _
 refine T.seq ?_
 refine T.block ?_
 refine T.seq ?_
 refine aS ?_
 obtain ⟨x17, hx17, q12⟩ := bnd_some q12
 refine TL.op1 (OpR.call [8, 9] fn47 (walk_stack_row_Row_top_c hx17) rfl rfl rfl (fun _ => rfl)) rfl ?_
 refine aA rfl rfl ?_
 refine TL.nil ?_
 show T X _ _ _
 refine T.seq ?_
 obtain ⟨x18, hx18, q12⟩ := bnd_some q12
 obtain ⟨q19, hq19, q12⟩ := bnd_some q12
 rcases q19 with _ | z20
 · dsimp only at q12
   exact (by cases q12)
 dsimp only at q12
 obtain ⟨x22, hx22, q12⟩ := bnd_some q12
 rw [o_tree_Node_damier_row_Row_eq hx22] at hq19
 refine T.drawQ drawsX [.val (.pointer (some ⟨blk y7, x17.toNat * 3, none⟩)), .val (.pointer (some ⟨blk y7, x17.toNat * 3, none⟩)), .val (.pointer (some ⟨blk y7, x17.toNat * 3 + 2, none⟩)), .val (.int .i64 x18.fNext), .val (.pointer (some ⟨blk y7, x17.toNat * 3, none⟩)), .val (.pointer (some ⟨blk y7, x17.toNat * 3, none⟩)), .val (.pointer (some ⟨blk y7, x17.toNat * 3, none⟩)), .nod [.sl 1 (List.map eNP x22.fKids), .sl 3 (List.map e_row_Row x22.fItems), .val (.int .i64 x22.fN)], .nod [.sl 1 (List.map eNP x22.fKids), .sl 3 (List.map e_row_Row x22.fItems), .val (.int .i64 x22.fN)], .nod [.sl 3 (List.map e_row_Row x22.fItems), .val (.int .i64 x22.fN)], .sl 3 (List.map e_row_Row x22.fItems), .val (.int .i64 (x22.fItems.length : Int)), .val (.bool (x18.fNext == (x22.fItems.length : Int)))] [0, 2, 5, 6, 35] (by decide +kernel) rfl ?_ rfl ?_
 · iterate 3 refine aB rfl rfl rfl ?_
   refine OpsQ.yes (Want.plain rfl) rfl (OpR.rowLoadM (j := x17) e_walk_frame_damier_row_Row 9 hx18 rfl rfl rfl rfl) ?_
   iterate 3 refine aB rfl rfl rfl ?_
   refine OpsQ.yes (Want.plain rfl) rfl (OpR.cast (OpR.rowLoad0M (j := x17) e_walk_frame_damier_row_Row 9 hx18 rfl rfl rfl rfl) (congrArg eOP (Option.some.inj hq19))) ?_
   iterate 3 refine aB rfl rfl rfl ?_
   refine OpsQ.yes (Want.plain rfl) rfl (OpR.cast (OpR.pure rfl) (intE (lenM _ _))) ?_
   refine aB rfl rfl rfl ?_
   exact OpsQ.nil
 show T X _ _ _
 obtain ⟨t24, ht24, q12⟩ := bnd_some q12
 refine T.cutC (fun S' => ∃ y25 : Value, S' = ⟨[(6, .val (.int .i64 s8.1)), (5, .val (.pointer (some ⟨(blk p2), 0, none⟩))), (2, .val (.pointer (some ⟨b2, 0, none⟩))), (0, .fn (.yield b0) [] [])], [.lp b0 .ready none [21, 22] rfA7_0 rfB7_0 [(7, .val (.pointer (some ⟨b5, 0, none⟩))), (6, .val (.pointer (some ⟨b4, 0, none⟩))), (3, .nod [.val (.int .i64 a0)])] 37, .var b1 [.val (.int .i64 a1)] 3, .var b2 [.val (.int .i64 a2)] 3, .var b3 [(eOP a3)] 24, .var b4 [.val v6] 35, .var b5 [.val v7] 36, .row v6 (List.map e_cell_Cell s8.2.1) 5 50, .row v7 (List.map eB s8.2.2.1) 1 4, .var (blk p2) [.val y25] 111, .row y25 (List.map e_walk_frame_damier_row_Row t24) 3 117], 62⟩) (fun _ h => h) ?_ ?_
 · rcases ite_some ht24 with ⟨c26, ht24⟩ | ⟨c26, ht24⟩
   rotate_left
   · refine T.condF rfl (beq_eq_false_iff_ne.2 c26) ?_
     refine T.skip ?_
     obtain rfl := Option.some.inj ht24
     exact ⟨_, Gst.only [0, 2, 5, 6] rfl, y7, rfl⟩
   refine T.condT rfl (beq_iff_eq.2 c26) ?_
   refine T.region ?_
   obtain ⟨x27, hx27, ht24⟩ := bnd_some ht24
   refine TL.op (OpR.call [8, 9] fn48 (walk_stack_row_Row_forth_c hx27) rfl rfl rfl (fun _ => rfl)) rfl (fun w28 => ?_)
   refine TL.nil ?_
   obtain rfl := Option.some.inj ht24
   exact ⟨_, Gst.only [0, 2, 5, 6] rfl, (vn w28 0), rfl⟩
 rintro _ ⟨y25, rfl⟩
 show T X _ _ _
 refine aS ?_
 obtain ⟨x29, hx29, q12⟩ := bnd_some q12
 refine TL.op1 (OpR.call [8, 9] fn47 (walk_stack_row_Row_top_c hx29) rfl rfl rfl (fun _ => rfl)) rfl ?_
 refine aA rfl rfl ?_
 refine TL.nil ?_
 show T X _ _ _
 refine T.seq ?_
 refine T.seq ?_
 obtain ⟨x30, hx30, q12⟩ := bnd_some q12
 obtain ⟨q31, hq31, q12⟩ := bnd_some q12
 rcases q31 with _ | z32
 · dsimp only at q12
   exact (by cases q12)
 dsimp only at q12
 obtain ⟨x34, hx34, q12⟩ := bnd_some q12
 rw [o_tree_Node_damier_row_Row_eq hx34] at hq31
 obtain ⟨x36, hx36, q12⟩ := bnd_some q12
 obtain ⟨x37, hx37, q12⟩ := bnd_some q12
 refine T.drawS drawsX (fun env35 => [.fn (.yield b0) [] [], .val (.int .i64 s8.1), .val (.pointer (some ⟨blk y25, x29.toNat * 3, none⟩)), .val (.pointer (some ⟨blk y25, x29.toNat * 3, none⟩)), .val (.pointer (some ⟨blk y25, x29.toNat * 3, none⟩)), .nod [.sl 1 (List.map eNP x34.fKids), .sl 3 (List.map e_row_Row x34.fItems), .val (.int .i64 x34.fN)], .nod [.sl 1 (List.map eNP x34.fKids), .sl 3 (List.map e_row_Row x34.fItems), .val (.int .i64 x34.fN)], .nod [.sl 3 (List.map e_row_Row x34.fItems), .val (.int .i64 x34.fN)], .sl 3 (List.map e_row_Row x34.fItems), .val (.pointer (some ⟨blk y25, x29.toNat * 3, none⟩)), .val (.pointer (some ⟨blk y25, x29.toNat * 3, none⟩)), .val (.pointer (some ⟨blk y25, x29.toNat * 3 + 2, none⟩)), .val (.int .i64 x30.fNext), .nod [.sl 5 (List.map e_cell_Cell x36.fCells), .val (.int .i64 x36.fEnd), .val (.bool x36.fHidden)], .agg [.sl 5 (List.map e_cell_Cell x36.fCells), .val (.int .i64 x36.fEnd), .val (.bool x36.fHidden)], .val (.bool true), .val (.bool false)]) (fun D env35 => [.lp b0 .ready none [21, 22] rfA7_0 rfB7_0 [(7, .val (.pointer (some ⟨b5, 0, none⟩))), (6, .val (.pointer (some ⟨b4, 0, none⟩))), (3, .nod [.val (.int .i64 a0)])] 37, .var b1 [.val (.int .i64 a1)] 3, .var b2 [.val (.int .i64 a2)] 3, .var b3 [(eOP a3)] 24, .var b4 [.val v6] 35, .var b5 [.val v7] 36, (bif D 15 then .row v6 (List.map e_cell_Cell x37.1) 5 50 else .row v6 (List.map e_cell_Cell s8.2.1) 5 50), (bif D 15 then .row v7 (List.map eB x37.2) 1 4 else .row v7 (List.map eB s8.2.2.1) 1 4), .var (blk p2) [.val y25] 111, .row y25 (List.map e_walk_frame_damier_row_Row t24) 3 117]) [0, 0, 0, 4, 12, 28, 60, 124, 252, 0, 512, 1536, 3584, 8188, 16380, 32767, 65535] [0, 2, 5, 6, 8, 54] (fun env35 => [.lp b0 .ready none [21, 22] rfA7_0 rfB7_0 [(7, .val (.pointer (some ⟨b5, 0, none⟩))), (6, .val (.pointer (some ⟨b4, 0, none⟩))), (3, .nod [.val (.int .i64 a0)])] 37, .var b1 [.val (.int .i64 a1)] 3, .var b2 [.val (.int .i64 a2)] 3, .var b3 [(eOP a3)] 24, .var b4 [.val v6] 35, .var b5 [.val v7] 36, .row v6 (List.map e_cell_Cell x37.1) 5 50, .row v7 (List.map eB x37.2) 1 4, .var (blk p2) [.val y25] 111, .row y25 (List.map e_walk_frame_damier_row_Row t24) 3 117]) (by decide +kernel) (by decide +kernel) (fun _ => rfl) (fun _ => rfl) ?_ (fun _ => rfl) (fun _ => rfl) ?_
 rotate_left
 · intro env35
   show T X _ _ _
   refine T.condF rfl rfl ?_
   refine T.skip ?_
   show T X _ _ _
   refine T.region ?_
   iterate 3 refine aA rfl rfl ?_
   refine TL.op1 (OpR.rowLoadM (j := x29) e_walk_frame_damier_row_Row 9 hx30 rfl rfl rfl rfl) rfl ?_
   iterate 3 refine aA rfl rfl ?_
   refine TL.op0 (OpR.rowStoreM (j := x29) e_walk_frame_damier_row_Row (⟨x30.fN, x30.fFirst, w64 (x30.fNext + 1)⟩ : walk_frame_damier_row_Row) 9 hx30 rfl rfl rfl rfl rfl rfl rfl rfl rfl) ?_
   refine TL.nil ?_
   show T X _ _ _
   refine T.region ?_
   iterate 3 refine aA rfl rfl ?_
   refine TL.nil ?_
   obtain rfl := Option.some.inj q12
   exact ⟨m10, Nat.lt_succ_self _, _, Gst.only [0, 2, 5, 6] rfl, y25, (w64 (s8.1 + 1), x37.1, x37.2, (t24.set x29.toNat (⟨x30.fN, x30.fFirst, w64 (x30.fNext + 1)⟩ : walk_frame_damier_row_Row))), rfl, i13⟩
 iterate 5 refine aC ?_
 refine oS (d := .nod [.sl 1 (List.map eNP x34.fKids), .sl 3 (List.map e_row_Row x34.fItems), .val (.int .i64 x34.fN)]) (fun _ => Want.plain rfl) (fun _ => rfl) (fun _ _ _ => rfl) (fun _ _ => OpR.cast (OpR.rowLoad0M (j := x29) e_walk_frame_damier_row_Row 9 hx30 rfl rfl rfl rfl) (congrArg eOP (Option.some.inj hq31))) (fun _ _ _ _ _ _ _ => rfl) ?_
 iterate 6 refine aC ?_
 refine oS (d := .val (.int .i64 x30.fNext)) (fun _ => Want.plain rfl) (fun _ => rfl) (fun _ _ _ => rfl) (fun _ _ => OpR.rowLoadM (j := x29) e_walk_frame_damier_row_Row 9 hx30 rfl rfl rfl rfl) (fun _ _ _ _ _ _ _ => rfl) ?_
 refine oS (d := .nod [.sl 5 (List.map e_cell_Cell x36.fCells), .val (.int .i64 x36.fEnd), .val (.bool x36.fHidden)]) (fun _ => Want.plain rfl) (fun _ => rfl) (fun _ _ _ => rfl) (fun _ _ => OpR.indexM e_row_Row hx36 rfl rfl rfl rfl rfl) (fun _ _ _ _ _ _ _ => rfl) ?_
 refine aC ?_
 refine OpsS.cons' true ?_ (fun _ _ _ _ _ _ _ => rfl) ?_
 · intro D env35 hA
   exact OpS.yes (o0 := [.lp b0 .ready none [21, 22] rfA7_0 rfB7_0 [(7, .val (.pointer (some ⟨b5, 0, none⟩))), (6, .val (.pointer (some ⟨b4, 0, none⟩))), (3, .nod [.val (.int .i64 a0)])] 37, .var b1 [.val (.int .i64 a1)] 3, .var b2 [.val (.int .i64 a2)] 3, .var b3 [(eOP a3)] 24, .var b4 [.val v6] 35, .var b5 [.val v7] 36, .row v6 (List.map e_cell_Cell s8.2.1) 5 50, .row v7 (List.map eB s8.2.2.1) 1 4, .var (blk p2) [.val y25] 111, .row y25 (List.map e_walk_frame_damier_row_Row t24) 3 117]) (o1 := fun x => [.lp b0 .ready none [21, 22] rfA7_0 rfB7_0 [(7, .val (.pointer (some ⟨b5, 0, none⟩))), (6, .val (.pointer (some ⟨b4, 0, none⟩))), (3, .nod [.val (.int .i64 a0)])] 37, .var b1 [.val (.int .i64 a1)] 3, .var b2 [.val (.int .i64 a2)] 3, .var b3 [(eOP a3)] 24, .var b4 [.val v6] 35, .var b5 [.val v7] 36, .row v6 (List.map e_cell_Cell x37.1) 5 50, .row v7 (List.map eB x37.2) 1 4, .var (blk p2) [.val y25] 111, .row y25 (List.map e_walk_frame_damier_row_Row t24) 3 117]) (d := fun x => .val (.bool true)) (Want.plain rfl) (by first | rfl | simp only [hA.me, cond_true, cond_false, List.cons_append, List.nil_append, List.append_nil]) (fun x => by first | rfl | simp only [ins_self, upd_self, hA.me, cond_true, cond_false, List.cons_append, List.nil_append, List.append_nil]) (fun x => rfl) (OpR.callY [0, 4, 5, 6, 7] rfl (cols_Cells_r0_c hx37) rfl rfl rfl (fun _ => rfl))
 refine aC ?_
 exact trivial
noncomputable def cols_Cells (a0 : grid_Grid) (a1 : Int) : Option ((List cell_Cell) × (List Bool)) :=
  bnd (grid_Grid_Len a0) fun x2 =>
  bnd (mkz 56 x2 ((⟨(⟨[], 0⟩ : piece_Text), (⟨0, 0⟩ : arena_Span), false⟩ : cell_Cell) : cell_Cell)) fun x3 =>
  bnd (grid_Grid_Len a0) fun x4 =>
  bnd (mkz 1 x4 (false : Bool)) fun x5 =>
  bnd (grid_Grid_Len a0) fun x7 =>
  bnd (walk_Range_row_Row a0.fRows 0 x7) fun x8 =>
  bnd (walk_Range_row_Row_1_5 a1 x8.1 x8.2.1 x8.2.2 x3 x5) fun x10 =>
  some (x10.1, x10.2)
set_option maxHeartbeats 4000000 in
theorem cols_Cells_c {a0 : grid_Grid} {a1 : Int} {res : (List cell_Cell) × (List Bool)} (h0 : cols_Cells a0 a1 = some res) : CallF X 7 [.agg [(eOP a0.fRows.fRoot), .val (.bool a0.fTail), .val (.int .i64 a0.fEnd)], .val (.int .i64 a1)] [] (fun x => .tup [.sl 5 (List.map e_cell_Cell res.1), .sl 1 (List.map eB res.2)]) (fun x => []) := by
 unfold cols_Cells at h0
 refine CallF.mkG (X := X) rfl Try.func7 rfl rfl Try.ntmps7 rfl rfl ?_
 refine aS ?_
 refine TL.op1 (OpR.boxImm rfl rfl) rfl ?_
 refine TL.op1 (OpR.boxImm rfl rfl) rfl ?_
 iterate 2 refine aA rfl rfl ?_
 refine TL.nil ?_
 show T X _ _ _
 refine T.seq ?_
 obtain ⟨x2, hx2, h0⟩ := bnd_some h0
 obtain ⟨x3, hx3, h0⟩ := bnd_some h0
 obtain ⟨x4, hx4, h0⟩ := bnd_some h0
 obtain ⟨x5, hx5, h0⟩ := bnd_some h0
 refine T.drawS drawsX (fun env1 => [.agg [(eOP a0.fRows.fRoot), .val (.bool a0.fTail), .val (.int .i64 a0.fEnd)], .val (.int .i64 x2), .val (env1 2), .agg [(eOP a0.fRows.fRoot), .val (.bool a0.fTail), .val (.int .i64 a0.fEnd)], .val (.int .i64 x4), .val (env1 5), .val (.pointer (some ⟨(blk (env1 6)), 0, none⟩)), .val (.pointer (some ⟨(blk (env1 7)), 0, none⟩)), .dead, .dead]) (fun D env1 => [] ++ (bif D 2 then [.row (env1 2) (List.map e_cell_Cell x3) 5 50] else []) ++ (bif D 5 then [.row (env1 5) (List.map eB x5) 1 4] else []) ++ (bif D 6 then [(bif D 8 then .var (blk (env1 6)) [.val (env1 2)] 35 else .var (blk (env1 6)) [.val (.slice none 0 0)] 35)] else []) ++ (bif D 7 then [(bif D 9 then .var (blk (env1 7)) [.val (env1 5)] 36 else .var (blk (env1 7)) [.val (.slice none 0 0)] 36)] else [])) [0, 1, 3, 0, 11, 27, 0, 0, 223, 511] [2, 3, 4, 5, 6, 7] (fun env1 => [.row (env1 2) (List.map e_cell_Cell x3) 5 50, .row (env1 5) (List.map eB x5) 1 4, .var (blk (env1 6)) [.val (env1 2)] 35, .var (blk (env1 7)) [.val (env1 5)] 36]) (by decide +kernel) (by decide +kernel) (fun _ => rfl) (fun _ => rfl) ?_ (fun _ => rfl) (fun _ => rfl) ?_
 rotate_left
 · intro env1
   show T X _ _ _
   refine T.seq ?_
   refine T.seq ?_
   obtain ⟨x7, hx7, h0⟩ := bnd_some h0
   obtain ⟨x8, hx8, h0⟩ := bnd_some h0
   refine T.drawS drawsX (fun env6 => [.nod [(eOP a0.fRows.fRoot), .val (.bool a0.fTail), .val (.int .i64 a0.fEnd)], .agg [(eOP a0.fRows.fRoot)], .agg [(eOP a0.fRows.fRoot), .val (.bool a0.fTail), .val (.int .i64 a0.fEnd)], .val (.int .i64 x7), .fn (.func 44) [] [.val (.pointer (some ⟨(blk (vn (env6 4) 0)), 0, none⟩)), .val (.pointer (some ⟨(blk (vn (env6 4) 1)), 0, none⟩)), .val (.pointer (some ⟨(blk (vn (env6 4) 2)), 0, none⟩))]]) (fun D env6 => [.row (env1 2) (List.map e_cell_Cell x3) 5 50, .row (env1 5) (List.map eB x5) 1 4, .var (blk (env1 6)) [.val (env1 2)] 35, .var (blk (env1 7)) [.val (env1 5)] 36] ++ (bif D 4 then [.var (blk (vn (env6 4) 0)) [.val (.int .i64 x8.1)] 3] else []) ++ (bif D 4 then [.var (blk (vn (env6 4) 1)) [.val (.int .i64 x8.2.1)] 3] else []) ++ (bif D 4 then [.var (blk (vn (env6 4) 2)) [(eOP x8.2.2)] 24] else [])) [0, 1, 0, 4, 15] [3, 4, 5, 6, 7, 20] (fun env6 => [.row (env1 2) (List.map e_cell_Cell x3) 5 50, .row (env1 5) (List.map eB x5) 1 4, .var (blk (env1 6)) [.val (env1 2)] 35, .var (blk (env1 7)) [.val (env1 5)] 36, .var (blk (vn (env6 4) 0)) [.val (.int .i64 x8.1)] 3, .var (blk (vn (env6 4) 1)) [.val (.int .i64 x8.2.1)] 3, .var (blk (vn (env6 4) 2)) [(eOP x8.2.2)] 24]) (by decide +kernel) (by decide +kernel) (fun _ => rfl) (fun _ => rfl) ?_ (fun _ => rfl) (fun _ => rfl) ?_
   rotate_left
   · intro env6
     show T X _ _ _
     refine T.block ?_
     obtain ⟨x10, hx10, h0⟩ := bnd_some h0
     refine T.rangeN (A := rfA7_0) (B := rfB7_0) [3, 6, 7] [4, 5, 6, 2, 3, 0, 1] (.inl rfl) rfl rfl rfl rfl rfl fn44 rfl rfl (fun l9 => (walk_Range_row_Row_1_5_c hx10)) (fun _ => rfl) (fun w11 => ?_)
     show T X _ _ _
     refine T.seq ?_
     refine T.drawQ drawsX [.val (env1 2), .val (env1 5), .val (env1 2), .val (env1 5)] [4, 5] (by decide +kernel) rfl ?_ rfl ?_
     · refine OpsQ.yes (Want.plain rfl) rfl (OpR.loadPtr 2 rfl rfl rfl rfl) ?_
       refine OpsQ.yes (Want.plain rfl) rfl (OpR.loadPtr 3 rfl rfl rfl rfl) ?_
       iterate 2 refine aB rfl rfl rfl ?_
       exact OpsQ.nil
     show T X _ _ _
     refine T.ret ?_
     obtain rfl := Option.some.inj h0
     exact PostG.retP (ks := []) (Gst.trans (Gst.only [4, 5] rfl) (Gst.trans (Gst.freezeRow 0 rfl rfl (ReS.cons Re.refl (ReS.cons (Re.base .all) ReS.nil)) (ReO.same (ReO.same (ReO.var (ReL.cons (Re.base .all) ReL.nil) (ReO.same (ReO.same (ReO.same (ReO.same ReO.nil)))))))) (Gst.trans (Gst.freezeRow 1 rfl rfl (ReS.cons (Re.base .all) (ReS.cons Re.refl ReS.nil)) (ReO.same (ReO.same (ReO.same (ReO.var (ReL.cons (Re.base .all) ReL.nil) (ReO.same (ReO.same (ReO.same ReO.nil)))))))) (Gst.pick [] rfl rfl)))) undef (ResL.cons (ResV.tmp rfl) (ResL.cons (ResV.tmp rfl) ResL.nil)) rfl rfl rfl rfl
   iterate 3 refine aC ?_
   refine oS (d := .val (.int .i64 x7)) (fun _ => Want.plain rfl) (fun _ => rfl) (fun _ _ _ => rfl) (fun _ _ => OpR.call0 fn16 (grid_Grid_Len_c hx7) rfl) (fun _ _ _ _ _ _ _ => rfl) ?_
   refine OpsS.cons' true ?_ (fun D hA env6 x j hj hD => match j, hj, hD with | 0, _, _ => rfl | 1, _, _ => rfl | 2, _, _ => rfl | 3, _, _ => rfl | 4, hj, _ => absurd rfl hj | _ + 5, _, _ => rfl) ?_
   · intro D env6 hA
     exact OpS.yes (o0 := [.row (env1 2) (List.map e_cell_Cell x3) 5 50, .row (env1 5) (List.map eB x5) 1 4, .var (blk (env1 6)) [.val (env1 2)] 35, .var (blk (env1 7)) [.val (env1 5)] 36]) (o1 := fun x => [.row (env1 2) (List.map e_cell_Cell x3) 5 50, .row (env1 5) (List.map eB x5) 1 4, .var (blk (env1 6)) [.val (env1 2)] 35, .var (blk (env1 7)) [.val (env1 5)] 36, .var (blk (vn x 0)) [.val (.int .i64 x8.1)] 3, .var (blk (vn x 1)) [.val (.int .i64 x8.2.1)] 3, .var (blk (vn x 2)) [(eOP x8.2.2)] 24]) (d := fun x => .fn (.func 44) [] [.val (.pointer (some ⟨(blk (vn x 0)), 0, none⟩)), .val (.pointer (some ⟨(blk (vn x 1)), 0, none⟩)), .val (.pointer (some ⟨(blk (vn x 2)), 0, none⟩))]) (Want.plain rfl) (by first | rfl | simp only [hA.me, cond_true, cond_false, List.cons_append, List.nil_append, List.append_nil]) (fun x => by first | rfl | simp only [ins_self, upd_self, hA.me, cond_true, cond_false, List.cons_append, List.nil_append, List.append_nil]) (fun x => rfl) (OpR.call [] fn17 (walk_Range_row_Row_c hx8) rfl rfl rfl (fun _ => rfl))
   exact trivial
 refine aC ?_
 refine oS (d := .val (.int .i64 x2)) (fun _ => Want.plain rfl) (fun _ => rfl) (fun _ _ _ => rfl) (fun _ _ => OpR.call0 fn16 (grid_Grid_Len_c hx2) rfl) (fun _ _ _ _ _ _ _ => rfl) ?_
 refine OpsS.cons' true ?_ (fun D hA env1 x j hj hD => match j, hj, hD with | 0, _, _ => rfl | 1, _, _ => rfl | 2, hj, _ => absurd rfl hj | 3, _, _ => rfl | 4, _, _ => rfl | 5, _, _ => rfl | 6, _, _ => rfl | 7, _, _ => rfl | 8, _, _ => rfl | 9, _, _ => rfl | _ + 10, _, _ => rfl) ?_
 · intro D env1 hA
   have e8 : D 8 = false := hA.no 8 _ rfl rfl
   have e9 : D 9 = false := hA.no 9 _ rfl rfl
   rcases Bool.eq_false_or_eq_true (D 5) with e5 | e5
   rotate_left
   · rcases Bool.eq_false_or_eq_true (D 6) with e6 | e6
     rotate_left
     · rcases Bool.eq_false_or_eq_true (D 7) with e7 | e7
       rotate_left
       · exact OpS.yes (o0 := []) (o1 := fun x => [.row x (List.map e_cell_Cell x3) 5 50]) (d := fun x => .val x) (Want.plain rfl) (by first | rfl | simp only [e8, e9, e5, e6, e7, hA.me, cond_true, cond_false, List.cons_append, List.nil_append, List.append_nil]) (fun x => by first | rfl | simp only [ins_self, ins_ne D (show 2 ≠ 5 by decide), ins_ne D (show 2 ≠ 6 by decide), ins_ne D (show 2 ≠ 7 by decide), ins_ne D (show 2 ≠ 8 by decide), ins_ne D (show 2 ≠ 9 by decide), upd_self, upd_ne env1 x (show 2 ≠ 5 by decide), upd_ne env1 x (show 2 ≠ 6 by decide), upd_ne env1 x (show 2 ≠ 7 by decide), e8, e9, e5, e6, e7, hA.me, cond_true, cond_false, List.cons_append, List.nil_append, List.append_nil]) (fun x => rfl) (OpR.makeN e_cell_Cell hx3 rfl rfl rfl rfl rfl rfl rfl rfl rfl rfl (ReL.cons (Re.base .nil) (ReL.cons Re.refl (ReL.cons Re.refl (ReL.cons Re.refl (ReL.cons Re.refl ReL.nil))))) rfl (fun _ => rfl))
       exact OpS.yes (o0 := [.var (blk (env1 7)) [.val (.slice none 0 0)] 36]) (o1 := fun x => [.row x (List.map e_cell_Cell x3) 5 50, .var (blk (env1 7)) [.val (.slice none 0 0)] 36]) (d := fun x => .val x) (Want.plain rfl) (by first | rfl | simp only [e8, e9, e5, e6, e7, hA.me, cond_true, cond_false, List.cons_append, List.nil_append, List.append_nil]) (fun x => by first | rfl | simp only [ins_self, ins_ne D (show 2 ≠ 5 by decide), ins_ne D (show 2 ≠ 6 by decide), ins_ne D (show 2 ≠ 7 by decide), ins_ne D (show 2 ≠ 8 by decide), ins_ne D (show 2 ≠ 9 by decide), upd_self, upd_ne env1 x (show 2 ≠ 5 by decide), upd_ne env1 x (show 2 ≠ 6 by decide), upd_ne env1 x (show 2 ≠ 7 by decide), e8, e9, e5, e6, e7, hA.me, cond_true, cond_false, List.cons_append, List.nil_append, List.append_nil]) (fun x => rfl) (OpR.pick [1, 0] (OpR.makeN e_cell_Cell hx3 rfl rfl rfl rfl rfl rfl rfl rfl rfl rfl (ReL.cons (Re.base .nil) (ReL.cons Re.refl (ReL.cons Re.refl (ReL.cons Re.refl (ReL.cons Re.refl ReL.nil))))) rfl (fun _ => rfl)) (fun _ => rfl) rfl)
     rcases Bool.eq_false_or_eq_true (D 7) with e7 | e7
     rotate_left
     · exact OpS.yes (o0 := [.var (blk (env1 6)) [.val (.slice none 0 0)] 35]) (o1 := fun x => [.row x (List.map e_cell_Cell x3) 5 50, .var (blk (env1 6)) [.val (.slice none 0 0)] 35]) (d := fun x => .val x) (Want.plain rfl) (by first | rfl | simp only [e8, e9, e5, e6, e7, hA.me, cond_true, cond_false, List.cons_append, List.nil_append, List.append_nil]) (fun x => by first | rfl | simp only [ins_self, ins_ne D (show 2 ≠ 5 by decide), ins_ne D (show 2 ≠ 6 by decide), ins_ne D (show 2 ≠ 7 by decide), ins_ne D (show 2 ≠ 8 by decide), ins_ne D (show 2 ≠ 9 by decide), upd_self, upd_ne env1 x (show 2 ≠ 5 by decide), upd_ne env1 x (show 2 ≠ 6 by decide), upd_ne env1 x (show 2 ≠ 7 by decide), e8, e9, e5, e6, e7, hA.me, cond_true, cond_false, List.cons_append, List.nil_append, List.append_nil]) (fun x => rfl) (OpR.pick [1, 0] (OpR.makeN e_cell_Cell hx3 rfl rfl rfl rfl rfl rfl rfl rfl rfl rfl (ReL.cons (Re.base .nil) (ReL.cons Re.refl (ReL.cons Re.refl (ReL.cons Re.refl (ReL.cons Re.refl ReL.nil))))) rfl (fun _ => rfl)) (fun _ => rfl) rfl)
     exact OpS.yes (o0 := [.var (blk (env1 6)) [.val (.slice none 0 0)] 35, .var (blk (env1 7)) [.val (.slice none 0 0)] 36]) (o1 := fun x => [.row x (List.map e_cell_Cell x3) 5 50, .var (blk (env1 6)) [.val (.slice none 0 0)] 35, .var (blk (env1 7)) [.val (.slice none 0 0)] 36]) (d := fun x => .val x) (Want.plain rfl) (by first | rfl | simp only [e8, e9, e5, e6, e7, hA.me, cond_true, cond_false, List.cons_append, List.nil_append, List.append_nil]) (fun x => by first | rfl | simp only [ins_self, ins_ne D (show 2 ≠ 5 by decide), ins_ne D (show 2 ≠ 6 by decide), ins_ne D (show 2 ≠ 7 by decide), ins_ne D (show 2 ≠ 8 by decide), ins_ne D (show 2 ≠ 9 by decide), upd_self, upd_ne env1 x (show 2 ≠ 5 by decide), upd_ne env1 x (show 2 ≠ 6 by decide), upd_ne env1 x (show 2 ≠ 7 by decide), e8, e9, e5, e6, e7, hA.me, cond_true, cond_false, List.cons_append, List.nil_append, List.append_nil]) (fun x => rfl) (OpR.pick [2, 0, 1] (OpR.makeN e_cell_Cell hx3 rfl rfl rfl rfl rfl rfl rfl rfl rfl rfl (ReL.cons (Re.base .nil) (ReL.cons Re.refl (ReL.cons Re.refl (ReL.cons Re.refl (ReL.cons Re.refl ReL.nil))))) rfl (fun _ => rfl)) (fun _ => rfl) rfl)
   rcases Bool.eq_false_or_eq_true (D 6) with e6 | e6
   rotate_left
   · rcases Bool.eq_false_or_eq_true (D 7) with e7 | e7
     rotate_left
     · exact OpS.yes (o0 := [.row (env1 5) (List.map eB x5) 1 4]) (o1 := fun x => [.row x (List.map e_cell_Cell x3) 5 50, .row (env1 5) (List.map eB x5) 1 4]) (d := fun x => .val x) (Want.plain rfl) (by first | rfl | simp only [e8, e9, e5, e6, e7, hA.me, cond_true, cond_false, List.cons_append, List.nil_append, List.append_nil]) (fun x => by first | rfl | simp only [ins_self, ins_ne D (show 2 ≠ 5 by decide), ins_ne D (show 2 ≠ 6 by decide), ins_ne D (show 2 ≠ 7 by decide), ins_ne D (show 2 ≠ 8 by decide), ins_ne D (show 2 ≠ 9 by decide), upd_self, upd_ne env1 x (show 2 ≠ 5 by decide), upd_ne env1 x (show 2 ≠ 6 by decide), upd_ne env1 x (show 2 ≠ 7 by decide), e8, e9, e5, e6, e7, hA.me, cond_true, cond_false, List.cons_append, List.nil_append, List.append_nil]) (fun x => rfl) (OpR.pick [1, 0] (OpR.makeN e_cell_Cell hx3 rfl rfl rfl rfl rfl rfl rfl rfl rfl rfl (ReL.cons (Re.base .nil) (ReL.cons Re.refl (ReL.cons Re.refl (ReL.cons Re.refl (ReL.cons Re.refl ReL.nil))))) rfl (fun _ => rfl)) (fun _ => rfl) rfl)
     exact OpS.yes (o0 := [.row (env1 5) (List.map eB x5) 1 4, .var (blk (env1 7)) [.val (.slice none 0 0)] 36]) (o1 := fun x => [.row x (List.map e_cell_Cell x3) 5 50, .row (env1 5) (List.map eB x5) 1 4, .var (blk (env1 7)) [.val (.slice none 0 0)] 36]) (d := fun x => .val x) (Want.plain rfl) (by first | rfl | simp only [e8, e9, e5, e6, e7, hA.me, cond_true, cond_false, List.cons_append, List.nil_append, List.append_nil]) (fun x => by first | rfl | simp only [ins_self, ins_ne D (show 2 ≠ 5 by decide), ins_ne D (show 2 ≠ 6 by decide), ins_ne D (show 2 ≠ 7 by decide), ins_ne D (show 2 ≠ 8 by decide), ins_ne D (show 2 ≠ 9 by decide), upd_self, upd_ne env1 x (show 2 ≠ 5 by decide), upd_ne env1 x (show 2 ≠ 6 by decide), upd_ne env1 x (show 2 ≠ 7 by decide), e8, e9, e5, e6, e7, hA.me, cond_true, cond_false, List.cons_append, List.nil_append, List.append_nil]) (fun x => rfl) (OpR.pick [2, 0, 1] (OpR.makeN e_cell_Cell hx3 rfl rfl rfl rfl rfl rfl rfl rfl rfl rfl (ReL.cons (Re.base .nil) (ReL.cons Re.refl (ReL.cons Re.refl (ReL.cons Re.refl (ReL.cons Re.refl ReL.nil))))) rfl (fun _ => rfl)) (fun _ => rfl) rfl)
   rcases Bool.eq_false_or_eq_true (D 7) with e7 | e7
   rotate_left
   · exact OpS.yes (o0 := [.row (env1 5) (List.map eB x5) 1 4, .var (blk (env1 6)) [.val (.slice none 0 0)] 35]) (o1 := fun x => [.row x (List.map e_cell_Cell x3) 5 50, .row (env1 5) (List.map eB x5) 1 4, .var (blk (env1 6)) [.val (.slice none 0 0)] 35]) (d := fun x => .val x) (Want.plain rfl) (by first | rfl | simp only [e8, e9, e5, e6, e7, hA.me, cond_true, cond_false, List.cons_append, List.nil_append, List.append_nil]) (fun x => by first | rfl | simp only [ins_self, ins_ne D (show 2 ≠ 5 by decide), ins_ne D (show 2 ≠ 6 by decide), ins_ne D (show 2 ≠ 7 by decide), ins_ne D (show 2 ≠ 8 by decide), ins_ne D (show 2 ≠ 9 by decide), upd_self, upd_ne env1 x (show 2 ≠ 5 by decide), upd_ne env1 x (show 2 ≠ 6 by decide), upd_ne env1 x (show 2 ≠ 7 by decide), e8, e9, e5, e6, e7, hA.me, cond_true, cond_false, List.cons_append, List.nil_append, List.append_nil]) (fun x => rfl) (OpR.pick [2, 0, 1] (OpR.makeN e_cell_Cell hx3 rfl rfl rfl rfl rfl rfl rfl rfl rfl rfl (ReL.cons (Re.base .nil) (ReL.cons Re.refl (ReL.cons Re.refl (ReL.cons Re.refl (ReL.cons Re.refl ReL.nil))))) rfl (fun _ => rfl)) (fun _ => rfl) rfl)
   exact OpS.yes (o0 := [.row (env1 5) (List.map eB x5) 1 4, .var (blk (env1 6)) [.val (.slice none 0 0)] 35, .var (blk (env1 7)) [.val (.slice none 0 0)] 36]) (o1 := fun x => [.row x (List.map e_cell_Cell x3) 5 50, .row (env1 5) (List.map eB x5) 1 4, .var (blk (env1 6)) [.val (.slice none 0 0)] 35, .var (blk (env1 7)) [.val (.slice none 0 0)] 36]) (d := fun x => .val x) (Want.plain rfl) (by first | rfl | simp only [e8, e9, e5, e6, e7, hA.me, cond_true, cond_false, List.cons_append, List.nil_append, List.append_nil]) (fun x => by first | rfl | simp only [ins_self, ins_ne D (show 2 ≠ 5 by decide), ins_ne D (show 2 ≠ 6 by decide), ins_ne D (show 2 ≠ 7 by decide), ins_ne D (show 2 ≠ 8 by decide), ins_ne D (show 2 ≠ 9 by decide), upd_self, upd_ne env1 x (show 2 ≠ 5 by decide), upd_ne env1 x (show 2 ≠ 6 by decide), upd_ne env1 x (show 2 ≠ 7 by decide), e8, e9, e5, e6, e7, hA.me, cond_true, cond_false, List.cons_append, List.nil_append, List.append_nil]) (fun x => rfl) (OpR.pick [3, 0, 1, 2] (OpR.makeN e_cell_Cell hx3 rfl rfl rfl rfl rfl rfl rfl rfl rfl rfl (ReL.cons (Re.base .nil) (ReL.cons Re.refl (ReL.cons Re.refl (ReL.cons Re.refl (ReL.cons Re.refl ReL.nil))))) rfl (fun _ => rfl)) (fun _ => rfl) rfl)
 refine aC ?_
 refine oS (d := .val (.int .i64 x4)) (fun _ => Want.plain rfl) (fun _ => rfl) (fun _ _ _ => rfl) (fun _ _ => OpR.call0 fn16 (grid_Grid_Len_c hx4) rfl) (fun _ _ _ _ _ _ _ => rfl) ?_
 refine OpsS.cons' true ?_ (fun D hA env1 x j hj hD => match j, hj, hD with | 0, _, _ => rfl | 1, _, _ => rfl | 2, _, _ => rfl | 3, _, _ => rfl | 4, _, _ => rfl | 5, hj, _ => absurd rfl hj | 6, _, _ => rfl | 7, _, _ => rfl | 8, _, _ => rfl | 9, _, _ => rfl | _ + 10, _, _ => rfl) ?_
 · intro D env1 hA
   have e9 : D 9 = false := hA.no 9 _ rfl rfl
   rcases Bool.eq_false_or_eq_true (D 2) with e2 | e2
   rotate_left
   · rcases Bool.eq_false_or_eq_true (D 6) with e6 | e6
     rotate_left
     · rcases Bool.eq_false_or_eq_true (D 7) with e7 | e7
       rotate_left
       · rcases Bool.eq_false_or_eq_true (D 8) with e8 | e8
         · have q : D 2 = true := hA.closed e8 223 rfl rfl
           rw [e2] at q
           cases q
         exact OpS.yes (o0 := []) (o1 := fun x => [.row x (List.map eB x5) 1 4]) (d := fun x => .val x) (Want.plain rfl) (by first | rfl | simp only [e9, e2, e6, e7, e8, hA.me, cond_true, cond_false, List.cons_append, List.nil_append, List.append_nil]) (fun x => by first | rfl | simp only [ins_self, ins_ne D (show 5 ≠ 2 by decide), ins_ne D (show 5 ≠ 6 by decide), ins_ne D (show 5 ≠ 7 by decide), ins_ne D (show 5 ≠ 8 by decide), ins_ne D (show 5 ≠ 9 by decide), upd_self, upd_ne env1 x (show 5 ≠ 2 by decide), upd_ne env1 x (show 5 ≠ 6 by decide), upd_ne env1 x (show 5 ≠ 7 by decide), e9, e2, e6, e7, e8, hA.me, cond_true, cond_false, List.cons_append, List.nil_append, List.append_nil]) (fun x => rfl) (OpR.makeM eB hx5 rfl rfl rfl rfl rfl rfl rfl rfl rfl rfl rfl (fun _ => rfl))
       rcases Bool.eq_false_or_eq_true (D 8) with e8 | e8
       · have q : D 2 = true := hA.closed e8 223 rfl rfl
         rw [e2] at q
         cases q
       exact OpS.yes (o0 := [.var (blk (env1 7)) [.val (.slice none 0 0)] 36]) (o1 := fun x => [.row x (List.map eB x5) 1 4, .var (blk (env1 7)) [.val (.slice none 0 0)] 36]) (d := fun x => .val x) (Want.plain rfl) (by first | rfl | simp only [e9, e2, e6, e7, e8, hA.me, cond_true, cond_false, List.cons_append, List.nil_append, List.append_nil]) (fun x => by first | rfl | simp only [ins_self, ins_ne D (show 5 ≠ 2 by decide), ins_ne D (show 5 ≠ 6 by decide), ins_ne D (show 5 ≠ 7 by decide), ins_ne D (show 5 ≠ 8 by decide), ins_ne D (show 5 ≠ 9 by decide), upd_self, upd_ne env1 x (show 5 ≠ 2 by decide), upd_ne env1 x (show 5 ≠ 6 by decide), upd_ne env1 x (show 5 ≠ 7 by decide), e9, e2, e6, e7, e8, hA.me, cond_true, cond_false, List.cons_append, List.nil_append, List.append_nil]) (fun x => rfl) (OpR.pick [1, 0] (OpR.makeM eB hx5 rfl rfl rfl rfl rfl rfl rfl rfl rfl rfl rfl (fun _ => rfl)) (fun _ => rfl) rfl)
     rcases Bool.eq_false_or_eq_true (D 7) with e7 | e7
     rotate_left
     · rcases Bool.eq_false_or_eq_true (D 8) with e8 | e8
       · have q : D 2 = true := hA.closed e8 223 rfl rfl
         rw [e2] at q
         cases q
       exact OpS.yes (o0 := [.var (blk (env1 6)) [.val (.slice none 0 0)] 35]) (o1 := fun x => [.row x (List.map eB x5) 1 4, .var (blk (env1 6)) [.val (.slice none 0 0)] 35]) (d := fun x => .val x) (Want.plain rfl) (by first | rfl | simp only [e9, e2, e6, e7, e8, hA.me, cond_true, cond_false, List.cons_append, List.nil_append, List.append_nil]) (fun x => by first | rfl | simp only [ins_self, ins_ne D (show 5 ≠ 2 by decide), ins_ne D (show 5 ≠ 6 by decide), ins_ne D (show 5 ≠ 7 by decide), ins_ne D (show 5 ≠ 8 by decide), ins_ne D (show 5 ≠ 9 by decide), upd_self, upd_ne env1 x (show 5 ≠ 2 by decide), upd_ne env1 x (show 5 ≠ 6 by decide), upd_ne env1 x (show 5 ≠ 7 by decide), e9, e2, e6, e7, e8, hA.me, cond_true, cond_false, List.cons_append, List.nil_append, List.append_nil]) (fun x => rfl) (OpR.pick [1, 0] (OpR.makeM eB hx5 rfl rfl rfl rfl rfl rfl rfl rfl rfl rfl rfl (fun _ => rfl)) (fun _ => rfl) rfl)
     rcases Bool.eq_false_or_eq_true (D 8) with e8 | e8
     · have q : D 2 = true := hA.closed e8 223 rfl rfl
       rw [e2] at q
       cases q
     exact OpS.yes (o0 := [.var (blk (env1 6)) [.val (.slice none 0 0)] 35, .var (blk (env1 7)) [.val (.slice none 0 0)] 36]) (o1 := fun x => [.row x (List.map eB x5) 1 4, .var (blk (env1 6)) [.val (.slice none 0 0)] 35, .var (blk (env1 7)) [.val (.slice none 0 0)] 36]) (d := fun x => .val x) (Want.plain rfl) (by first | rfl | simp only [e9, e2, e6, e7, e8, hA.me, cond_true, cond_false, List.cons_append, List.nil_append, List.append_nil]) (fun x => by first | rfl | simp only [ins_self, ins_ne D (show 5 ≠ 2 by decide), ins_ne D (show 5 ≠ 6 by decide), ins_ne D (show 5 ≠ 7 by decide), ins_ne D (show 5 ≠ 8 by decide), ins_ne D (show 5 ≠ 9 by decide), upd_self, upd_ne env1 x (show 5 ≠ 2 by decide), upd_ne env1 x (show 5 ≠ 6 by decide), upd_ne env1 x (show 5 ≠ 7 by decide), e9, e2, e6, e7, e8, hA.me, cond_true, cond_false, List.cons_append, List.nil_append, List.append_nil]) (fun x => rfl) (OpR.pick [2, 0, 1] (OpR.makeM eB hx5 rfl rfl rfl rfl rfl rfl rfl rfl rfl rfl rfl (fun _ => rfl)) (fun _ => rfl) rfl)
   rcases Bool.eq_false_or_eq_true (D 6) with e6 | e6
   rotate_left
   · rcases Bool.eq_false_or_eq_true (D 7) with e7 | e7
     rotate_left
     · rcases Bool.eq_false_or_eq_true (D 8) with e8 | e8
       · have q : D 6 = true := hA.closed e8 223 rfl rfl
         rw [e6] at q
         cases q
       exact OpS.yes (o0 := [.row (env1 2) (List.map e_cell_Cell x3) 5 50]) (o1 := fun x => [.row (env1 2) (List.map e_cell_Cell x3) 5 50, .row x (List.map eB x5) 1 4]) (d := fun x => .val x) (Want.plain rfl) (by first | rfl | simp only [e9, e2, e6, e7, e8, hA.me, cond_true, cond_false, List.cons_append, List.nil_append, List.append_nil]) (fun x => by first | rfl | simp only [ins_self, ins_ne D (show 5 ≠ 2 by decide), ins_ne D (show 5 ≠ 6 by decide), ins_ne D (show 5 ≠ 7 by decide), ins_ne D (show 5 ≠ 8 by decide), ins_ne D (show 5 ≠ 9 by decide), upd_self, upd_ne env1 x (show 5 ≠ 2 by decide), upd_ne env1 x (show 5 ≠ 6 by decide), upd_ne env1 x (show 5 ≠ 7 by decide), e9, e2, e6, e7, e8, hA.me, cond_true, cond_false, List.cons_append, List.nil_append, List.append_nil]) (fun x => rfl) (OpR.makeM eB hx5 rfl rfl rfl rfl rfl rfl rfl rfl rfl rfl rfl (fun _ => rfl))
     rcases Bool.eq_false_or_eq_true (D 8) with e8 | e8
     · have q : D 6 = true := hA.closed e8 223 rfl rfl
       rw [e6] at q
       cases q
     exact OpS.yes (o0 := [.row (env1 2) (List.map e_cell_Cell x3) 5 50, .var (blk (env1 7)) [.val (.slice none 0 0)] 36]) (o1 := fun x => [.row (env1 2) (List.map e_cell_Cell x3) 5 50, .row x (List.map eB x5) 1 4, .var (blk (env1 7)) [.val (.slice none 0 0)] 36]) (d := fun x => .val x) (Want.plain rfl) (by first | rfl | simp only [e9, e2, e6, e7, e8, hA.me, cond_true, cond_false, List.cons_append, List.nil_append, List.append_nil]) (fun x => by first | rfl | simp only [ins_self, ins_ne D (show 5 ≠ 2 by decide), ins_ne D (show 5 ≠ 6 by decide), ins_ne D (show 5 ≠ 7 by decide), ins_ne D (show 5 ≠ 8 by decide), ins_ne D (show 5 ≠ 9 by decide), upd_self, upd_ne env1 x (show 5 ≠ 2 by decide), upd_ne env1 x (show 5 ≠ 6 by decide), upd_ne env1 x (show 5 ≠ 7 by decide), e9, e2, e6, e7, e8, hA.me, cond_true, cond_false, List.cons_append, List.nil_append, List.append_nil]) (fun x => rfl) (OpR.pick [0, 2, 1] (OpR.makeM eB hx5 rfl rfl rfl rfl rfl rfl rfl rfl rfl rfl rfl (fun _ => rfl)) (fun _ => rfl) rfl)
   rcases Bool.eq_false_or_eq_true (D 7) with e7 | e7
   rotate_left
   · rcases Bool.eq_false_or_eq_true (D 8) with e8 | e8
     · have q : D 7 = true := hA.closed e8 223 rfl rfl
       rw [e7] at q
       cases q
     exact OpS.yes (o0 := [.row (env1 2) (List.map e_cell_Cell x3) 5 50, .var (blk (env1 6)) [.val (.slice none 0 0)] 35]) (o1 := fun x => [.row (env1 2) (List.map e_cell_Cell x3) 5 50, .row x (List.map eB x5) 1 4, .var (blk (env1 6)) [.val (.slice none 0 0)] 35]) (d := fun x => .val x) (Want.plain rfl) (by first | rfl | simp only [e9, e2, e6, e7, e8, hA.me, cond_true, cond_false, List.cons_append, List.nil_append, List.append_nil]) (fun x => by first | rfl | simp only [ins_self, ins_ne D (show 5 ≠ 2 by decide), ins_ne D (show 5 ≠ 6 by decide), ins_ne D (show 5 ≠ 7 by decide), ins_ne D (show 5 ≠ 8 by decide), ins_ne D (show 5 ≠ 9 by decide), upd_self, upd_ne env1 x (show 5 ≠ 2 by decide), upd_ne env1 x (show 5 ≠ 6 by decide), upd_ne env1 x (show 5 ≠ 7 by decide), e9, e2, e6, e7, e8, hA.me, cond_true, cond_false, List.cons_append, List.nil_append, List.append_nil]) (fun x => rfl) (OpR.pick [0, 2, 1] (OpR.makeM eB hx5 rfl rfl rfl rfl rfl rfl rfl rfl rfl rfl rfl (fun _ => rfl)) (fun _ => rfl) rfl)
   rcases Bool.eq_false_or_eq_true (D 8) with e8 | e8
   · exact OpS.yes (o0 := [.row (env1 2) (List.map e_cell_Cell x3) 5 50, .var (blk (env1 6)) [.val (env1 2)] 35, .var (blk (env1 7)) [.val (.slice none 0 0)] 36]) (o1 := fun x => [.row (env1 2) (List.map e_cell_Cell x3) 5 50, .row x (List.map eB x5) 1 4, .var (blk (env1 6)) [.val (env1 2)] 35, .var (blk (env1 7)) [.val (.slice none 0 0)] 36]) (d := fun x => .val x) (Want.plain rfl) (by first | rfl | simp only [e9, e2, e6, e7, e8, hA.me, cond_true, cond_false, List.cons_append, List.nil_append, List.append_nil]) (fun x => by first | rfl | simp only [ins_self, ins_ne D (show 5 ≠ 2 by decide), ins_ne D (show 5 ≠ 6 by decide), ins_ne D (show 5 ≠ 7 by decide), ins_ne D (show 5 ≠ 8 by decide), ins_ne D (show 5 ≠ 9 by decide), upd_self, upd_ne env1 x (show 5 ≠ 2 by decide), upd_ne env1 x (show 5 ≠ 6 by decide), upd_ne env1 x (show 5 ≠ 7 by decide), e9, e2, e6, e7, e8, hA.me, cond_true, cond_false, List.cons_append, List.nil_append, List.append_nil]) (fun x => rfl) (OpR.pick [0, 3, 1, 2] (OpR.makeM eB hx5 rfl rfl rfl rfl rfl rfl rfl rfl rfl rfl rfl (fun _ => rfl)) (fun _ => rfl) rfl)
   exact OpS.yes (o0 := [.row (env1 2) (List.map e_cell_Cell x3) 5 50, .var (blk (env1 6)) [.val (.slice none 0 0)] 35, .var (blk (env1 7)) [.val (.slice none 0 0)] 36]) (o1 := fun x => [.row (env1 2) (List.map e_cell_Cell x3) 5 50, .row x (List.map eB x5) 1 4, .var (blk (env1 6)) [.val (.slice none 0 0)] 35, .var (blk (env1 7)) [.val (.slice none 0 0)] 36]) (d := fun x => .val x) (Want.plain rfl) (by first | rfl | simp only [e9, e2, e6, e7, e8, hA.me, cond_true, cond_false, List.cons_append, List.nil_append, List.append_nil]) (fun x => by first | rfl | simp only [ins_self, ins_ne D (show 5 ≠ 2 by decide), ins_ne D (show 5 ≠ 6 by decide), ins_ne D (show 5 ≠ 7 by decide), ins_ne D (show 5 ≠ 8 by decide), ins_ne D (show 5 ≠ 9 by decide), upd_self, upd_ne env1 x (show 5 ≠ 2 by decide), upd_ne env1 x (show 5 ≠ 6 by decide), upd_ne env1 x (show 5 ≠ 7 by decide), e9, e2, e6, e7, e8, hA.me, cond_true, cond_false, List.cons_append, List.nil_append, List.append_nil]) (fun x => rfl) (OpR.pick [0, 3, 1, 2] (OpR.makeM eB hx5 rfl rfl rfl rfl rfl rfl rfl rfl rfl rfl rfl (fun _ => rfl)) (fun _ => rfl) rfl)
 refine OpsS.cons' true ?_ (fun D hA env1 x j hj hD => match j, hj, hD with | 0, _, _ => rfl | 1, _, _ => rfl | 2, _, _ => rfl | 3, _, _ => rfl | 4, _, _ => rfl | 5, _, _ => rfl | 6, hj, _ => absurd rfl hj | 7, _, _ => rfl | 8, _, _ => rfl | 9, _, _ => rfl | _ + 10, _, _ => rfl) ?_
 · intro D env1 hA
   have e8 : D 8 = false := hA.no 8 _ rfl rfl
   have e9 : D 9 = false := hA.no 9 _ rfl rfl
   rcases Bool.eq_false_or_eq_true (D 2) with e2 | e2
   rotate_left
   · rcases Bool.eq_false_or_eq_true (D 5) with e5 | e5
     rotate_left
     · rcases Bool.eq_false_or_eq_true (D 7) with e7 | e7
       rotate_left
       · exact OpS.yes (o0 := []) (o1 := fun x => [.var (blk x) [.val (.slice none 0 0)] 35]) (d := fun x => .val (.pointer (some ⟨(blk x), 0, none⟩))) (Want.plain rfl) (by first | rfl | simp only [e8, e9, e2, e5, e7, hA.me, cond_true, cond_false, List.cons_append, List.nil_append, List.append_nil]) (fun x => by first | rfl | simp only [ins_self, ins_ne D (show 6 ≠ 2 by decide), ins_ne D (show 6 ≠ 5 by decide), ins_ne D (show 6 ≠ 7 by decide), ins_ne D (show 6 ≠ 8 by decide), ins_ne D (show 6 ≠ 9 by decide), upd_self, upd_ne env1 x (show 6 ≠ 2 by decide), upd_ne env1 x (show 6 ≠ 5 by decide), upd_ne env1 x (show 6 ≠ 7 by decide), e8, e9, e2, e5, e7, hA.me, cond_true, cond_false, List.cons_append, List.nil_append, List.append_nil]) (fun x => rfl) (OpR.alloc rfl rfl (fun _ => rfl))
       exact OpS.yes (o0 := [.var (blk (env1 7)) [.val (.slice none 0 0)] 36]) (o1 := fun x => [.var (blk x) [.val (.slice none 0 0)] 35, .var (blk (env1 7)) [.val (.slice none 0 0)] 36]) (d := fun x => .val (.pointer (some ⟨(blk x), 0, none⟩))) (Want.plain rfl) (by first | rfl | simp only [e8, e9, e2, e5, e7, hA.me, cond_true, cond_false, List.cons_append, List.nil_append, List.append_nil]) (fun x => by first | rfl | simp only [ins_self, ins_ne D (show 6 ≠ 2 by decide), ins_ne D (show 6 ≠ 5 by decide), ins_ne D (show 6 ≠ 7 by decide), ins_ne D (show 6 ≠ 8 by decide), ins_ne D (show 6 ≠ 9 by decide), upd_self, upd_ne env1 x (show 6 ≠ 2 by decide), upd_ne env1 x (show 6 ≠ 5 by decide), upd_ne env1 x (show 6 ≠ 7 by decide), e8, e9, e2, e5, e7, hA.me, cond_true, cond_false, List.cons_append, List.nil_append, List.append_nil]) (fun x => rfl) (OpR.pick [1, 0] (OpR.alloc rfl rfl (fun _ => rfl)) (fun _ => rfl) rfl)
     rcases Bool.eq_false_or_eq_true (D 7) with e7 | e7
     rotate_left
     · exact OpS.yes (o0 := [.row (env1 5) (List.map eB x5) 1 4]) (o1 := fun x => [.row (env1 5) (List.map eB x5) 1 4, .var (blk x) [.val (.slice none 0 0)] 35]) (d := fun x => .val (.pointer (some ⟨(blk x), 0, none⟩))) (Want.plain rfl) (by first | rfl | simp only [e8, e9, e2, e5, e7, hA.me, cond_true, cond_false, List.cons_append, List.nil_append, List.append_nil]) (fun x => by first | rfl | simp only [ins_self, ins_ne D (show 6 ≠ 2 by decide), ins_ne D (show 6 ≠ 5 by decide), ins_ne D (show 6 ≠ 7 by decide), ins_ne D (show 6 ≠ 8 by decide), ins_ne D (show 6 ≠ 9 by decide), upd_self, upd_ne env1 x (show 6 ≠ 2 by decide), upd_ne env1 x (show 6 ≠ 5 by decide), upd_ne env1 x (show 6 ≠ 7 by decide), e8, e9, e2, e5, e7, hA.me, cond_true, cond_false, List.cons_append, List.nil_append, List.append_nil]) (fun x => rfl) (OpR.alloc rfl rfl (fun _ => rfl))
     exact OpS.yes (o0 := [.row (env1 5) (List.map eB x5) 1 4, .var (blk (env1 7)) [.val (.slice none 0 0)] 36]) (o1 := fun x => [.row (env1 5) (List.map eB x5) 1 4, .var (blk x) [.val (.slice none 0 0)] 35, .var (blk (env1 7)) [.val (.slice none 0 0)] 36]) (d := fun x => .val (.pointer (some ⟨(blk x), 0, none⟩))) (Want.plain rfl) (by first | rfl | simp only [e8, e9, e2, e5, e7, hA.me, cond_true, cond_false, List.cons_append, List.nil_append, List.append_nil]) (fun x => by first | rfl | simp only [ins_self, ins_ne D (show 6 ≠ 2 by decide), ins_ne D (show 6 ≠ 5 by decide), ins_ne D (show 6 ≠ 7 by decide), ins_ne D (show 6 ≠ 8 by decide), ins_ne D (show 6 ≠ 9 by decide), upd_self, upd_ne env1 x (show 6 ≠ 2 by decide), upd_ne env1 x (show 6 ≠ 5 by decide), upd_ne env1 x (show 6 ≠ 7 by decide), e8, e9, e2, e5, e7, hA.me, cond_true, cond_false, List.cons_append, List.nil_append, List.append_nil]) (fun x => rfl) (OpR.pick [0, 2, 1] (OpR.alloc rfl rfl (fun _ => rfl)) (fun _ => rfl) rfl)
   rcases Bool.eq_false_or_eq_true (D 5) with e5 | e5
   rotate_left
   · rcases Bool.eq_false_or_eq_true (D 7) with e7 | e7
     rotate_left
     · exact OpS.yes (o0 := [.row (env1 2) (List.map e_cell_Cell x3) 5 50]) (o1 := fun x => [.row (env1 2) (List.map e_cell_Cell x3) 5 50, .var (blk x) [.val (.slice none 0 0)] 35]) (d := fun x => .val (.pointer (some ⟨(blk x), 0, none⟩))) (Want.plain rfl) (by first | rfl | simp only [e8, e9, e2, e5, e7, hA.me, cond_true, cond_false, List.cons_append, List.nil_append, List.append_nil]) (fun x => by first | rfl | simp only [ins_self, ins_ne D (show 6 ≠ 2 by decide), ins_ne D (show 6 ≠ 5 by decide), ins_ne D (show 6 ≠ 7 by decide), ins_ne D (show 6 ≠ 8 by decide), ins_ne D (show 6 ≠ 9 by decide), upd_self, upd_ne env1 x (show 6 ≠ 2 by decide), upd_ne env1 x (show 6 ≠ 5 by decide), upd_ne env1 x (show 6 ≠ 7 by decide), e8, e9, e2, e5, e7, hA.me, cond_true, cond_false, List.cons_append, List.nil_append, List.append_nil]) (fun x => rfl) (OpR.alloc rfl rfl (fun _ => rfl))
     exact OpS.yes (o0 := [.row (env1 2) (List.map e_cell_Cell x3) 5 50, .var (blk (env1 7)) [.val (.slice none 0 0)] 36]) (o1 := fun x => [.row (env1 2) (List.map e_cell_Cell x3) 5 50, .var (blk x) [.val (.slice none 0 0)] 35, .var (blk (env1 7)) [.val (.slice none 0 0)] 36]) (d := fun x => .val (.pointer (some ⟨(blk x), 0, none⟩))) (Want.plain rfl) (by first | rfl | simp only [e8, e9, e2, e5, e7, hA.me, cond_true, cond_false, List.cons_append, List.nil_append, List.append_nil]) (fun x => by first | rfl | simp only [ins_self, ins_ne D (show 6 ≠ 2 by decide), ins_ne D (show 6 ≠ 5 by decide), ins_ne D (show 6 ≠ 7 by decide), ins_ne D (show 6 ≠ 8 by decide), ins_ne D (show 6 ≠ 9 by decide), upd_self, upd_ne env1 x (show 6 ≠ 2 by decide), upd_ne env1 x (show 6 ≠ 5 by decide), upd_ne env1 x (show 6 ≠ 7 by decide), e8, e9, e2, e5, e7, hA.me, cond_true, cond_false, List.cons_append, List.nil_append, List.append_nil]) (fun x => rfl) (OpR.pick [0, 2, 1] (OpR.alloc rfl rfl (fun _ => rfl)) (fun _ => rfl) rfl)
   rcases Bool.eq_false_or_eq_true (D 7) with e7 | e7
   rotate_left
   · exact OpS.yes (o0 := [.row (env1 2) (List.map e_cell_Cell x3) 5 50, .row (env1 5) (List.map eB x5) 1 4]) (o1 := fun x => [.row (env1 2) (List.map e_cell_Cell x3) 5 50, .row (env1 5) (List.map eB x5) 1 4, .var (blk x) [.val (.slice none 0 0)] 35]) (d := fun x => .val (.pointer (some ⟨(blk x), 0, none⟩))) (Want.plain rfl) (by first | rfl | simp only [e8, e9, e2, e5, e7, hA.me, cond_true, cond_false, List.cons_append, List.nil_append, List.append_nil]) (fun x => by first | rfl | simp only [ins_self, ins_ne D (show 6 ≠ 2 by decide), ins_ne D (show 6 ≠ 5 by decide), ins_ne D (show 6 ≠ 7 by decide), ins_ne D (show 6 ≠ 8 by decide), ins_ne D (show 6 ≠ 9 by decide), upd_self, upd_ne env1 x (show 6 ≠ 2 by decide), upd_ne env1 x (show 6 ≠ 5 by decide), upd_ne env1 x (show 6 ≠ 7 by decide), e8, e9, e2, e5, e7, hA.me, cond_true, cond_false, List.cons_append, List.nil_append, List.append_nil]) (fun x => rfl) (OpR.alloc rfl rfl (fun _ => rfl))
   exact OpS.yes (o0 := [.row (env1 2) (List.map e_cell_Cell x3) 5 50, .row (env1 5) (List.map eB x5) 1 4, .var (blk (env1 7)) [.val (.slice none 0 0)] 36]) (o1 := fun x => [.row (env1 2) (List.map e_cell_Cell x3) 5 50, .row (env1 5) (List.map eB x5) 1 4, .var (blk x) [.val (.slice none 0 0)] 35, .var (blk (env1 7)) [.val (.slice none 0 0)] 36]) (d := fun x => .val (.pointer (some ⟨(blk x), 0, none⟩))) (Want.plain rfl) (by first | rfl | simp only [e8, e9, e2, e5, e7, hA.me, cond_true, cond_false, List.cons_append, List.nil_append, List.append_nil]) (fun x => by first | rfl | simp only [ins_self, ins_ne D (show 6 ≠ 2 by decide), ins_ne D (show 6 ≠ 5 by decide), ins_ne D (show 6 ≠ 7 by decide), ins_ne D (show 6 ≠ 8 by decide), ins_ne D (show 6 ≠ 9 by decide), upd_self, upd_ne env1 x (show 6 ≠ 2 by decide), upd_ne env1 x (show 6 ≠ 5 by decide), upd_ne env1 x (show 6 ≠ 7 by decide), e8, e9, e2, e5, e7, hA.me, cond_true, cond_false, List.cons_append, List.nil_append, List.append_nil]) (fun x => rfl) (OpR.pick [0, 1, 3, 2] (OpR.alloc rfl rfl (fun _ => rfl)) (fun _ => rfl) rfl)
 refine OpsS.cons' true ?_ (fun D hA env1 x j hj hD => match j, hj, hD with | 0, _, _ => rfl | 1, _, _ => rfl | 2, _, _ => rfl | 3, _, _ => rfl | 4, _, _ => rfl | 5, _, _ => rfl | 6, _, _ => rfl | 7, hj, _ => absurd rfl hj | 8, _, _ => rfl | 9, _, _ => rfl | _ + 10, _, _ => rfl) ?_
 · intro D env1 hA
   have e8 : D 8 = false := hA.no 8 _ rfl rfl
   have e9 : D 9 = false := hA.no 9 _ rfl rfl
   rcases Bool.eq_false_or_eq_true (D 2) with e2 | e2
   rotate_left
   · rcases Bool.eq_false_or_eq_true (D 5) with e5 | e5
     rotate_left
     · rcases Bool.eq_false_or_eq_true (D 6) with e6 | e6
       rotate_left
       · exact OpS.yes (o0 := []) (o1 := fun x => [.var (blk x) [.val (.slice none 0 0)] 36]) (d := fun x => .val (.pointer (some ⟨(blk x), 0, none⟩))) (Want.plain rfl) (by first | rfl | simp only [e8, e9, e2, e5, e6, hA.me, cond_true, cond_false, List.cons_append, List.nil_append, List.append_nil]) (fun x => by first | rfl | simp only [ins_self, ins_ne D (show 7 ≠ 2 by decide), ins_ne D (show 7 ≠ 5 by decide), ins_ne D (show 7 ≠ 6 by decide), ins_ne D (show 7 ≠ 8 by decide), ins_ne D (show 7 ≠ 9 by decide), upd_self, upd_ne env1 x (show 7 ≠ 2 by decide), upd_ne env1 x (show 7 ≠ 5 by decide), upd_ne env1 x (show 7 ≠ 6 by decide), e8, e9, e2, e5, e6, hA.me, cond_true, cond_false, List.cons_append, List.nil_append, List.append_nil]) (fun x => rfl) (OpR.alloc rfl rfl (fun _ => rfl))
       exact OpS.yes (o0 := [.var (blk (env1 6)) [.val (.slice none 0 0)] 35]) (o1 := fun x => [.var (blk (env1 6)) [.val (.slice none 0 0)] 35, .var (blk x) [.val (.slice none 0 0)] 36]) (d := fun x => .val (.pointer (some ⟨(blk x), 0, none⟩))) (Want.plain rfl) (by first | rfl | simp only [e8, e9, e2, e5, e6, hA.me, cond_true, cond_false, List.cons_append, List.nil_append, List.append_nil]) (fun x => by first | rfl | simp only [ins_self, ins_ne D (show 7 ≠ 2 by decide), ins_ne D (show 7 ≠ 5 by decide), ins_ne D (show 7 ≠ 6 by decide), ins_ne D (show 7 ≠ 8 by decide), ins_ne D (show 7 ≠ 9 by decide), upd_self, upd_ne env1 x (show 7 ≠ 2 by decide), upd_ne env1 x (show 7 ≠ 5 by decide), upd_ne env1 x (show 7 ≠ 6 by decide), e8, e9, e2, e5, e6, hA.me, cond_true, cond_false, List.cons_append, List.nil_append, List.append_nil]) (fun x => rfl) (OpR.alloc rfl rfl (fun _ => rfl))
     rcases Bool.eq_false_or_eq_true (D 6) with e6 | e6
     rotate_left
     · exact OpS.yes (o0 := [.row (env1 5) (List.map eB x5) 1 4]) (o1 := fun x => [.row (env1 5) (List.map eB x5) 1 4, .var (blk x) [.val (.slice none 0 0)] 36]) (d := fun x => .val (.pointer (some ⟨(blk x), 0, none⟩))) (Want.plain rfl) (by first | rfl | simp only [e8, e9, e2, e5, e6, hA.me, cond_true, cond_false, List.cons_append, List.nil_append, List.append_nil]) (fun x => by first | rfl | simp only [ins_self, ins_ne D (show 7 ≠ 2 by decide), ins_ne D (show 7 ≠ 5 by decide), ins_ne D (show 7 ≠ 6 by decide), ins_ne D (show 7 ≠ 8 by decide), ins_ne D (show 7 ≠ 9 by decide), upd_self, upd_ne env1 x (show 7 ≠ 2 by decide), upd_ne env1 x (show 7 ≠ 5 by decide), upd_ne env1 x (show 7 ≠ 6 by decide), e8, e9, e2, e5, e6, hA.me, cond_true, cond_false, List.cons_append, List.nil_append, List.append_nil]) (fun x => rfl) (OpR.alloc rfl rfl (fun _ => rfl))
     exact OpS.yes (o0 := [.row (env1 5) (List.map eB x5) 1 4, .var (blk (env1 6)) [.val (.slice none 0 0)] 35]) (o1 := fun x => [.row (env1 5) (List.map eB x5) 1 4, .var (blk (env1 6)) [.val (.slice none 0 0)] 35, .var (blk x) [.val (.slice none 0 0)] 36]) (d := fun x => .val (.pointer (some ⟨(blk x), 0, none⟩))) (Want.plain rfl) (by first | rfl | simp only [e8, e9, e2, e5, e6, hA.me, cond_true, cond_false, List.cons_append, List.nil_append, List.append_nil]) (fun x => by first | rfl | simp only [ins_self, ins_ne D (show 7 ≠ 2 by decide), ins_ne D (show 7 ≠ 5 by decide), ins_ne D (show 7 ≠ 6 by decide), ins_ne D (show 7 ≠ 8 by decide), ins_ne D (show 7 ≠ 9 by decide), upd_self, upd_ne env1 x (show 7 ≠ 2 by decide), upd_ne env1 x (show 7 ≠ 5 by decide), upd_ne env1 x (show 7 ≠ 6 by decide), e8, e9, e2, e5, e6, hA.me, cond_true, cond_false, List.cons_append, List.nil_append, List.append_nil]) (fun x => rfl) (OpR.alloc rfl rfl (fun _ => rfl))
   rcases Bool.eq_false_or_eq_true (D 5) with e5 | e5
   rotate_left
   · rcases Bool.eq_false_or_eq_true (D 6) with e6 | e6
     rotate_left
     · exact OpS.yes (o0 := [.row (env1 2) (List.map e_cell_Cell x3) 5 50]) (o1 := fun x => [.row (env1 2) (List.map e_cell_Cell x3) 5 50, .var (blk x) [.val (.slice none 0 0)] 36]) (d := fun x => .val (.pointer (some ⟨(blk x), 0, none⟩))) (Want.plain rfl) (by first | rfl | simp only [e8, e9, e2, e5, e6, hA.me, cond_true, cond_false, List.cons_append, List.nil_append, List.append_nil]) (fun x => by first | rfl | simp only [ins_self, ins_ne D (show 7 ≠ 2 by decide), ins_ne D (show 7 ≠ 5 by decide), ins_ne D (show 7 ≠ 6 by decide), ins_ne D (show 7 ≠ 8 by decide), ins_ne D (show 7 ≠ 9 by decide), upd_self, upd_ne env1 x (show 7 ≠ 2 by decide), upd_ne env1 x (show 7 ≠ 5 by decide), upd_ne env1 x (show 7 ≠ 6 by decide), e8, e9, e2, e5, e6, hA.me, cond_true, cond_false, List.cons_append, List.nil_append, List.append_nil]) (fun x => rfl) (OpR.alloc rfl rfl (fun _ => rfl))
     exact OpS.yes (o0 := [.row (env1 2) (List.map e_cell_Cell x3) 5 50, .var (blk (env1 6)) [.val (.slice none 0 0)] 35]) (o1 := fun x => [.row (env1 2) (List.map e_cell_Cell x3) 5 50, .var (blk (env1 6)) [.val (.slice none 0 0)] 35, .var (blk x) [.val (.slice none 0 0)] 36]) (d := fun x => .val (.pointer (some ⟨(blk x), 0, none⟩))) (Want.plain rfl) (by first | rfl | simp only [e8, e9, e2, e5, e6, hA.me, cond_true, cond_false, List.cons_append, List.nil_append, List.append_nil]) (fun x => by first | rfl | simp only [ins_self, ins_ne D (show 7 ≠ 2 by decide), ins_ne D (show 7 ≠ 5 by decide), ins_ne D (show 7 ≠ 6 by decide), ins_ne D (show 7 ≠ 8 by decide), ins_ne D (show 7 ≠ 9 by decide), upd_self, upd_ne env1 x (show 7 ≠ 2 by decide), upd_ne env1 x (show 7 ≠ 5 by decide), upd_ne env1 x (show 7 ≠ 6 by decide), e8, e9, e2, e5, e6, hA.me, cond_true, cond_false, List.cons_append, List.nil_append, List.append_nil]) (fun x => rfl) (OpR.alloc rfl rfl (fun _ => rfl))
   rcases Bool.eq_false_or_eq_true (D 6) with e6 | e6
   rotate_left
   · exact OpS.yes (o0 := [.row (env1 2) (List.map e_cell_Cell x3) 5 50, .row (env1 5) (List.map eB x5) 1 4]) (o1 := fun x => [.row (env1 2) (List.map e_cell_Cell x3) 5 50, .row (env1 5) (List.map eB x5) 1 4, .var (blk x) [.val (.slice none 0 0)] 36]) (d := fun x => .val (.pointer (some ⟨(blk x), 0, none⟩))) (Want.plain rfl) (by first | rfl | simp only [e8, e9, e2, e5, e6, hA.me, cond_true, cond_false, List.cons_append, List.nil_append, List.append_nil]) (fun x => by first | rfl | simp only [ins_self, ins_ne D (show 7 ≠ 2 by decide), ins_ne D (show 7 ≠ 5 by decide), ins_ne D (show 7 ≠ 6 by decide), ins_ne D (show 7 ≠ 8 by decide), ins_ne D (show 7 ≠ 9 by decide), upd_self, upd_ne env1 x (show 7 ≠ 2 by decide), upd_ne env1 x (show 7 ≠ 5 by decide), upd_ne env1 x (show 7 ≠ 6 by decide), e8, e9, e2, e5, e6, hA.me, cond_true, cond_false, List.cons_append, List.nil_append, List.append_nil]) (fun x => rfl) (OpR.alloc rfl rfl (fun _ => rfl))
   exact OpS.yes (o0 := [.row (env1 2) (List.map e_cell_Cell x3) 5 50, .row (env1 5) (List.map eB x5) 1 4, .var (blk (env1 6)) [.val (.slice none 0 0)] 35]) (o1 := fun x => [.row (env1 2) (List.map e_cell_Cell x3) 5 50, .row (env1 5) (List.map eB x5) 1 4, .var (blk (env1 6)) [.val (.slice none 0 0)] 35, .var (blk x) [.val (.slice none 0 0)] 36]) (d := fun x => .val (.pointer (some ⟨(blk x), 0, none⟩))) (Want.plain rfl) (by first | rfl | simp only [e8, e9, e2, e5, e6, hA.me, cond_true, cond_false, List.cons_append, List.nil_append, List.append_nil]) (fun x => by first | rfl | simp only [ins_self, ins_ne D (show 7 ≠ 2 by decide), ins_ne D (show 7 ≠ 5 by decide), ins_ne D (show 7 ≠ 6 by decide), ins_ne D (show 7 ≠ 8 by decide), ins_ne D (show 7 ≠ 9 by decide), upd_self, upd_ne env1 x (show 7 ≠ 2 by decide), upd_ne env1 x (show 7 ≠ 5 by decide), upd_ne env1 x (show 7 ≠ 6 by decide), e8, e9, e2, e5, e6, hA.me, cond_true, cond_false, List.cons_append, List.nil_append, List.append_nil]) (fun x => rfl) (OpR.alloc rfl rfl (fun _ => rfl))
 refine OpsS.cons' true ?_ (fun _ _ _ _ _ _ _ => rfl) ?_
 · intro D env1 hA
   have e2 : D 2 = true := hA.yes 2 _ rfl rfl
   have e6 : D 6 = true := hA.yes 6 _ rfl rfl
   have e7 : D 7 = true := hA.yes 7 _ rfl rfl
   have e9 : D 9 = false := hA.no 9 _ rfl rfl
   rcases Bool.eq_false_or_eq_true (D 5) with e5 | e5
   rotate_left
   · exact OpS.yes (o0 := [.row (env1 2) (List.map e_cell_Cell x3) 5 50, .var (blk (env1 6)) [.val (.slice none 0 0)] 35, .var (blk (env1 7)) [.val (.slice none 0 0)] 36]) (o1 := fun x => [.row (env1 2) (List.map e_cell_Cell x3) 5 50, .var (blk (env1 6)) [.val (env1 2)] 35, .var (blk (env1 7)) [.val (.slice none 0 0)] 36]) (d := fun x => .dead) (Want.plain rfl) (by first | rfl | simp only [e2, e6, e7, e9, e5, hA.me, cond_true, cond_false, List.cons_append, List.nil_append, List.append_nil]) (fun x => by first | rfl | simp only [ins_self, ins_ne D (show 8 ≠ 2 by decide), ins_ne D (show 8 ≠ 5 by decide), ins_ne D (show 8 ≠ 6 by decide), ins_ne D (show 8 ≠ 7 by decide), ins_ne D (show 8 ≠ 9 by decide), upd_self, upd_ne env1 x (show 8 ≠ 2 by decide), upd_ne env1 x (show 8 ≠ 5 by decide), upd_ne env1 x (show 8 ≠ 6 by decide), upd_ne env1 x (show 8 ≠ 7 by decide), e2, e6, e7, e9, e5, hA.me, cond_true, cond_false, List.cons_append, List.nil_append, List.append_nil]) (fun x => rfl) (OpR.store 1 rfl rfl rfl rfl rfl rfl rfl rfl)
   exact OpS.yes (o0 := [.row (env1 2) (List.map e_cell_Cell x3) 5 50, .row (env1 5) (List.map eB x5) 1 4, .var (blk (env1 6)) [.val (.slice none 0 0)] 35, .var (blk (env1 7)) [.val (.slice none 0 0)] 36]) (o1 := fun x => [.row (env1 2) (List.map e_cell_Cell x3) 5 50, .row (env1 5) (List.map eB x5) 1 4, .var (blk (env1 6)) [.val (env1 2)] 35, .var (blk (env1 7)) [.val (.slice none 0 0)] 36]) (d := fun x => .dead) (Want.plain rfl) (by first | rfl | simp only [e2, e6, e7, e9, e5, hA.me, cond_true, cond_false, List.cons_append, List.nil_append, List.append_nil]) (fun x => by first | rfl | simp only [ins_self, ins_ne D (show 8 ≠ 2 by decide), ins_ne D (show 8 ≠ 5 by decide), ins_ne D (show 8 ≠ 6 by decide), ins_ne D (show 8 ≠ 7 by decide), ins_ne D (show 8 ≠ 9 by decide), upd_self, upd_ne env1 x (show 8 ≠ 2 by decide), upd_ne env1 x (show 8 ≠ 5 by decide), upd_ne env1 x (show 8 ≠ 6 by decide), upd_ne env1 x (show 8 ≠ 7 by decide), e2, e6, e7, e9, e5, hA.me, cond_true, cond_false, List.cons_append, List.nil_append, List.append_nil]) (fun x => rfl) (OpR.store 2 rfl rfl rfl rfl rfl rfl rfl rfl)
 refine OpsS.cons' true ?_ (fun _ _ _ _ _ _ _ => rfl) ?_
 · intro D env1 hA
   have e2 : D 2 = true := hA.yes 2 _ rfl rfl
   have e5 : D 5 = true := hA.yes 5 _ rfl rfl
   have e6 : D 6 = true := hA.yes 6 _ rfl rfl
   have e7 : D 7 = true := hA.yes 7 _ rfl rfl
   have e8 : D 8 = true := hA.yes 8 _ rfl rfl
   exact OpS.yes (o0 := [.row (env1 2) (List.map e_cell_Cell x3) 5 50, .row (env1 5) (List.map eB x5) 1 4, .var (blk (env1 6)) [.val (env1 2)] 35, .var (blk (env1 7)) [.val (.slice none 0 0)] 36]) (o1 := fun x => [.row (env1 2) (List.map e_cell_Cell x3) 5 50, .row (env1 5) (List.map eB x5) 1 4, .var (blk (env1 6)) [.val (env1 2)] 35, .var (blk (env1 7)) [.val (env1 5)] 36]) (d := fun x => .dead) (Want.plain rfl) (by first | rfl | simp only [e2, e5, e6, e7, e8, hA.me, cond_true, cond_false, List.cons_append, List.nil_append, List.append_nil]) (fun x => by first | rfl | simp only [ins_self, ins_ne D (show 9 ≠ 2 by decide), ins_ne D (show 9 ≠ 5 by decide), ins_ne D (show 9 ≠ 6 by decide), ins_ne D (show 9 ≠ 7 by decide), ins_ne D (show 9 ≠ 8 by decide), upd_self, upd_ne env1 x (show 9 ≠ 2 by decide), upd_ne env1 x (show 9 ≠ 5 by decide), upd_ne env1 x (show 9 ≠ 6 by decide), upd_ne env1 x (show 9 ≠ 7 by decide), e2, e5, e6, e7, e8, hA.me, cond_true, cond_false, List.cons_append, List.nil_append, List.append_nil]) (fun x => rfl) (OpR.store 3 rfl rfl rfl rfl rfl rfl rfl rfl)
 exact trivial
noncomputable def ref11_Has (a0 : ref11_Grid) (a1 : Int) : Option Bool :=
  bnd (if a1 ≥ 0 then
    some (decide (a1 < (a0.fRows.length : Int)))
  else
    some false : Option Bool) fun t1 =>
  some t1
set_option maxHeartbeats 4000000 in
theorem ref11_Has_c {a0 : ref11_Grid} {a1 : Int} {res : Bool} (h0 : ref11_Has a0 a1 = some res) : CallF X 19 [.agg [.sl 3 (List.map e_ref08_Row a0.fRows), .val (.bool a0.fTail), .val (.int .i64 a0.fEnd)], .val (.int .i64 a1)] [] (fun x => .val (.bool res)) (fun x => []) := by
 unfold ref11_Has at h0
 refine CallF.mkG (X := X) rfl Try.func19 rfl rfl Try.ntmps19 rfl rfl ?_
 refine aS ?_
 refine TL.op1 (OpR.boxImm rfl rfl) rfl ?_
 refine aA rfl rfl ?_
 refine TL.nil ?_
 show T X _ _ _
 refine T.seq ?_
 obtain ⟨t1, ht1, h0⟩ := bnd_some h0
 refine T.cutC (fun S' => S' = ⟨[(4, .val (.bool t1))], [], 14⟩) (fun _ h => h) ?_ ?_
 rotate_left
 · rintro _ rfl
   show T X _ _ _
   refine T.ret ?_
   obtain rfl := Option.some.inj h0
   exact PostG.retP (ks := []) (Gst.only [4] rfl) undef (ResL.cons (ResV.tmp rfl) ResL.nil) rfl rfl rfl rfl
 refine T.region ?_
 iterate 3 refine aA rfl rfl ?_
 rcases ite_some ht1 with ⟨c2, ht1⟩ | ⟨c2, ht1⟩
 rotate_left
 · refine TL.off rfl rfl rfl rfl (decide_eq_false c2) rfl rfl ?_
   refine TL.off rfl rfl rfl rfl (decide_eq_false c2) rfl rfl ?_
   refine TL.off rfl rfl rfl rfl (decide_eq_false c2) rfl rfl ?_
   refine TL.off rfl rfl rfl rfl (decide_eq_false c2) rfl rfl ?_
   refine TL.off rfl rfl rfl rfl (decide_eq_false c2) rfl rfl ?_
   refine TL.op1 (OpR.pickF rfl (decide_eq_false c2) rfl) rfl ?_
   refine aA rfl rfl ?_
   refine TL.nil ?_
   obtain rfl := Option.some.inj ht1
   exact ⟨_, Gst.only [4] rfl, rfl⟩
 refine TL.on rfl rfl rfl rfl (decide_eq_true c2) ?_
 refine aA rfl rfl ?_
 refine TL.on rfl rfl rfl rfl (decide_eq_true c2) ?_
 refine aA rfl rfl ?_
 refine TL.on rfl rfl rfl rfl (decide_eq_true c2) ?_
 refine aA rfl rfl ?_
 refine TL.on rfl rfl rfl rfl (decide_eq_true c2) ?_
 refine TL.op1 (OpR.cast (OpR.pure rfl) (intE (lenM _ _))) rfl ?_
 refine TL.on rfl rfl rfl rfl (decide_eq_true c2) ?_
 refine aA rfl rfl ?_
 refine TL.op1 (OpR.pickT rfl (decide_eq_true c2) rfl) rfl ?_
 refine aA rfl rfl ?_
 refine TL.nil ?_
 obtain rfl := Option.some.inj ht1
 exact ⟨_, Gst.only [4] rfl, rfl⟩
noncomputable def ref11_At (a0 : ref11_Grid) (a1 : Int) (a2 : Int) : Option (ref07_Cell × Bool) :=
  bnd (bnd (ref11_Has a0 a1) fun x3 =>
  if x3 = true then
    if a2 < 0 then
      some true
    else
      bnd (idx a0.fRows a1) fun x6 =>
      some (decide (a2 ≥ (x6.fCells.length : Int)))
  else
    some true : Option Bool) fun t2 =>
  if t2 = true then
    some ((⟨[], [], false⟩ : ref07_Cell), false)
  else
    bnd (idx a0.fRows a1) fun x8 =>
    bnd (idx x8.fCells a2) fun x9 =>
    some (x9, true)
set_option maxHeartbeats 4000000 in
theorem ref11_At_c {a0 : ref11_Grid} {a1 : Int} {a2 : Int} {res : ref07_Cell × Bool} (h0 : ref11_At a0 a1 a2 = some res) : CallF X 8 [.agg [.sl 3 (List.map e_ref08_Row a0.fRows), .val (.bool a0.fTail), .val (.int .i64 a0.fEnd)], .val (.int .i64 a1), .val (.int .i64 a2)] [] (fun x => .tup [.agg [.val (.string (bs res.1.fS)), .val (.string (bs res.1.fRaw)), .val (.bool res.1.fKept)], .val (.bool res.2)]) (fun x => []) := by
 unfold ref11_At at h0
 refine CallF.mkG (X := X) rfl Try.func8 rfl rfl Try.ntmps8 rfl rfl ?_
 refine aS ?_
 refine TL.op1 (OpR.boxImm rfl rfl) rfl ?_
 refine TL.op (OpR.alloc rfl rfl (fun _ => rfl)) rfl (fun p1 => ?_)
 refine aA rfl rfl ?_
 refine TL.nil ?_
 show T X _ _ _
 refine T.seq ?_
 refine T.seq ?_
 obtain ⟨t2, ht2, h0⟩ := bnd_some h0
 refine T.cutC (fun S' => S' = ⟨[(26, .val (.bool t2)), (7, .val (.bool false)), (6, .val (.pointer (some ⟨(blk p1), 0, none⟩))), (3, .nod [.sl 3 (List.map e_ref08_Row a0.fRows), .val (.bool a0.fTail), .val (.int .i64 a0.fEnd)]), (2, .val (.int .i64 a2)), (1, .val (.int .i64 a1))], [.var (blk p1) [.val (.string (bs [])), .val (.string (bs [])), .val (.bool false)] 40], 37⟩) (fun _ h => h) ?_ ?_
 rotate_left
 · rintro _ rfl
   show T X _ _ _
   rcases ite_some h0 with ⟨c7, h0⟩ | ⟨c7, h0⟩
   · refine T.condT rfl (c7) ?_
     refine aS ?_
     refine TL.op1 (OpR.build rfl rfl rfl rfl rfl) rfl ?_
     refine TL.op0 (OpR.store 0 rfl rfl rfl rfl rfl rfl rfl rfl) ?_
     refine aA rfl rfl ?_
     refine TL.nil ?_
     show T X _ _ _
     refine T.ret ?_
     obtain rfl := Option.some.inj h0
     exact PostG.retP (ks := []) (Gst.only [6, 7] rfl) undef (ResL.cons (ResV.var 0 rfl rfl rfl rfl) (ResL.cons (ResV.tmp rfl) ResL.nil)) rfl rfl rfl rfl
   refine T.condF rfl (eq_false_of_ne_true c7) ?_
   refine T.skip ?_
   show T X _ _ _
   refine aS ?_
   iterate 3 refine aA rfl rfl ?_
   obtain ⟨x8, hx8, h0⟩ := bnd_some h0
   refine TL.op1 (OpR.indexM e_ref08_Row hx8 rfl rfl rfl rfl rfl) rfl ?_
   iterate 3 refine aA rfl rfl ?_
   obtain ⟨x9, hx9, h0⟩ := bnd_some h0
   refine TL.op1 (OpR.indexM e_ref07_Cell hx9 rfl rfl rfl rfl rfl) rfl ?_
   refine aA rfl rfl ?_
   refine TL.op0 (OpR.store 0 rfl rfl rfl rfl rfl rfl rfl rfl) ?_
   refine aA rfl rfl ?_
   refine TL.nil ?_
   show T X _ _ _
   refine T.ret ?_
   obtain rfl := Option.some.inj h0
   exact PostG.retP (ks := []) (Gst.only [6, 7] rfl) undef (ResL.cons (ResV.var 0 rfl rfl rfl rfl) (ResL.cons (ResV.tmp rfl) ResL.nil)) rfl rfl rfl rfl
 refine T.region ?_
 iterate 2 refine aA rfl rfl ?_
 obtain ⟨x3, hx3, ht2⟩ := bnd_some ht2
 refine TL.op1 (OpR.call0 fn19 (ref11_Has_c hx3) rfl) rfl ?_
 iterate 2 refine aA rfl rfl ?_
 rcases ite_some ht2 with ⟨c4, ht2⟩ | ⟨c4, ht2⟩
 rotate_left
 · refine TL.off rfl rfl rfl rfl (not_f (eq_false_of_ne_true c4)) rfl rfl ?_
   refine TL.off rfl rfl rfl rfl (not_f (eq_false_of_ne_true c4)) rfl rfl ?_
   refine TL.op1 (OpR.pickT rfl (not_f (eq_false_of_ne_true c4)) rfl) rfl ?_
   refine aA rfl rfl ?_
   refine TL.off rfl rfl rfl rfl rfl rfl rfl ?_
   refine TL.off rfl rfl rfl rfl rfl rfl rfl ?_
   refine TL.off rfl rfl rfl rfl rfl rfl rfl ?_
   refine TL.off rfl rfl rfl rfl rfl rfl rfl ?_
   refine TL.off rfl rfl rfl rfl rfl rfl rfl ?_
   refine TL.off rfl rfl rfl rfl rfl rfl rfl ?_
   refine TL.off rfl rfl rfl rfl rfl rfl rfl ?_
   refine TL.off rfl rfl rfl rfl rfl rfl rfl ?_
   refine TL.off rfl rfl rfl rfl rfl rfl rfl ?_
   refine TL.op1 (OpR.pickT rfl rfl rfl) rfl ?_
   refine TL.nil ?_
   obtain rfl := Option.some.inj ht2
   exact ⟨_, Gst.only [1, 2, 3, 6, 7, 26] rfl, rfl⟩
 refine TL.on rfl rfl rfl rfl (not_t (c4)) ?_
 refine aA rfl rfl ?_
 refine TL.on rfl rfl rfl rfl (not_t (c4)) ?_
 refine aA rfl rfl ?_
 refine TL.op1 (OpR.pickF rfl (not_t (c4)) rfl) rfl ?_
 refine aA rfl rfl ?_
 rcases ite_some ht2 with ⟨c5, ht2⟩ | ⟨c5, ht2⟩
 · refine TL.off rfl rfl rfl rfl (decide_eq_true c5) rfl rfl ?_
   refine TL.off rfl rfl rfl rfl (decide_eq_true c5) rfl rfl ?_
   refine TL.off rfl rfl rfl rfl (decide_eq_true c5) rfl rfl ?_
   refine TL.off rfl rfl rfl rfl (decide_eq_true c5) rfl rfl ?_
   refine TL.off rfl rfl rfl rfl (decide_eq_true c5) rfl rfl ?_
   refine TL.off rfl rfl rfl rfl (decide_eq_true c5) rfl rfl ?_
   refine TL.off rfl rfl rfl rfl (decide_eq_true c5) rfl rfl ?_
   refine TL.off rfl rfl rfl rfl (decide_eq_true c5) rfl rfl ?_
   refine TL.off rfl rfl rfl rfl (decide_eq_true c5) rfl rfl ?_
   refine TL.op1 (OpR.pickT rfl (decide_eq_true c5) rfl) rfl ?_
   refine TL.nil ?_
   obtain rfl := Option.some.inj ht2
   exact ⟨_, Gst.only [1, 2, 3, 6, 7, 26] rfl, rfl⟩
 refine TL.on rfl rfl rfl rfl (decide_eq_false c5) ?_
 refine aA rfl rfl ?_
 refine TL.on rfl rfl rfl rfl (decide_eq_false c5) ?_
 refine aA rfl rfl ?_
 refine TL.on rfl rfl rfl rfl (decide_eq_false c5) ?_
 refine aA rfl rfl ?_
 refine TL.on rfl rfl rfl rfl (decide_eq_false c5) ?_
 refine aA rfl rfl ?_
 refine TL.on rfl rfl rfl rfl (decide_eq_false c5) ?_
 obtain ⟨x6, hx6, ht2⟩ := bnd_some ht2
 refine TL.op1 (OpR.indexM e_ref08_Row hx6 rfl rfl rfl rfl rfl) rfl ?_
 refine TL.on rfl rfl rfl rfl (decide_eq_false c5) ?_
 refine aA rfl rfl ?_
 refine TL.on rfl rfl rfl rfl (decide_eq_false c5) ?_
 refine aA rfl rfl ?_
 refine TL.on rfl rfl rfl rfl (decide_eq_false c5) ?_
 refine TL.op1 (OpR.cast (OpR.pure rfl) (intE (lenM _ _))) rfl ?_
 refine TL.on rfl rfl rfl rfl (decide_eq_false c5) ?_
 refine aA rfl rfl ?_
 refine TL.op1 (OpR.pickF rfl (decide_eq_false c5) rfl) rfl ?_
 refine TL.nil ?_
 obtain rfl := Option.some.inj ht2
 exact ⟨_, Gst.only [1, 2, 3, 6, 7, 26] rfl, rfl⟩
noncomputable def arena_Arena_Right (a0 : arena_Span) (a1 : List UInt8) : Option Bool :=
  bnd (if a0.fAt ≥ 0 then
    if a0.fN ≥ 0 then
      if a0.fAt ≤ (a1.length : Int) then
        some (decide (a0.fN ≤ (w64 ((a1.length : Int) - a0.fAt))))
      else
        some false
    else
      some false
  else
    some false : Option Bool) fun t1 =>
  some t1
set_option maxHeartbeats 4000000 in
theorem arena_Arena_Right_c {a0 : arena_Span} {a1 : List UInt8} {b0 : Nat} {v1 : Value} {res : Bool} (h0 : arena_Arena_Right a0 a1 = some res) : CallF X 69 [.val (.pointer (some ⟨b0, 0, none⟩)), .agg [.val (.int .i64 a0.fAt), .val (.int .i64 a0.fN)]] [.var b0 [.val v1] 123, .row v1 (List.map byteD a1) 1 5] (fun x => .val (.bool res)) (fun x => [.var b0 [.val v1] 123, .row v1 (List.map byteD a1) 1 5]) := by
 unfold arena_Arena_Right at h0
 refine CallF.mkG (X := X) rfl Try.func69 rfl rfl Try.ntmps69 rfl rfl ?_
 refine aS ?_
 refine TL.op1 (OpR.boxImm rfl rfl) rfl ?_
 refine aA rfl rfl ?_
 refine TL.nil ?_
 show T X _ _ _
 refine T.seq ?_
 refine aS ?_
 refine aA rfl rfl ?_
 refine TL.op1 (OpR.ptrNil (A := some ⟨b0, 0, none⟩) rfl rfl rfl) rfl ?_
 refine TL.nil ?_
 show T X _ _ _
 refine T.condF rfl rfl ?_
 refine T.skip ?_
 show T X _ _ _
 refine T.seq ?_
 obtain ⟨t1, ht1, h0⟩ := bnd_some h0
 refine T.cutC (fun S' => S' = ⟨[(4, .val (.bool t1))], [.var b0 [.val v1] 123, .row v1 (List.map byteD a1) 1 5], 38⟩) (fun _ h => h) ?_ ?_
 rotate_left
 · rintro _ rfl
   show T X _ _ _
   refine T.ret ?_
   obtain rfl := Option.some.inj h0
   exact PostG.retP (ks := [0, 1]) (Gst.only [4] rfl) undef (ResL.cons (ResV.tmp rfl) ResL.nil) rfl rfl rfl rfl
 rcases ite_some ht1 with ⟨c3, ht1⟩ | ⟨c3, ht1⟩
 rotate_left
 · refine T.drawQ drawsX [.nod [.val (.int .i64 a0.fAt), .val (.int .i64 a0.fN)], .val (.int .i64 a0.fAt), .val (.bool (decide (a0.fAt ≥ 0))), .val (.bool (decide (a0.fAt ≥ 0))), .tup [], .tup [], .tup [], .val (.bool false), .val (.bool false), .tup [], .tup [], .tup [], .tup [], .tup [], .tup [], .tup [], .tup [], .val (.bool false), .val (.bool false), .tup [], .tup [], .tup [], .tup [], .tup [], .tup [], .tup [], .tup [], .tup [], .tup [], .tup [], .val (.bool false), .val (.bool false)] [4] (by decide +kernel) rfl ?_ rfl ?_
   rotate_left
   · obtain rfl := Option.some.inj ht1
     exact ⟨_, Gst.only [4] rfl, rfl⟩
   iterate 4 refine aB rfl rfl rfl ?_
   refine OpsQ.no (Want.bool rfl rfl rfl rfl (by rw [(decide_eq_false c3)]; rfl)) rfl ?_
   refine OpsQ.no (Want.bool rfl rfl rfl rfl (by rw [(decide_eq_false c3)]; rfl)) rfl ?_
   refine OpsQ.no (Want.bool rfl rfl rfl rfl (by rw [(decide_eq_false c3)]; rfl)) rfl ?_
   refine OpsQ.yes (Want.plain rfl) rfl (OpR.pickF rfl (decide_eq_false c3) rfl) ?_
   refine aB rfl rfl rfl ?_
   refine OpsQ.no (Want.bool rfl rfl rfl rfl rfl) rfl ?_
   refine OpsQ.no (Want.bool rfl rfl rfl rfl rfl) rfl ?_
   refine OpsQ.no (Want.bool rfl rfl rfl rfl rfl) rfl ?_
   refine OpsQ.no (Want.bool rfl rfl rfl rfl rfl) rfl ?_
   refine OpsQ.no (Want.bool rfl rfl rfl rfl rfl) rfl ?_
   refine OpsQ.no (Want.bool rfl rfl rfl rfl rfl) rfl ?_
   refine OpsQ.no (Want.bool rfl rfl rfl rfl rfl) rfl ?_
   refine OpsQ.no (Want.bool rfl rfl rfl rfl rfl) rfl ?_
   refine OpsQ.yes (Want.plain rfl) rfl (OpR.pickF rfl rfl rfl) ?_
   refine aB rfl rfl rfl ?_
   refine OpsQ.no (Want.bool rfl rfl rfl rfl rfl) rfl ?_
   refine OpsQ.no (Want.bool rfl rfl rfl rfl rfl) rfl ?_
   refine OpsQ.no (Want.bool rfl rfl rfl rfl rfl) rfl ?_
   refine OpsQ.no (Want.bool rfl rfl rfl rfl rfl) rfl ?_
   refine OpsQ.no (Want.bool rfl rfl rfl rfl rfl) rfl ?_
   refine OpsQ.no (Want.bool rfl rfl rfl rfl rfl) rfl ?_
   refine OpsQ.no (Want.bool rfl rfl rfl rfl rfl) rfl ?_
   refine OpsQ.no (Want.bool rfl rfl rfl rfl rfl) rfl ?_
   refine OpsQ.no (Want.bool rfl rfl rfl rfl rfl) rfl ?_
   refine OpsQ.no (Want.bool rfl rfl rfl rfl rfl) rfl ?_
   refine OpsQ.no (Want.bool rfl rfl rfl rfl rfl) rfl ?_
   refine OpsQ.yes (Want.plain rfl) rfl (OpR.pickF rfl rfl rfl) ?_
   refine aB rfl rfl rfl ?_
   exact OpsQ.nil
 rcases ite_some ht1 with ⟨c4, ht1⟩ | ⟨c4, ht1⟩
 rotate_left
 · refine T.drawQ drawsX [.nod [.val (.int .i64 a0.fAt), .val (.int .i64 a0.fN)], .val (.int .i64 a0.fAt), .val (.bool (decide (a0.fAt ≥ 0))), .val (.bool (decide (a0.fAt ≥ 0))), .nod [.val (.int .i64 a0.fN)], .val (.int .i64 a0.fN), .val (.bool (decide (a0.fN ≥ 0))), .val (.bool (decide (a0.fN ≥ 0))), .val (.bool (decide (a0.fN ≥ 0))), .tup [], .tup [], .tup [], .tup [], .tup [], .tup [], .tup [], .tup [], .val (.bool false), .val (.bool false), .tup [], .tup [], .tup [], .tup [], .tup [], .tup [], .tup [], .tup [], .tup [], .tup [], .tup [], .val (.bool false), .val (.bool false)] [4] (by decide +kernel) rfl ?_ rfl ?_
   rotate_left
   · obtain rfl := Option.some.inj ht1
     exact ⟨_, Gst.only [4] rfl, rfl⟩
   iterate 4 refine aB rfl rfl rfl ?_
   refine OpsQ.yes (Want.bool rfl rfl rfl rfl (by rw [(decide_eq_true c3)]; rfl)) rfl (OpR.pure rfl) ?_
   refine OpsQ.yes (Want.bool rfl rfl rfl rfl (by rw [(decide_eq_true c3)]; rfl)) rfl (OpR.pure rfl) ?_
   refine OpsQ.yes (Want.bool rfl rfl rfl rfl (by rw [(decide_eq_true c3)]; rfl)) rfl (OpR.pure rfl) ?_
   refine OpsQ.yes (Want.plain rfl) rfl (OpR.pickT rfl (decide_eq_true c3) rfl) ?_
   refine aB rfl rfl rfl ?_
   refine OpsQ.no (Want.bool rfl rfl rfl rfl (by rw [(decide_eq_false c4)]; rfl)) rfl ?_
   refine OpsQ.no (Want.bool rfl rfl rfl rfl (by rw [(decide_eq_false c4)]; rfl)) rfl ?_
   refine OpsQ.no (Want.bool rfl rfl rfl rfl (by rw [(decide_eq_false c4)]; rfl)) rfl ?_
   refine OpsQ.no (Want.bool rfl rfl rfl rfl (by rw [(decide_eq_false c4)]; rfl)) rfl ?_
   refine OpsQ.no (Want.bool rfl rfl rfl rfl (by rw [(decide_eq_false c4)]; rfl)) rfl ?_
   refine OpsQ.no (Want.bool rfl rfl rfl rfl (by rw [(decide_eq_false c4)]; rfl)) rfl ?_
   refine OpsQ.no (Want.bool rfl rfl rfl rfl (by rw [(decide_eq_false c4)]; rfl)) rfl ?_
   refine OpsQ.no (Want.bool rfl rfl rfl rfl (by rw [(decide_eq_false c4)]; rfl)) rfl ?_
   refine OpsQ.yes (Want.plain rfl) rfl (OpR.pickF rfl (decide_eq_false c4) rfl) ?_
   refine aB rfl rfl rfl ?_
   refine OpsQ.no (Want.bool rfl rfl rfl rfl rfl) rfl ?_
   refine OpsQ.no (Want.bool rfl rfl rfl rfl rfl) rfl ?_
   refine OpsQ.no (Want.bool rfl rfl rfl rfl rfl) rfl ?_
   refine OpsQ.no (Want.bool rfl rfl rfl rfl rfl) rfl ?_
   refine OpsQ.no (Want.bool rfl rfl rfl rfl rfl) rfl ?_
   refine OpsQ.no (Want.bool rfl rfl rfl rfl rfl) rfl ?_
   refine OpsQ.no (Want.bool rfl rfl rfl rfl rfl) rfl ?_
   refine OpsQ.no (Want.bool rfl rfl rfl rfl rfl) rfl ?_
   refine OpsQ.no (Want.bool rfl rfl rfl rfl rfl) rfl ?_
   refine OpsQ.no (Want.bool rfl rfl rfl rfl rfl) rfl ?_
   refine OpsQ.no (Want.bool rfl rfl rfl rfl rfl) rfl ?_
   refine OpsQ.yes (Want.plain rfl) rfl (OpR.pickF rfl rfl rfl) ?_
   refine aB rfl rfl rfl ?_
   exact OpsQ.nil
 rcases ite_some ht1 with ⟨c5, ht1⟩ | ⟨c5, ht1⟩
 rotate_left
 · refine T.drawQ drawsX [.nod [.val (.int .i64 a0.fAt), .val (.int .i64 a0.fN)], .val (.int .i64 a0.fAt), .val (.bool (decide (a0.fAt ≥ 0))), .val (.bool (decide (a0.fAt ≥ 0))), .nod [.val (.int .i64 a0.fN)], .val (.int .i64 a0.fN), .val (.bool (decide (a0.fN ≥ 0))), .val (.bool (decide (a0.fN ≥ 0))), .val (.bool (decide (a0.fN ≥ 0))), .nod [.val (.int .i64 a0.fAt), .val (.int .i64 a0.fN)], .val (.int .i64 a0.fAt), .val (.pointer (some ⟨b0, 0, none⟩)), .val (.pointer (some ⟨b0, 0, none⟩)), .val (.pointer (some ⟨b0, 0, none⟩)), .val v1, .val (.int .i64 (a1.length : Int)), .val (.bool (decide (a0.fAt ≤ (a1.length : Int)))), .val (.bool (decide (a0.fAt ≤ (a1.length : Int)))), .val (.bool (decide (a0.fAt ≤ (a1.length : Int)))), .tup [], .tup [], .tup [], .tup [], .tup [], .tup [], .tup [], .tup [], .tup [], .tup [], .tup [], .val (.bool false), .val (.bool false)] [4] (by decide +kernel) rfl ?_ rfl ?_
   rotate_left
   · obtain rfl := Option.some.inj ht1
     exact ⟨_, Gst.only [4] rfl, rfl⟩
   iterate 4 refine aB rfl rfl rfl ?_
   refine OpsQ.yes (Want.bool rfl rfl rfl rfl (by rw [(decide_eq_true c3)]; rfl)) rfl (OpR.pure rfl) ?_
   refine OpsQ.yes (Want.bool rfl rfl rfl rfl (by rw [(decide_eq_true c3)]; rfl)) rfl (OpR.pure rfl) ?_
   refine OpsQ.yes (Want.bool rfl rfl rfl rfl (by rw [(decide_eq_true c3)]; rfl)) rfl (OpR.pure rfl) ?_
   refine OpsQ.yes (Want.plain rfl) rfl (OpR.pickT rfl (decide_eq_true c3) rfl) ?_
   refine aB rfl rfl rfl ?_
   refine OpsQ.yes (Want.bool rfl rfl rfl rfl (by rw [(decide_eq_true c4)]; rfl)) rfl (OpR.pure rfl) ?_
   refine OpsQ.yes (Want.bool rfl rfl rfl rfl (by rw [(decide_eq_true c4)]; rfl)) rfl (OpR.pure rfl) ?_
   refine OpsQ.yes (Want.bool rfl rfl rfl rfl (by rw [(decide_eq_true c4)]; rfl)) rfl (OpR.pure rfl) ?_
   refine OpsQ.yes (Want.bool rfl rfl rfl rfl (by rw [(decide_eq_true c4)]; rfl)) rfl (OpR.pure rfl) ?_
   refine OpsQ.yes (Want.bool rfl rfl rfl rfl (by rw [(decide_eq_true c4)]; rfl)) rfl (OpR.pure rfl) ?_
   refine OpsQ.yes (Want.bool rfl rfl rfl rfl (by rw [(decide_eq_true c4)]; rfl)) rfl (OpR.loadPtr 0 rfl rfl rfl rfl) ?_
   refine OpsQ.yes (Want.bool rfl rfl rfl rfl (by rw [(decide_eq_true c4)]; rfl)) rfl (OpR.rowLenM byteD 1 rfl rfl rfl rfl) ?_
   refine OpsQ.yes (Want.bool rfl rfl rfl rfl (by rw [(decide_eq_true c4)]; rfl)) rfl (OpR.pure rfl) ?_
   refine OpsQ.yes (Want.plain rfl) rfl (OpR.pickT rfl (decide_eq_true c4) rfl) ?_
   refine aB rfl rfl rfl ?_
   refine OpsQ.no (Want.bool rfl rfl rfl rfl (by rw [(decide_eq_false c5)]; rfl)) rfl ?_
   refine OpsQ.no (Want.bool rfl rfl rfl rfl (by rw [(decide_eq_false c5)]; rfl)) rfl ?_
   refine OpsQ.no (Want.bool rfl rfl rfl rfl (by rw [(decide_eq_false c5)]; rfl)) rfl ?_
   refine OpsQ.no (Want.bool rfl rfl rfl rfl (by rw [(decide_eq_false c5)]; rfl)) rfl ?_
   refine OpsQ.no (Want.bool rfl rfl rfl rfl (by rw [(decide_eq_false c5)]; rfl)) rfl ?_
   refine OpsQ.no (Want.bool rfl rfl rfl rfl (by rw [(decide_eq_false c5)]; rfl)) rfl ?_
   refine OpsQ.no (Want.bool rfl rfl rfl rfl (by rw [(decide_eq_false c5)]; rfl)) rfl ?_
   refine OpsQ.no (Want.bool rfl rfl rfl rfl (by rw [(decide_eq_false c5)]; rfl)) rfl ?_
   refine OpsQ.no (Want.bool rfl rfl rfl rfl (by rw [(decide_eq_false c5)]; rfl)) rfl ?_
   refine OpsQ.no (Want.bool rfl rfl rfl rfl (by rw [(decide_eq_false c5)]; rfl)) rfl ?_
   refine OpsQ.no (Want.bool rfl rfl rfl rfl (by rw [(decide_eq_false c5)]; rfl)) rfl ?_
   refine OpsQ.yes (Want.plain rfl) rfl (OpR.pickF rfl (decide_eq_false c5) rfl) ?_
   refine aB rfl rfl rfl ?_
   exact OpsQ.nil
 refine T.drawQ drawsX [.nod [.val (.int .i64 a0.fAt), .val (.int .i64 a0.fN)], .val (.int .i64 a0.fAt), .val (.bool (decide (a0.fAt ≥ 0))), .val (.bool (decide (a0.fAt ≥ 0))), .nod [.val (.int .i64 a0.fN)], .val (.int .i64 a0.fN), .val (.bool (decide (a0.fN ≥ 0))), .val (.bool (decide (a0.fN ≥ 0))), .val (.bool (decide (a0.fN ≥ 0))), .nod [.val (.int .i64 a0.fAt), .val (.int .i64 a0.fN)], .val (.int .i64 a0.fAt), .val (.pointer (some ⟨b0, 0, none⟩)), .val (.pointer (some ⟨b0, 0, none⟩)), .val (.pointer (some ⟨b0, 0, none⟩)), .val v1, .val (.int .i64 (a1.length : Int)), .val (.bool (decide (a0.fAt ≤ (a1.length : Int)))), .val (.bool (decide (a0.fAt ≤ (a1.length : Int)))), .val (.bool (decide (a0.fAt ≤ (a1.length : Int)))), .nod [.val (.int .i64 a0.fN)], .val (.int .i64 a0.fN), .val (.pointer (some ⟨b0, 0, none⟩)), .val (.pointer (some ⟨b0, 0, none⟩)), .val (.pointer (some ⟨b0, 0, none⟩)), .val v1, .val (.int .i64 (a1.length : Int)), .nod [.val (.int .i64 a0.fAt), .val (.int .i64 a0.fN)], .val (.int .i64 a0.fAt), .val (.int .i64 (w64 ((a1.length : Int) - a0.fAt))), .val (.bool (decide (a0.fN ≤ (w64 ((a1.length : Int) - a0.fAt))))), .val (.bool (decide (a0.fN ≤ (w64 ((a1.length : Int) - a0.fAt))))), .val (.bool (decide (a0.fN ≤ (w64 ((a1.length : Int) - a0.fAt)))))] [4] (by decide +kernel) rfl ?_ rfl ?_
 rotate_left
 · obtain rfl := Option.some.inj ht1
   exact ⟨_, Gst.only [4] rfl, rfl⟩
 iterate 4 refine aB rfl rfl rfl ?_
 refine OpsQ.yes (Want.bool rfl rfl rfl rfl (by rw [(decide_eq_true c3)]; rfl)) rfl (OpR.pure rfl) ?_
 refine OpsQ.yes (Want.bool rfl rfl rfl rfl (by rw [(decide_eq_true c3)]; rfl)) rfl (OpR.pure rfl) ?_
 refine OpsQ.yes (Want.bool rfl rfl rfl rfl (by rw [(decide_eq_true c3)]; rfl)) rfl (OpR.pure rfl) ?_
 refine OpsQ.yes (Want.plain rfl) rfl (OpR.pickT rfl (decide_eq_true c3) rfl) ?_
 refine aB rfl rfl rfl ?_
 refine OpsQ.yes (Want.bool rfl rfl rfl rfl (by rw [(decide_eq_true c4)]; rfl)) rfl (OpR.pure rfl) ?_
 refine OpsQ.yes (Want.bool rfl rfl rfl rfl (by rw [(decide_eq_true c4)]; rfl)) rfl (OpR.pure rfl) ?_
 refine OpsQ.yes (Want.bool rfl rfl rfl rfl (by rw [(decide_eq_true c4)]; rfl)) rfl (OpR.pure rfl) ?_
 refine OpsQ.yes (Want.bool rfl rfl rfl rfl (by rw [(decide_eq_true c4)]; rfl)) rfl (OpR.pure rfl) ?_
 refine OpsQ.yes (Want.bool rfl rfl rfl rfl (by rw [(decide_eq_true c4)]; rfl)) rfl (OpR.pure rfl) ?_
 refine OpsQ.yes (Want.bool rfl rfl rfl rfl (by rw [(decide_eq_true c4)]; rfl)) rfl (OpR.loadPtr 0 rfl rfl rfl rfl) ?_
 refine OpsQ.yes (Want.bool rfl rfl rfl rfl (by rw [(decide_eq_true c4)]; rfl)) rfl (OpR.rowLenM byteD 1 rfl rfl rfl rfl) ?_
 refine OpsQ.yes (Want.bool rfl rfl rfl rfl (by rw [(decide_eq_true c4)]; rfl)) rfl (OpR.pure rfl) ?_
 refine OpsQ.yes (Want.plain rfl) rfl (OpR.pickT rfl (decide_eq_true c4) rfl) ?_
 refine aB rfl rfl rfl ?_
 refine OpsQ.yes (Want.bool rfl rfl rfl rfl (by rw [(decide_eq_true c5)]; rfl)) rfl (OpR.pure rfl) ?_
 refine OpsQ.yes (Want.bool rfl rfl rfl rfl (by rw [(decide_eq_true c5)]; rfl)) rfl (OpR.pure rfl) ?_
 refine OpsQ.yes (Want.bool rfl rfl rfl rfl (by rw [(decide_eq_true c5)]; rfl)) rfl (OpR.pure rfl) ?_
 refine OpsQ.yes (Want.bool rfl rfl rfl rfl (by rw [(decide_eq_true c5)]; rfl)) rfl (OpR.pure rfl) ?_
 refine OpsQ.yes (Want.bool rfl rfl rfl rfl (by rw [(decide_eq_true c5)]; rfl)) rfl (OpR.pure rfl) ?_
 refine OpsQ.yes (Want.bool rfl rfl rfl rfl (by rw [(decide_eq_true c5)]; rfl)) rfl (OpR.loadPtr 0 rfl rfl rfl rfl) ?_
 refine OpsQ.yes (Want.bool rfl rfl rfl rfl (by rw [(decide_eq_true c5)]; rfl)) rfl (OpR.rowLenM byteD 1 rfl rfl rfl rfl) ?_
 refine OpsQ.yes (Want.bool rfl rfl rfl rfl (by rw [(decide_eq_true c5)]; rfl)) rfl (OpR.pure rfl) ?_
 refine OpsQ.yes (Want.bool rfl rfl rfl rfl (by rw [(decide_eq_true c5)]; rfl)) rfl (OpR.pure rfl) ?_
 refine OpsQ.yes (Want.bool rfl rfl rfl rfl (by rw [(decide_eq_true c5)]; rfl)) rfl (OpR.pure rfl) ?_
 refine OpsQ.yes (Want.bool rfl rfl rfl rfl (by rw [(decide_eq_true c5)]; rfl)) rfl (OpR.pure rfl) ?_
 refine OpsQ.yes (Want.plain rfl) rfl (OpR.pickT rfl (decide_eq_true c5) rfl) ?_
 refine aB rfl rfl rfl ?_
 exact OpsQ.nil
noncomputable def arena_Arena_part (a0 : arena_Span) (a1 : List UInt8) : Option ((Int × Int) ⊕ (List UInt8)) :=
  bnd (arena_Arena_Right a0 a1) fun x1 =>
  if x1 = true then
    bnd (cut a1 a0.fAt (w64 (a0.fAt + a0.fN))) fun x4 =>
    some (Sum.inl (a0.fAt, w64 (a0.fAt + a0.fN)))
  else
    some (Sum.inr [])
set_option maxHeartbeats 4000000 in
theorem arena_Arena_part_c {a0 : arena_Span} {a1 : List UInt8} {b0 : Nat} {v1 : Value} {res : (Int × Int) ⊕ (List UInt8)} (h0 : arena_Arena_part a0 a1 = some res) : CallF X 51 [.val (.pointer (some ⟨b0, 0, none⟩)), .agg [.val (.int .i64 a0.fAt), .val (.int .i64 a0.fN)]] [.var b0 [.val v1] 123, .row v1 (List.map byteD a1) 1 5] (fun x => (match res with | .inl res => .val (vw v1 (res.1 : Int).toNat (res.2 : Int).toNat 1) | .inr res => .sl 1 (List.map byteD res))) (fun x => (match res with | .inl res => [.var b0 [.val v1] 123, .row v1 (List.map byteD a1) 1 5] | .inr res => [.var b0 [.val v1] 123, .row v1 (List.map byteD a1) 1 5])) := by
 unfold arena_Arena_part at h0
 refine CallF.mkG (X := X) rfl Try.func51 rfl rfl Try.ntmps51 rfl rfl ?_
 refine aS ?_
 refine TL.op1 (OpR.boxImm rfl rfl) rfl ?_
 refine aA rfl rfl ?_
 refine TL.nil ?_
 show T X _ _ _
 refine T.seq ?_
 refine aS ?_
 iterate 2 refine aA rfl rfl ?_
 obtain ⟨x1, hx1, h0⟩ := bnd_some h0
 refine TL.op1 (OpR.call [0, 1] fn69 (arena_Arena_Right_c hx1) rfl rfl rfl (fun _ => rfl)) rfl ?_
 refine aA rfl rfl ?_
 refine TL.nil ?_
 show T X _ _ _
 rcases ite_some h0 with ⟨c2, h0⟩ | ⟨c2, h0⟩
 rotate_left
 · refine T.condT rfl (not_f (eq_false_of_ne_true c2)) ?_
   refine aS ?_
   refine aA rfl rfl ?_
   refine TL.nil ?_
   show T X _ _ _
   refine T.ret ?_
   obtain rfl := Option.some.inj h0
   exact PostG.retP (ks := [0, 1]) (Gst.trans (Gst.only [4] rfl) (Gst.denil (ReS.cons (Re.base .nil) ReS.nil) (ReO.var (ReL.cons Re.refl ReL.nil) (ReO.same ReO.nil)))) undef (ResL.cons (ResV.tmp rfl) ResL.nil) rfl rfl rfl rfl
 refine T.condF rfl (not_t (c2)) ?_
 refine T.skip ?_
 show T X _ _ _
 refine T.seq ?_
 obtain ⟨x4, hx4, h0⟩ := bnd_some h0
 refine T.drawQ drawsX [.val (.pointer (some ⟨b0, 0, none⟩)), .val (.pointer (some ⟨b0, 0, none⟩)), .val (.pointer (some ⟨b0, 0, none⟩)), .val v1, .nod [.val (.int .i64 a0.fAt), .val (.int .i64 a0.fN)], .val (.int .i64 a0.fAt), .nod [.val (.int .i64 a0.fAt), .val (.int .i64 a0.fN)], .val (.int .i64 a0.fAt), .nod [.val (.int .i64 a0.fN)], .val (.int .i64 a0.fN), .val (.int .i64 (w64 (a0.fAt + a0.fN))), .val (vw v1 (a0.fAt : Int).toNat (w64 (a0.fAt + a0.fN) : Int).toNat 1), .val (vw v1 (a0.fAt : Int).toNat (w64 (a0.fAt + a0.fN) : Int).toNat 1)] [4] (by decide +kernel) rfl ?_ rfl ?_
 rotate_left
 · show T X _ _ _
   refine T.ret ?_
   obtain rfl := Option.some.inj h0
   exact PostG.retP (ks := [0, 1]) (Gst.only [4] rfl) undef (ResL.cons (ResV.tmp rfl) ResL.nil) rfl rfl rfl rfl
 iterate 3 refine aB rfl rfl rfl ?_
 refine OpsQ.yes (Want.plain rfl) rfl (OpR.loadPtr 0 rfl rfl rfl rfl) ?_
 iterate 7 refine aB rfl rfl rfl ?_
 refine OpsQ.yes (Want.plain rfl) rfl (OpR.sliceRowM byteD 1 hx4 rfl rfl rfl rfl rfl rfl (BdM.some rfl) (BdM.some rfl)) ?_
 refine aB rfl rfl rfl ?_
 exact OpsQ.nil
theorem arena_Arena_part_cx1 {a0 : arena_Span} {a1 : List UInt8} {b0 : Nat} {v1 : Value} {res : Int × Int} (h0 : arena_Arena_part a0 a1 = some (Sum.inl res)) : CallF X 51 [.val (.pointer (some ⟨b0, 0, none⟩)), .agg [.val (.int .i64 a0.fAt), .val (.int .i64 a0.fN)]] [.var b0 [.val v1] 123, .row v1 (List.map byteD a1) 1 5] (fun x => .val (vw v1 (res.1 : Int).toNat (res.2 : Int).toNat 1)) (fun x => [.var b0 [.val v1] 123, .row v1 (List.map byteD a1) 1 5]) := arena_Arena_part_c h0
theorem arena_Arena_part_cx2 {a0 : arena_Span} {a1 : List UInt8} {b0 : Nat} {v1 : Value} {res : (List UInt8)} (h0 : arena_Arena_part a0 a1 = some (Sum.inr res)) : CallF X 51 [.val (.pointer (some ⟨b0, 0, none⟩)), .agg [.val (.int .i64 a0.fAt), .val (.int .i64 a0.fN)]] [.var b0 [.val v1] 123, .row v1 (List.map byteD a1) 1 5] (fun x => .sl 1 (List.map byteD res)) (fun x => [.var b0 [.val v1] 123, .row v1 (List.map byteD a1) 1 5]) := arena_Arena_part_c h0
noncomputable def arena_Arena_Bytes (a0 : arena_Span) (a1 : List UInt8) : Option (List UInt8) :=
  bnd (arena_Arena_part a0 a1) fun x1 =>
  match x1 with
  | .inl x1 =>
      bnd (cut a1 x1.1 x1.2) fun x2 =>
      bnd (mkz 1 (x2.length : Int) (0 : UInt8)) fun x3 =>
      some (over x3 x2)
  | .inr x1 =>
      bnd (mkz 1 (x1.length : Int) (0 : UInt8)) fun x5 =>
      some (over x5 x1)
set_option maxHeartbeats 4000000 in
theorem arena_Arena_Bytes_c {a0 : arena_Span} {a1 : List UInt8} {b0 : Nat} {v1 : Value} {res : (List UInt8)} (h0 : arena_Arena_Bytes a0 a1 = some res) : CallF X 21 [.val (.pointer (some ⟨b0, 0, none⟩)), .agg [.val (.int .i64 a0.fAt), .val (.int .i64 a0.fN)]] [.var b0 [.val v1] 123, .row v1 (List.map byteD a1) 1 5] (fun x => .sl 1 (List.map byteD res)) (fun x => [.var b0 [.val v1] 123, .row v1 (List.map byteD a1) 1 5]) := by
 unfold arena_Arena_Bytes at h0
 refine CallF.mkG (X := X) rfl Try.func21 rfl rfl Try.ntmps21 rfl rfl ?_
 refine aS ?_
 refine TL.op1 (OpR.boxImm rfl rfl) rfl ?_
 refine aA rfl rfl ?_
 refine TL.nil ?_
 show T X _ _ _
 refine aS ?_
 iterate 2 refine aA rfl rfl ?_
 obtain ⟨x1, hx1, h0⟩ := bnd_some h0
 rcases x1 with x1 | x1
 rotate_left
 · dsimp only at h0
   refine TL.op1 (OpR.call [0, 1] fn51 (arena_Arena_part_cx2 hx1) rfl rfl rfl (fun _ => rfl)) rfl ?_
   refine aA rfl rfl ?_
   refine TL.nil ?_
   show T X _ _ _
   refine aS ?_
   refine aA rfl rfl ?_
   refine TL.op1 (OpR.cast (OpR.pure rfl) (intE (lenM _ _))) rfl ?_
   obtain ⟨x5, hx5, h0⟩ := bnd_some h0
   refine TL.op (OpR.makeM byteD hx5 rfl rfl rfl rfl rfl rfl rfl rfl rfl rfl rfl (fun _ => rfl)) rfl (fun v6 => ?_)
   refine aA rfl rfl ?_
   refine TL.nil ?_
   show T X _ _ _
   refine aS ?_
   iterate 2 refine aA rfl rfl ?_
   refine TL.op1 (OpR.copyM byteD 2 rfl rfl rfl rfl rfl rfl rfl rfl) rfl ?_
   refine TL.nil ?_
   show T X _ _ _
   refine aS ?_
   iterate 2 refine aA rfl rfl ?_
   refine TL.nil ?_
   show T X _ _ _
   refine T.ret ?_
   obtain rfl := Option.some.inj h0
   exact PostG.retP (ks := [0, 1]) (Gst.trans (Gst.only [4] rfl) (Gst.trans (Gst.freezeRow 2 rfl rfl (ReS.cons (Re.base .all) ReS.nil) (ReO.same (ReO.same (ReO.same ReO.nil)))) (Gst.pick [0, 1] rfl rfl))) undef (ResL.cons (ResV.tmp rfl) ResL.nil) rfl rfl rfl rfl
 dsimp only at h0
 refine TL.op1 (OpR.call [0, 1] fn51 (arena_Arena_part_cx1 hx1) rfl rfl rfl (fun _ => rfl)) rfl ?_
 refine aA rfl rfl ?_
 refine TL.nil ?_
 show T X _ _ _
 refine aS ?_
 refine aA rfl rfl ?_
 obtain ⟨x2, hx2, h0⟩ := bnd_some h0
 refine TL.op1 (OpR.lenF byteD (Src.viewM byteD 1 hx2 rfl rfl) rfl rfl) rfl ?_
 obtain ⟨x3, hx3, h0⟩ := bnd_some h0
 refine TL.op (OpR.makeM byteD hx3 rfl rfl rfl rfl rfl rfl rfl rfl rfl rfl rfl (fun _ => rfl)) rfl (fun v4 => ?_)
 refine aA rfl rfl ?_
 refine TL.nil ?_
 show T X _ _ _
 refine aS ?_
 iterate 2 refine aA rfl rfl ?_
 refine TL.op1 (OpR.copyF byteD 2 (Src.viewM byteD 1 hx2 rfl rfl) rfl rfl rfl rfl rfl rfl rfl) rfl ?_
 refine TL.nil ?_
 show T X _ _ _
 refine aS ?_
 iterate 2 refine aA rfl rfl ?_
 refine TL.nil ?_
 show T X _ _ _
 refine T.ret ?_
 obtain rfl := Option.some.inj h0
 exact PostG.retP (ks := [0, 1]) (Gst.trans (Gst.only [4] rfl) (Gst.trans (Gst.freezeRow 2 rfl rfl (ReS.cons (Re.base .all) ReS.nil) (ReO.same (ReO.same (ReO.same ReO.nil)))) (Gst.pick [0, 1] rfl rfl))) undef (ResL.cons (ResV.tmp rfl) ResL.nil) rfl rfl rfl rfl
noncomputable def piece_Text_Flat.l1 (a0 : piece_Text) (a1 : List UInt8) (s4 : Int × (List UInt8)) : Option (Lp (Int × (List UInt8)) (List UInt8)) :=
  if s4.1 < (a0.fL.length : Int) then
    bnd (idx a0.fL s4.1) fun x13 =>
    bnd (arena_Arena_Bytes x13 a1) fun x15 =>
    bnd (app 1 s4.2 x15) fun x16 =>
    some (Lp.next (w64 (s4.1 + 1), x16))
  else
    some (Lp.done s4.2)
noncomputable def piece_Text_Flat (a0 : piece_Text) (a1 : List UInt8) : Option (List UInt8) :=
  bnd (loop (piece_Text_Flat.l1 a0 a1) (0, []) : Option (List UInt8)) fun t1 =>
  some t1
set_option maxHeartbeats 4000000 in
theorem piece_Text_Flat_c {a0 : piece_Text} {a1 : List UInt8} {b0 : Nat} {v1 : Value} {res : (List UInt8)} (h0 : piece_Text_Flat a0 a1 = some res) : CallF X 50 [.agg [.sl 2 (List.map e_arena_Span a0.fL), .val (.int .i64 a0.fN)], .val (.pointer (some ⟨b0, 0, none⟩))] [.var b0 [.val v1] 123, .row v1 (List.map byteD a1) 1 5] (fun x => .sl 1 (List.map byteD res)) (fun x => [.var b0 [.val v1] 123, .row v1 (List.map byteD a1) 1 5]) := by
 unfold piece_Text_Flat at h0
 refine CallF.mkG (X := X) rfl Try.func50 rfl rfl Try.ntmps50 rfl rfl ?_
 refine aS ?_
 refine TL.op1 (OpR.boxImm rfl rfl) rfl ?_
 refine aA rfl rfl ?_
 refine TL.nil ?_
 show T X _ _ _
 refine aS ?_
 refine aA rfl rfl ?_
 refine TL.nil ?_
 show T X _ _ _
 refine T.seq ?_
 refine aS ?_
 iterate 2 refine aA rfl rfl ?_
 refine TL.op1 (OpR.cast (OpR.pure rfl) (intE (lenM _ _))) rfl ?_
 refine aA rfl rfl ?_
 refine TL.nil ?_
 show T X _ _ _
 obtain ⟨t1, ht1, h0⟩ := bnd_some h0
 refine T.cutC (fun S' => ∃ y2 : Value, S' = ⟨[(5, .val y2), (4, .val (.slice none 0 0))], [.var b0 [.val v1] 123, .row v1 (List.map byteD a1) 1 5, .row y2 (List.map byteD t1) 1 5], 22⟩) (fun _ h => h) ?_ ?_
 rotate_left
 · rintro _ ⟨y2, rfl⟩
   show T X _ _ _
   refine aS ?_
   iterate 2 refine aA rfl rfl ?_
   refine TL.nil ?_
   show T X _ _ _
   refine T.ret ?_
   obtain rfl := Option.some.inj h0
   exact PostG.retP (ks := [0, 1]) (Gst.trans (Gst.only [4] rfl) (Gst.trans (Gst.freezeRow 2 rfl rfl (ReS.cons (Re.base .all) ReS.nil) (ReO.same (ReO.same (ReO.same ReO.nil)))) (Gst.pick [0, 1] rfl rfl))) undef (ResL.cons (ResV.tmp rfl) ResL.nil) rfl rfl rfl rfl
 refine T.block ?_
 obtain ⟨n5, n10⟩ := loop_some ht1
 refine T.loop (fun n S' => ∃ S'', Gst S' S'' ∧ ∃ y3 : Value, ∃ s4 : Int × (List UInt8), S'' = ⟨[(11, .val (.int .i64 s4.1)), (10, .val (.int .i64 (a0.fL.length : Int))), (9, .sl 2 (List.map e_arena_Span a0.fL)), (5, .val y3), (4, .val (.slice none 0 0)), (1, .val (.pointer (some ⟨b0, 0, none⟩)))], [.var b0 [.val v1] 123, .row v1 (List.map byteD a1) 1 5, .row y3 (List.map byteD s4.2) 1 5], 22⟩ ∧ iter (piece_Text_Flat.l1 a0 a1) n s4 = some t1) n5 ?_ ?_
 · exact ⟨_, Gst.trans (Gst.only [1, 4, 5, 9, 10, 11] rfl) (Gst.nilRow (ow := [.var b0 [.val v1] 123, .row v1 (List.map byteD a1) 1 5]) 1 5 rfl), (.slice none 0 0), (0, []), rfl, n10⟩
 rintro n5 _ ⟨_, g, y3, s4, rfl, i9⟩
 refine T.ghost g ?_
 obtain ⟨m6, q7, rfl, q8, i9⟩ := iter_succ i9
 unfold piece_Text_Flat.l1 at q8
 refine aS ?_
 refine aA rfl rfl ?_
 refine TL.nil ?_
 show T X _ _ _
 refine T.seq ?_
 rcases ite_some q8 with ⟨c12, q8⟩ | ⟨c12, q8⟩
 rotate_left
 · refine T.condF rfl (decide_eq_false c12) ?_
   refine T.exit ?_
   obtain rfl := Option.some.inj q8
   obtain rfl : _ = _ := i9
   exact ⟨_, Gst.only [4, 5] rfl, y3, rfl⟩
 refine T.condT rfl (decide_eq_true c12) ?_
 refine T.skip ?_
 show T X _ _ _
 refine T.seq ?_
 refine T.block ?_
 refine aS ?_
 obtain ⟨x13, hx13, q8⟩ := bnd_some q8
 refine TL.op1 (OpR.indexM e_arena_Span hx13 rfl rfl rfl rfl rfl) rfl ?_
 refine aA rfl rfl ?_
 refine TL.op (OpR.alloc rfl rfl (fun _ => rfl)) rfl (fun p14 => ?_)
 refine TL.op0 (OpR.store 3 rfl rfl rfl rfl rfl rfl rfl rfl) ?_
 refine TL.nil ?_
 show T X _ _ _
 refine T.region ?_
 iterate 2 refine aA rfl rfl ?_
 refine TL.op1 (OpR.loadPtr 3 rfl rfl rfl rfl) rfl ?_
 obtain ⟨x15, hx15, q8⟩ := bnd_some q8
 refine TL.op1 (OpR.call [0, 1] fn21 (arena_Arena_Bytes_c hx15) rfl rfl rfl (fun _ => rfl)) rfl ?_
 obtain ⟨x16, hx16, q8⟩ := bnd_some q8
 refine TL.op (OpR.appendM (m := x15) byteD 2 hx16 rfl rfl rfl rfl rfl rfl rfl rfl rfl (fun _ => rfl)) rfl (fun v17 => ?_)
 refine aA rfl rfl ?_
 refine TL.nil ?_
 show T X _ _ _
 refine T.region ?_
 iterate 2 refine aA rfl rfl ?_
 refine TL.nil ?_
 obtain rfl := Option.some.inj q8
 exact ⟨m6, Nat.lt_succ_self _, _, Gst.trans (Gst.only [1, 4, 5, 9, 10, 11] rfl) (Gst.pick [0, 1, 2] rfl rfl), v17, (w64 (s4.1 + 1), x16), rfl, i9⟩
noncomputable def cell_Cell_Bytes (a0 : cell_Cell) (a1 : List UInt8) : Option (List UInt8) :=
  bnd (piece_Text_Flat a0.fText a1) fun x1 =>
  some x1
set_option maxHeartbeats 4000000 in
theorem cell_Cell_Bytes_c {a0 : cell_Cell} {a1 : List UInt8} {b0 : Nat} {v1 : Value} {res : (List UInt8)} (h0 : cell_Cell_Bytes a0 a1 = some res) : CallF X 20 [.agg [.sl 2 (List.map e_arena_Span a0.fText.fL), .val (.int .i64 a0.fText.fN), .val (.int .i64 a0.fRaw.fAt), .val (.int .i64 a0.fRaw.fN), .val (.bool a0.fKept)], .val (.pointer (some ⟨b0, 0, none⟩))] [.var b0 [.val v1] 123, .row v1 (List.map byteD a1) 1 5] (fun x => .sl 1 (List.map byteD res)) (fun x => [.var b0 [.val v1] 123, .row v1 (List.map byteD a1) 1 5]) := by
 unfold cell_Cell_Bytes at h0
 refine CallF.mkG (X := X) rfl Try.func20 rfl rfl Try.ntmps20 rfl rfl ?_
 refine aS ?_
 refine TL.op1 (OpR.boxImm rfl rfl) rfl ?_
 refine aA rfl rfl ?_
 refine TL.nil ?_
 show T X _ _ _
 refine aS ?_
 iterate 3 refine aA rfl rfl ?_
 obtain ⟨x1, hx1, h0⟩ := bnd_some h0
 refine TL.op1 (OpR.call [0, 1] fn50 (piece_Text_Flat_c hx1) rfl rfl rfl (fun _ => rfl)) rfl ?_
 refine aA rfl rfl ?_
 refine TL.nil ?_
 show T X _ _ _
 refine T.ret ?_
 obtain rfl := Option.some.inj h0
 exact PostG.retP (ks := [0, 1]) (Gst.only [4] rfl) undef (ResL.cons (ResV.tmp rfl) ResL.nil) rfl rfl rfl rfl
noncomputable def law07_Plain (a0 : cell_Cell) (a1 : List UInt8) : Option ref07_Cell :=
  bnd (cell_Cell_Bytes a0 a1) fun x3 =>
  bnd (if a0.fKept = true then
    bnd (arena_Arena_Bytes a0.fRaw a1) fun x6 =>
    some x6
  else
    some [] : Option (List UInt8)) fun t4 =>
  some (⟨x3, t4, a0.fKept⟩ : ref07_Cell)
set_option maxHeartbeats 4000000 in
theorem law07_Plain_c {a0 : cell_Cell} {a1 : List UInt8} {b0 : Nat} {v1 : Value} {res : ref07_Cell} (h0 : law07_Plain a0 a1 = some res) : CallF X 9 [.val (.pointer (some ⟨b0, 0, none⟩)), .agg [.sl 2 (List.map e_arena_Span a0.fText.fL), .val (.int .i64 a0.fText.fN), .val (.int .i64 a0.fRaw.fAt), .val (.int .i64 a0.fRaw.fN), .val (.bool a0.fKept)]] [.var b0 [.val v1] 123, .row v1 (List.map byteD a1) 1 5] (fun x => .agg [.val (.string (bs res.fS)), .val (.string (bs res.fRaw)), .val (.bool res.fKept)]) (fun x => [.var b0 [.val v1] 123, .row v1 (List.map byteD a1) 1 5]) := by
 unfold law07_Plain at h0
 refine CallF.mkG (X := X) rfl Try.func9 rfl rfl Try.ntmps9 rfl rfl ?_
 refine aS ?_
 refine TL.op1 (OpR.boxImm rfl rfl) rfl ?_
 refine TL.op (OpR.alloc rfl rfl (fun _ => rfl)) rfl (fun p1 => ?_)
 refine TL.nil ?_
 show T X _ _ _
 refine T.seq ?_
 obtain ⟨x3, hx3, h0⟩ := bnd_some h0
 refine T.drawS drawsX (fun env2 => [.agg [.sl 2 (List.map e_arena_Span a0.fText.fL), .val (.int .i64 a0.fText.fN), .val (.int .i64 a0.fRaw.fAt), .val (.int .i64 a0.fRaw.fN), .val (.bool a0.fKept)], .val (.pointer (some ⟨b0, 0, none⟩)), .sl 1 (List.map byteD x3), .val (.string (bs x3)), .nod [.val (.bool a0.fKept)], .val (.bool a0.fKept), .agg [.val (.string (bs x3)), .val (.string (bs [])), .val (.bool a0.fKept)], .val (.pointer (some ⟨(blk (env2 7)), 0, none⟩)), .dead]) (fun D env2 => [.var b0 [.val v1] 123, .row v1 (List.map byteD a1) 1 5, .var (blk p1) [.val (.string (bs [])), .val (.string (bs [])), .val (.bool false)] 40] ++ (bif D 7 then [(bif D 8 then .var (blk (env2 7)) [.val (.string (bs x3)), .val (.string (bs [])), .val (.bool a0.fKept)] 40 else .var (blk (env2 7)) [.val (.string (bs [])), .val (.string (bs [])), .val (.bool false)] 40)] else [])) [0, 0, 3, 7, 0, 16, 63, 0, 255] [0, 3, 4, 5] (fun env2 => [.var b0 [.val v1] 123, .row v1 (List.map byteD a1) 1 5, .var (blk p1) [.val (.string (bs [])), .val (.string (bs [])), .val (.bool false)] 40, .var (blk (env2 7)) [.val (.string (bs x3)), .val (.string (bs [])), .val (.bool a0.fKept)] 40]) (by decide +kernel) (by decide +kernel) (fun _ => rfl) (fun _ => rfl) ?_ (fun _ => rfl) (fun _ => rfl) ?_
 rotate_left
 · intro env2
   show T X _ _ _
   refine T.seq ?_
   refine aS ?_
   iterate 2 refine aA rfl rfl ?_
   refine TL.nil ?_
   show T X _ _ _
   obtain ⟨t4, ht4, h0⟩ := bnd_some h0
   refine T.cutC (fun S' => S' = ⟨[(5, .val (.pointer (some ⟨(blk (env2 7)), 0, none⟩))), (4, .val (.pointer (some ⟨(blk p1), 0, none⟩)))], [.var b0 [.val v1] 123, .row v1 (List.map byteD a1) 1 5, .var (blk p1) [.val (.string (bs [])), .val (.string (bs [])), .val (.bool false)] 40, .var (blk (env2 7)) [.val (.string (bs x3)), .val (.string (bs t4)), .val (.bool a0.fKept)] 40], 22⟩) (fun _ h => h) ?_ ?_
   rotate_left
   · rintro _ rfl
     show T X _ _ _
     refine aS ?_
     refine TL.op1 (OpR.loadPtr 3 rfl rfl rfl rfl) rfl ?_
     refine TL.op0 (OpR.store 2 rfl rfl rfl rfl rfl rfl rfl rfl) ?_
     refine TL.nil ?_
     show T X _ _ _
     refine T.ret ?_
     obtain rfl := Option.some.inj h0
     exact PostG.retP (ks := [0, 1]) (Gst.trans (Gst.only [4] rfl) (Gst.pick [0, 1, 2] rfl rfl)) undef (ResL.cons (ResV.var 2 rfl rfl rfl rfl) ResL.nil) rfl rfl rfl rfl
   rcases ite_some ht4 with ⟨c5, ht4⟩ | ⟨c5, ht4⟩
   rotate_left
   · refine T.condF rfl (eq_false_of_ne_true c5) ?_
     refine T.skip ?_
     obtain rfl := Option.some.inj ht4
     exact ⟨_, Gst.only [4, 5] rfl, rfl⟩
   refine T.condT rfl (c5) ?_
   refine T.region ?_
   iterate 3 refine aA rfl rfl ?_
   obtain ⟨x6, hx6, ht4⟩ := bnd_some ht4
   refine TL.op1 (OpR.call [0, 1] fn21 (arena_Arena_Bytes_c hx6) rfl rfl rfl (fun _ => rfl)) rfl ?_
   refine TL.op1 (OpR.toStr (bs := x6) rfl rfl rfl rfl rfl rfl rfl) rfl ?_
   refine aA rfl rfl ?_
   refine TL.op0 (OpR.store 3 rfl rfl rfl rfl rfl rfl rfl rfl) ?_
   refine TL.nil ?_
   obtain rfl := Option.some.inj ht4
   exact ⟨_, Gst.only [4, 5] rfl, rfl⟩
 iterate 2 refine aC ?_
 refine OpsS.cons' true ?_ (fun _ _ _ _ _ _ _ => rfl) ?_
 · intro D env2 hA
   have e8 : D 8 = false := hA.no 8 _ rfl rfl
   rcases Bool.eq_false_or_eq_true (D 7) with e7 | e7
   rotate_left
   · exact OpS.yes (o0 := [.var b0 [.val v1] 123, .row v1 (List.map byteD a1) 1 5, .var (blk p1) [.val (.string (bs [])), .val (.string (bs [])), .val (.bool false)] 40]) (o1 := fun x => [.var b0 [.val v1] 123, .row v1 (List.map byteD a1) 1 5, .var (blk p1) [.val (.string (bs [])), .val (.string (bs [])), .val (.bool false)] 40]) (d := fun x => .sl 1 (List.map byteD x3)) (Want.plain rfl) (by first | rfl | simp only [e8, e7, cond_true, cond_false, List.cons_append, List.nil_append, List.append_nil]) (fun x => by first | rfl | simp only [ins_self, ins_ne D (show 2 ≠ 7 by decide), ins_ne D (show 2 ≠ 8 by decide), upd_self, upd_ne env2 x (show 2 ≠ 7 by decide), e8, e7, cond_true, cond_false, List.cons_append, List.nil_append, List.append_nil]) (fun x => rfl) (OpR.call [0, 1] fn20 (cell_Cell_Bytes_c hx3) rfl rfl rfl (fun _ => rfl))
   exact OpS.yes (o0 := [.var b0 [.val v1] 123, .row v1 (List.map byteD a1) 1 5, .var (blk p1) [.val (.string (bs [])), .val (.string (bs [])), .val (.bool false)] 40, .var (blk (env2 7)) [.val (.string (bs [])), .val (.string (bs [])), .val (.bool false)] 40]) (o1 := fun x => [.var b0 [.val v1] 123, .row v1 (List.map byteD a1) 1 5, .var (blk p1) [.val (.string (bs [])), .val (.string (bs [])), .val (.bool false)] 40, .var (blk (env2 7)) [.val (.string (bs [])), .val (.string (bs [])), .val (.bool false)] 40]) (d := fun x => .sl 1 (List.map byteD x3)) (Want.plain rfl) (by first | rfl | simp only [e8, e7, cond_true, cond_false, List.cons_append, List.nil_append, List.append_nil]) (fun x => by first | rfl | simp only [ins_self, ins_ne D (show 2 ≠ 7 by decide), ins_ne D (show 2 ≠ 8 by decide), upd_self, upd_ne env2 x (show 2 ≠ 7 by decide), e8, e7, cond_true, cond_false, List.cons_append, List.nil_append, List.append_nil]) (fun x => rfl) (OpR.call [0, 1] fn20 (cell_Cell_Bytes_c hx3) rfl rfl rfl (fun _ => rfl))
 refine oS (d := .val (.string (bs x3))) (fun _ => Want.plain rfl) (fun _ => rfl) (fun _ _ _ => rfl) (fun _ _ => OpR.toStr (bs := x3) rfl rfl rfl rfl rfl rfl rfl) (fun _ _ _ _ _ _ _ => rfl) ?_
 iterate 2 refine aC ?_
 refine oS (d := .agg [.val (.string (bs x3)), .val (.string (bs [])), .val (.bool a0.fKept)]) (fun _ => Want.plain rfl) (fun _ => rfl) (fun _ _ _ => rfl) (fun _ _ => OpR.build rfl rfl rfl rfl rfl) (fun _ _ _ _ _ _ _ => rfl) ?_
 refine OpsS.cons' true ?_ (fun D hA env2 x j hj hD => match j, hj, hD with | 0, _, _ => rfl | 1, _, _ => rfl | 2, _, _ => rfl | 3, _, _ => rfl | 4, _, _ => rfl | 5, _, _ => rfl | 6, _, _ => rfl | 7, hj, _ => absurd rfl hj | 8, _, _ => rfl | _ + 9, _, _ => rfl) ?_
 · intro D env2 hA
   have e8 : D 8 = false := hA.no 8 _ rfl rfl
   exact OpS.yes (o0 := [.var b0 [.val v1] 123, .row v1 (List.map byteD a1) 1 5, .var (blk p1) [.val (.string (bs [])), .val (.string (bs [])), .val (.bool false)] 40]) (o1 := fun x => [.var b0 [.val v1] 123, .row v1 (List.map byteD a1) 1 5, .var (blk p1) [.val (.string (bs [])), .val (.string (bs [])), .val (.bool false)] 40, .var (blk x) [.val (.string (bs [])), .val (.string (bs [])), .val (.bool false)] 40]) (d := fun x => .val (.pointer (some ⟨(blk x), 0, none⟩))) (Want.plain rfl) (by first | rfl | simp only [e8, hA.me, cond_true, cond_false, List.cons_append, List.nil_append, List.append_nil]) (fun x => by first | rfl | simp only [ins_self, ins_ne D (show 7 ≠ 8 by decide), upd_self, e8, hA.me, cond_true, cond_false, List.cons_append, List.nil_append, List.append_nil]) (fun x => rfl) (OpR.alloc rfl rfl (fun _ => rfl))
 refine OpsS.cons' true ?_ (fun _ _ _ _ _ _ _ => rfl) ?_
 · intro D env2 hA
   have e7 : D 7 = true := hA.yes 7 _ rfl rfl
   exact OpS.yes (o0 := [.var b0 [.val v1] 123, .row v1 (List.map byteD a1) 1 5, .var (blk p1) [.val (.string (bs [])), .val (.string (bs [])), .val (.bool false)] 40, .var (blk (env2 7)) [.val (.string (bs [])), .val (.string (bs [])), .val (.bool false)] 40]) (o1 := fun x => [.var b0 [.val v1] 123, .row v1 (List.map byteD a1) 1 5, .var (blk p1) [.val (.string (bs [])), .val (.string (bs [])), .val (.bool false)] 40, .var (blk (env2 7)) [.val (.string (bs x3)), .val (.string (bs [])), .val (.bool a0.fKept)] 40]) (d := fun x => .dead) (Want.plain rfl) (by first | rfl | simp only [e7, hA.me, cond_true, cond_false, List.cons_append, List.nil_append, List.append_nil]) (fun x => by first | rfl | simp only [ins_self, ins_ne D (show 8 ≠ 7 by decide), upd_self, upd_ne env2 x (show 8 ≠ 7 by decide), e7, hA.me, cond_true, cond_false, List.cons_append, List.nil_append, List.append_nil]) (fun x => rfl) (OpR.store 3 rfl rfl rfl rfl rfl rfl rfl rfl)
 exact trivial
noncomputable def row_Row_Len (a0 : row_Row) : Option Int :=
  some (a0.fCells.length : Int)
set_option maxHeartbeats 4000000 in
theorem row_Row_Len_c {a0 : row_Row} {res : Int} (h0 : row_Row_Len a0 = some res) : CallF X 33 [.agg [.sl 5 (List.map e_cell_Cell a0.fCells), .val (.int .i64 a0.fEnd), .val (.bool a0.fHidden)]] [] (fun x => .val (.int .i64 res)) (fun x => []) := by
 unfold row_Row_Len at h0
 refine CallF.mkG (X := X) rfl Try.func33 rfl rfl Try.ntmps33 rfl rfl ?_
 refine aS ?_
 refine TL.op1 (OpR.boxImm rfl rfl) rfl ?_
 refine aA rfl rfl ?_
 refine TL.nil ?_
 show T X _ _ _
 refine aS ?_
 iterate 2 refine aA rfl rfl ?_
 refine TL.op1 (OpR.cast (OpR.pure rfl) (intE (lenM _ _))) rfl ?_
 refine aA rfl rfl ?_
 refine TL.nil ?_
 show T X _ _ _
 refine T.ret ?_
 obtain rfl := Option.some.inj h0
 exact PostG.retP (ks := []) (Gst.only [2] rfl) undef (ResL.cons (ResV.tmp rfl) ResL.nil) rfl rfl rfl rfl
noncomputable def grid_Grid_Width_r0 (a0 : Int) (a1 : row_Row) (a2 : Int) : Option Int :=
  bnd (row_Row_Len a1) fun x33 =>
  some (if x33 > a2 then x33 else a2)
set_option maxHeartbeats 4000000 in
theorem grid_Grid_Width_r0_c {a0 : Int} {a1 : row_Row} {a2 : Int} {b0 : Nat} {b1 : Nat} {res : Int} (h0 : grid_Grid_Width_r0 a0 a1 a2 = some res) : RoundF X b0 [.val (.int .i64 a0), .agg [.sl 5 (List.map e_cell_Cell a1.fCells), .val (.int .i64 a1.fEnd), .val (.bool a1.fHidden)]] [.lp b0 .ready none [11, 12] rfA30_0 rfB30_0 [(3, .val (.pointer (some ⟨b1, 0, none⟩)))] 18, .var b1 [.val (.int .i64 a2)] 3] (fun x => .val (.bool true)) (fun x => [.lp b0 .ready none [11, 12] rfA30_0 rfB30_0 [(3, .val (.pointer (some ⟨b1, 0, none⟩)))] 18, .var b1 [.val (.int .i64 res)] 3]) := by
 unfold grid_Grid_Width_r0 at h0
 refine RoundF.mk (X := X) rfl rfl rfl ?_
 refine T.region ?_
 refine TL.op (OpR.alloc rfl rfl (fun _ => rfl)) rfl (fun p31 => ?_)
 refine TL.op0 (OpR.store 2 rfl rfl rfl rfl rfl rfl rfl rfl) ?_
 refine TL.nil ?_
 refine RoundA.mk ?_
 refine T.block ?_
 obtain ⟨x33, hx33, h0⟩ := bnd_some h0
 refine T.drawS drawsX (fun env32 => [.val (.int .i64 a2), .agg [.sl 5 (List.map e_cell_Cell a1.fCells), .val (.int .i64 a1.fEnd), .val (.bool a1.fHidden)], .val (.int .i64 x33), .val (.int .i64 (if x33 > a2 then x33 else a2)), .dead]) (fun D env32 => [.lp b0 .busy none [11, 12] rfA30_0 rfB30_0 [(3, .val (.pointer (some ⟨b1, 0, none⟩)))] 18, (bif D 4 then .var b1 [.val (.int .i64 (if x33 > a2 then x33 else a2))] 3 else .var b1 [.val (.int .i64 a2)] 3), .var (blk p31) [.sl 5 (List.map e_cell_Cell a1.fCells), .val (.int .i64 a1.fEnd), .val (.bool a1.fHidden)] 68]) [0, 0, 2, 7, 15] [] (fun env32 => [.lp b0 .busy none [11, 12] rfA30_0 rfB30_0 [(3, .val (.pointer (some ⟨b1, 0, none⟩)))] 18, .var b1 [.val (.int .i64 (if x33 > a2 then x33 else a2))] 3, .var (blk p31) [.sl 5 (List.map e_cell_Cell a1.fCells), .val (.int .i64 a1.fEnd), .val (.bool a1.fHidden)] 68]) (by decide +kernel) (by decide +kernel) (fun _ => rfl) (fun _ => rfl) ?_ (fun _ => rfl) (fun _ => rfl) ?_
 rotate_left
 · intro env32
   obtain rfl := Option.some.inj h0
   exact RoundG.mk (ks := [0, 1]) (Gst.trans (Gst.only [] rfl) (Gst.pick [0, 1] rfl rfl)) undef rfl rfl rfl rfl rfl
 refine OpsS.cons' true ?_ (fun _ _ _ _ _ _ _ => rfl) ?_
 · intro D env32 hA
   have e4 : D 4 = false := hA.no 4 _ rfl rfl
   exact OpS.yes (o0 := [.lp b0 .busy none [11, 12] rfA30_0 rfB30_0 [(3, .val (.pointer (some ⟨b1, 0, none⟩)))] 18, .var b1 [.val (.int .i64 a2)] 3, .var (blk p31) [.sl 5 (List.map e_cell_Cell a1.fCells), .val (.int .i64 a1.fEnd), .val (.bool a1.fHidden)] 68]) (o1 := fun x => [.lp b0 .busy none [11, 12] rfA30_0 rfB30_0 [(3, .val (.pointer (some ⟨b1, 0, none⟩)))] 18, .var b1 [.val (.int .i64 a2)] 3, .var (blk p31) [.sl 5 (List.map e_cell_Cell a1.fCells), .val (.int .i64 a1.fEnd), .val (.bool a1.fHidden)] 68]) (d := fun x => .val (.int .i64 a2)) (Want.plain rfl) (by first | rfl | simp only [e4, cond_true, cond_false, List.cons_append, List.nil_append, List.append_nil]) (fun x => by first | rfl | simp only [ins_self, ins_ne D (show 0 ≠ 4 by decide), upd_self, e4, cond_true, cond_false, List.cons_append, List.nil_append, List.append_nil]) (fun x => rfl) (OpR.loadPtr 1 rfl rfl rfl rfl)
 refine oS (d := .agg [.sl 5 (List.map e_cell_Cell a1.fCells), .val (.int .i64 a1.fEnd), .val (.bool a1.fHidden)]) (fun _ => Want.plain rfl) (fun _ => rfl) (fun _ _ _ => rfl) (fun _ _ => OpR.loadPtr 2 rfl rfl rfl rfl) (fun _ _ _ _ _ _ _ => rfl) ?_
 refine oS (d := .val (.int .i64 x33)) (fun _ => Want.plain rfl) (fun _ => rfl) (fun _ _ _ => rfl) (fun _ _ => OpR.call0 fn33 (row_Row_Len_c hx33) rfl) (fun _ _ _ _ _ _ _ => rfl) ?_
 refine aC ?_
 refine OpsS.cons' true ?_ (fun _ _ _ _ _ _ _ => rfl) ?_
 · intro D env32 hA
   exact OpS.yes (o0 := [.lp b0 .busy none [11, 12] rfA30_0 rfB30_0 [(3, .val (.pointer (some ⟨b1, 0, none⟩)))] 18, .var b1 [.val (.int .i64 a2)] 3, .var (blk p31) [.sl 5 (List.map e_cell_Cell a1.fCells), .val (.int .i64 a1.fEnd), .val (.bool a1.fHidden)] 68]) (o1 := fun x => [.lp b0 .busy none [11, 12] rfA30_0 rfB30_0 [(3, .val (.pointer (some ⟨b1, 0, none⟩)))] 18, .var b1 [.val (.int .i64 (if x33 > a2 then x33 else a2))] 3, .var (blk p31) [.sl 5 (List.map e_cell_Cell a1.fCells), .val (.int .i64 a1.fEnd), .val (.bool a1.fHidden)] 68]) (d := fun x => .dead) (Want.plain rfl) (by first | rfl | simp only [hA.me, cond_true, cond_false, List.cons_append, List.nil_append, List.append_nil]) (fun x => by first | rfl | simp only [ins_self, upd_self, hA.me, cond_true, cond_false, List.cons_append, List.nil_append, List.append_nil]) (fun x => rfl) (OpR.store 1 rfl rfl rfl rfl rfl rfl rfl rfl)
 exact trivial
noncomputable def walk_Range_row_Row_1.l1 (a1 : Int) (s8 : Int × Int × (List walk_frame_damier_row_Row)) : Option (Lp (Int × Int × (List walk_frame_damier_row_Row)) Int) :=
  if s8.1 < a1 then
    bnd (walk_stack_row_Row_top s8.2.2) fun x17 =>
    bnd (idx s8.2.2 x17) fun x18 =>
    bnd (some x18.fN) fun q19 => match q19 with
      | none =>
        none
      | some z20 =>
        bnd (o_tree_Node_damier_row_Row z20) fun x22 =>
        bnd (if x18.fNext = (x22.fItems.length : Int) then
          bnd (walk_stack_row_Row_forth s8.2.2) fun x27 =>
          some x27.2
        else
          some s8.2.2 : Option (List walk_frame_damier_row_Row)) fun t24 =>
        bnd (walk_stack_row_Row_top t24) fun x29 =>
        bnd (idx t24 x29) fun x30 =>
        bnd (some x30.fN) fun q31 => match q31 with
          | none =>
            none
          | some z32 =>
            bnd (o_tree_Node_damier_row_Row z32) fun x34 =>
            bnd (idx x34.fItems x30.fNext) fun x36 =>
            bnd (grid_Grid_Width_r0 s8.1 x36 s8.2.1) fun x37 =>
            some (Lp.next (w64 (s8.1 + 1), x37, (t24.set x29.toNat (⟨x30.fN, x30.fFirst, w64 (x30.fNext + 1)⟩ : walk_frame_damier_row_Row))))
  else
    some (Lp.done s8.2.1)
noncomputable def walk_Range_row_Row_1 (a0 : Int) (a1 : Int) (a2 : Option NP) (a3 : Int) : Option Int :=
  if a0 = a1 then
    some a3
  else
    bnd (tree_Tree_row_Row_Root (⟨a2⟩ : tree_Tree_damier_row_Row)) fun x4 =>
    match x4 with
    | .inl x4 =>
        none
    | .inr x4 =>
        bnd (walk_stack_row_Row_down x4.1 x4.2.1 x4.2.2 0 a0) fun x5 =>
        bnd (loop (walk_Range_row_Row_1.l1 a1) (a0, a3, x5) : Option Int) fun t6 =>
        some t6
set_option maxHeartbeats 4000000 in
theorem walk_Range_row_Row_1_c {a0 : Int} {a1 : Int} {a2 : Option NP} {a3 : Int} {b0 : Nat} {b1 : Nat} {b2 : Nat} {b3 : Nat} {b4 : Nat} {res : Int} (h0 : walk_Range_row_Row_1 a0 a1 a2 a3 = some res) : CallF X 44 [.fn (.yield b0) [] [], .val (.pointer (some ⟨b1, 0, none⟩)), .val (.pointer (some ⟨b2, 0, none⟩)), .val (.pointer (some ⟨b3, 0, none⟩))] [.lp b0 .ready none [11, 12] rfA30_0 rfB30_0 [(3, .val (.pointer (some ⟨b4, 0, none⟩)))] 18, .var b1 [.val (.int .i64 a0)] 3, .var b2 [.val (.int .i64 a1)] 3, .var b3 [(eOP a2)] 24, .var b4 [.val (.int .i64 a3)] 3] (fun x => .tup []) (fun x => [.lp b0 .ready none [11, 12] rfA30_0 rfB30_0 [(3, .val (.pointer (some ⟨b4, 0, none⟩)))] 18, .var b1 [.val (.int .i64 a0)] 3, .var b2 [.val (.int .i64 a1)] 3, .var b3 [(eOP a2)] 24, .var b4 [.val (.int .i64 res)] 3]) := by
 unfold walk_Range_row_Row_1 at h0
 refine CallF.mkG (X := X) rfl Try.func44 rfl rfl Try.ntmps44 rfl rfl ?_
 refine T.seq ?_
 refine aS ?_
 refine TL.op1 (OpR.loadPtr 1 rfl rfl rfl rfl) rfl ?_
 refine TL.op1 (OpR.loadPtr 2 rfl rfl rfl rfl) rfl ?_
 refine aA rfl rfl ?_
 refine TL.nil ?_
 show T X _ _ _
 rcases ite_some h0 with ⟨c1, h0⟩ | ⟨c1, h0⟩
 · refine T.condT rfl (beq_iff_eq.2 c1) ?_
   refine T.ret ?_
   obtain rfl := Option.some.inj h0
   exact PostG.retP (ks := [0, 1, 2, 3, 4]) (Gst.only [] rfl) undef ResL.nil rfl rfl rfl rfl
 refine T.condF rfl (beq_eq_false_iff_ne.2 c1) ?_
 refine T.skip ?_
 show T X _ _ _
 refine aS ?_
 refine TL.op (OpR.alloc rfl rfl (fun _ => rfl)) rfl (fun p2 => ?_)
 refine TL.nil ?_
 show T X _ _ _
 refine T.seq ?_
 obtain ⟨x4, hx4, h0⟩ := bnd_some h0
 rcases x4 with x4 | x4
 · dsimp only at h0
   exact (by cases h0)
 dsimp only at h0
 obtain ⟨x5, hx5, h0⟩ := bnd_some h0
 refine T.drawS drawsX (fun env3 => [.agg [(eOP a2)], .nod [.sl 1 (List.map eNP x4.1), .sl 3 (List.map e_row_Row x4.2.1), .val (.int .i64 x4.2.2)], .val (.int .i64 a0), .tup []]) (fun D env3 => [.lp b0 .ready none [11, 12] rfA30_0 rfB30_0 [(3, .val (.pointer (some ⟨b4, 0, none⟩)))] 18, .var b1 [.val (.int .i64 a0)] 3, .var b2 [.val (.int .i64 a1)] 3, .var b3 [(eOP a2)] 24, .var b4 [.val (.int .i64 a3)] 3, (bif D 3 then .var (blk p2) [.val (vn (env3 3) 0)] 111 else .var (blk p2) [.val (.slice none 0 0)] 111)] ++ (bif D 3 then [.row (vn (env3 3) 0) (List.map e_walk_frame_damier_row_Row x5) 3 117] else [])) [0, 1, 0, 7] [0, 1, 2, 5] (fun env3 => [.lp b0 .ready none [11, 12] rfA30_0 rfB30_0 [(3, .val (.pointer (some ⟨b4, 0, none⟩)))] 18, .var b1 [.val (.int .i64 a0)] 3, .var b2 [.val (.int .i64 a1)] 3, .var b3 [(eOP a2)] 24, .var b4 [.val (.int .i64 a3)] 3, .var (blk p2) [.val (vn (env3 3) 0)] 111, .row (vn (env3 3) 0) (List.map e_walk_frame_damier_row_Row x5) 3 117]) (by decide +kernel) (by decide +kernel) (fun _ => rfl) (fun _ => rfl) ?_ (fun _ => rfl) (fun _ => rfl) ?_
 · refine oS (d := .agg [(eOP a2)]) (fun _ => Want.plain rfl) (fun _ => rfl) (fun _ _ _ => rfl) (fun _ _ => OpR.loadPtr 3 rfl rfl rfl rfl) (fun _ _ _ _ _ _ _ => rfl) ?_
   refine oS (d := .nod [.sl 1 (List.map eNP x4.1), .sl 3 (List.map e_row_Row x4.2.1), .val (.int .i64 x4.2.2)]) (fun _ => Want.plain rfl) (fun _ => rfl) (fun _ _ _ => rfl) (fun _ _ => OpR.call0 fn46 (tree_Tree_row_Row_Root_cx2 hx4) rfl) (fun _ _ _ _ _ _ _ => rfl) ?_
   refine oS (d := .val (.int .i64 a0)) (fun _ => Want.plain rfl) (fun _ => rfl) (fun _ _ _ => rfl) (fun _ _ => OpR.loadPtr 1 rfl rfl rfl rfl) (fun _ _ _ _ _ _ _ => rfl) ?_
   refine OpsS.cons' true ?_ (fun D hA env3 x j hj hD => match j, hj, hD with | 0, _, _ => rfl | 1, _, _ => rfl | 2, _, _ => rfl | 3, hj, _ => absurd rfl hj | _ + 4, _, _ => rfl) ?_
   · intro D env3 hA
     exact OpS.yes (o0 := [.lp b0 .ready none [11, 12] rfA30_0 rfB30_0 [(3, .val (.pointer (some ⟨b4, 0, none⟩)))] 18, .var b1 [.val (.int .i64 a0)] 3, .var b2 [.val (.int .i64 a1)] 3, .var b3 [(eOP a2)] 24, .var b4 [.val (.int .i64 a3)] 3, .var (blk p2) [.val (.slice none 0 0)] 111]) (o1 := fun x => [.lp b0 .ready none [11, 12] rfA30_0 rfB30_0 [(3, .val (.pointer (some ⟨b4, 0, none⟩)))] 18, .var b1 [.val (.int .i64 a0)] 3, .var b2 [.val (.int .i64 a1)] 3, .var b3 [(eOP a2)] 24, .var b4 [.val (.int .i64 a3)] 3, .var (blk p2) [.val (vn x 0)] 111, .row (vn x 0) (List.map e_walk_frame_damier_row_Row x5) 3 117]) (d := fun x => .tup []) (Want.plain rfl) (by first | rfl | simp only [hA.me, cond_true, cond_false, List.cons_append, List.nil_append, List.append_nil]) (fun x => by first | rfl | simp only [ins_self, upd_self, hA.me, cond_true, cond_false, List.cons_append, List.nil_append, List.append_nil]) (fun x => rfl) (OpR.call [5] fn45 (walk_stack_row_Row_down_c hx5) rfl rfl rfl (fun _ => rfl))
   exact trivial
 intro env3
 show T X _ _ _
 refine aS ?_
 refine TL.op1 (OpR.loadPtr 1 rfl rfl rfl rfl) rfl ?_
 refine aA rfl rfl ?_
 refine TL.nil ?_
 show T X _ _ _
 obtain ⟨t6, ht6, h0⟩ := bnd_some h0
 refine T.cutN (fun S' => S' = ⟨[], [.lp b0 .ready none [11, 12] rfA30_0 rfB30_0 [(3, .val (.pointer (some ⟨b4, 0, none⟩)))] 18, .var b1 [.val (.int .i64 a0)] 3, .var b2 [.val (.int .i64 a1)] 3, .var b3 [(eOP a2)] 24, .var b4 [.val (.int .i64 t6)] 3], 62⟩) (fun _ _ g ⟨h, S', ds, g', r⟩ => ⟨h, S', ds, Gst.trans g g', r⟩) ?_ ?_
 rotate_left
 · rintro _ rfl
   obtain rfl := Option.some.inj h0
   exact PostG.finP (ks := [0, 1, 2, 3, 4]) (Gst.only [] rfl) undef ResL.nil rfl rfl rfl rfl
 refine T.block ?_
 obtain ⟨n9, n14⟩ := loop_some ht6
 refine T.loop (fun n S' => ∃ S'', Gst S' S'' ∧ ∃ y7 : Value, ∃ s8 : Int × Int × (List walk_frame_damier_row_Row), S'' = ⟨[(6, .val (.int .i64 s8.1)), (5, .val (.pointer (some ⟨(blk p2), 0, none⟩))), (2, .val (.pointer (some ⟨b2, 0, none⟩))), (0, .fn (.yield b0) [] [])], [.lp b0 .ready none [11, 12] rfA30_0 rfB30_0 [(3, .val (.pointer (some ⟨b4, 0, none⟩)))] 18, .var b1 [.val (.int .i64 a0)] 3, .var b2 [.val (.int .i64 a1)] 3, .var b3 [(eOP a2)] 24, .var b4 [.val (.int .i64 s8.2.1)] 3, .var (blk p2) [.val y7] 111, .row y7 (List.map e_walk_frame_damier_row_Row s8.2.2) 3 117], 62⟩ ∧ iter (walk_Range_row_Row_1.l1 a1) n s8 = some t6) n9 ?_ ?_
 · exact ⟨_, Gst.only [0, 2, 5, 6] rfl, (vn (env3 3) 0), (a0, a3, x5), rfl, n14⟩
 rintro n9 _ ⟨_, g, y7, s8, rfl, i13⟩
 refine T.ghost g ?_
 obtain ⟨m10, q11, rfl, q12, i13⟩ := iter_succ i13
 unfold walk_Range_row_Row_1.l1 at q12
 refine T.seq ?_
 refine aS ?_
 refine aA rfl rfl ?_
 refine TL.op1 (OpR.loadPtr 2 rfl rfl rfl rfl) rfl ?_
 refine aA rfl rfl ?_
 refine TL.nil ?_
 show T X _ _ _
 rcases ite_some q12 with ⟨c16, q12⟩ | ⟨c16, q12⟩
 rotate_left
 · refine T.condF rfl (decide_eq_false c16) ?_
   refine T.exit ?_
   obtain rfl := Option.some.inj q12
   obtain rfl : _ = _ := i13
   exact ⟨_, Gst.trans (Gst.only [] rfl) (Gst.pick [0, 1, 2, 3, 4] rfl rfl), rfl⟩
 refine T.condT rfl (decide_eq_true c16) ?_
 refine T.skip ?_
 show T X _ _ _
 refine T.seq ?_
 refine T.block ?_
 refine T.seq ?_
 refine aS ?_
 obtain ⟨x17, hx17, q12⟩ := bnd_some q12
 refine TL.op1 (OpR.call [5, 6] fn47 (walk_stack_row_Row_top_c hx17) rfl rfl rfl (fun _ => rfl)) rfl ?_
 refine aA rfl rfl ?_
 refine TL.nil ?_
 show T X _ _ _
 refine T.seq ?_
 obtain ⟨x18, hx18, q12⟩ := bnd_some q12
 obtain ⟨q19, hq19, q12⟩ := bnd_some q12
 rcases q19 with _ | z20
 · dsimp only at q12
   exact (by cases q12)
 dsimp only at q12
 obtain ⟨x22, hx22, q12⟩ := bnd_some q12
 rw [o_tree_Node_damier_row_Row_eq hx22] at hq19
 refine T.drawQ drawsX [.val (.pointer (some ⟨blk y7, x17.toNat * 3, none⟩)), .val (.pointer (some ⟨blk y7, x17.toNat * 3, none⟩)), .val (.pointer (some ⟨blk y7, x17.toNat * 3 + 2, none⟩)), .val (.int .i64 x18.fNext), .val (.pointer (some ⟨blk y7, x17.toNat * 3, none⟩)), .val (.pointer (some ⟨blk y7, x17.toNat * 3, none⟩)), .val (.pointer (some ⟨blk y7, x17.toNat * 3, none⟩)), .nod [.sl 1 (List.map eNP x22.fKids), .sl 3 (List.map e_row_Row x22.fItems), .val (.int .i64 x22.fN)], .nod [.sl 1 (List.map eNP x22.fKids), .sl 3 (List.map e_row_Row x22.fItems), .val (.int .i64 x22.fN)], .nod [.sl 3 (List.map e_row_Row x22.fItems), .val (.int .i64 x22.fN)], .sl 3 (List.map e_row_Row x22.fItems), .val (.int .i64 (x22.fItems.length : Int)), .val (.bool (x18.fNext == (x22.fItems.length : Int)))] [0, 2, 5, 6, 35] (by decide +kernel) rfl ?_ rfl ?_
 · iterate 3 refine aB rfl rfl rfl ?_
   refine OpsQ.yes (Want.plain rfl) rfl (OpR.rowLoadM (j := x17) e_walk_frame_damier_row_Row 6 hx18 rfl rfl rfl rfl) ?_
   iterate 3 refine aB rfl rfl rfl ?_
   refine OpsQ.yes (Want.plain rfl) rfl (OpR.cast (OpR.rowLoad0M (j := x17) e_walk_frame_damier_row_Row 6 hx18 rfl rfl rfl rfl) (congrArg eOP (Option.some.inj hq19))) ?_
   iterate 3 refine aB rfl rfl rfl ?_
   refine OpsQ.yes (Want.plain rfl) rfl (OpR.cast (OpR.pure rfl) (intE (lenM _ _))) ?_
   refine aB rfl rfl rfl ?_
   exact OpsQ.nil
 show T X _ _ _
 obtain ⟨t24, ht24, q12⟩ := bnd_some q12
 refine T.cutC (fun S' => ∃ y25 : Value, S' = ⟨[(6, .val (.int .i64 s8.1)), (5, .val (.pointer (some ⟨(blk p2), 0, none⟩))), (2, .val (.pointer (some ⟨b2, 0, none⟩))), (0, .fn (.yield b0) [] [])], [.lp b0 .ready none [11, 12] rfA30_0 rfB30_0 [(3, .val (.pointer (some ⟨b4, 0, none⟩)))] 18, .var b1 [.val (.int .i64 a0)] 3, .var b2 [.val (.int .i64 a1)] 3, .var b3 [(eOP a2)] 24, .var b4 [.val (.int .i64 s8.2.1)] 3, .var (blk p2) [.val y25] 111, .row y25 (List.map e_walk_frame_damier_row_Row t24) 3 117], 62⟩) (fun _ h => h) ?_ ?_
 · rcases ite_some ht24 with ⟨c26, ht24⟩ | ⟨c26, ht24⟩
   rotate_left
   · refine T.condF rfl (beq_eq_false_iff_ne.2 c26) ?_
     refine T.skip ?_
     obtain rfl := Option.some.inj ht24
     exact ⟨_, Gst.only [0, 2, 5, 6] rfl, y7, rfl⟩
   refine T.condT rfl (beq_iff_eq.2 c26) ?_
   refine T.region ?_
   obtain ⟨x27, hx27, ht24⟩ := bnd_some ht24
   refine TL.op (OpR.call [5, 6] fn48 (walk_stack_row_Row_forth_c hx27) rfl rfl rfl (fun _ => rfl)) rfl (fun w28 => ?_)
   refine TL.nil ?_
   obtain rfl := Option.some.inj ht24
   exact ⟨_, Gst.only [0, 2, 5, 6] rfl, (vn w28 0), rfl⟩
 rintro _ ⟨y25, rfl⟩
 show T X _ _ _
 refine aS ?_
 obtain ⟨x29, hx29, q12⟩ := bnd_some q12
 refine TL.op1 (OpR.call [5, 6] fn47 (walk_stack_row_Row_top_c hx29) rfl rfl rfl (fun _ => rfl)) rfl ?_
 refine aA rfl rfl ?_
 refine TL.nil ?_
 show T X _ _ _
 refine T.seq ?_
 refine T.seq ?_
 obtain ⟨x30, hx30, q12⟩ := bnd_some q12
 obtain ⟨q31, hq31, q12⟩ := bnd_some q12
 rcases q31 with _ | z32
 · dsimp only at q12
   exact (by cases q12)
 dsimp only at q12
 obtain ⟨x34, hx34, q12⟩ := bnd_some q12
 rw [o_tree_Node_damier_row_Row_eq hx34] at hq31
 obtain ⟨x36, hx36, q12⟩ := bnd_some q12
 obtain ⟨x37, hx37, q12⟩ := bnd_some q12
 refine T.drawS drawsX (fun env35 => [.fn (.yield b0) [] [], .val (.int .i64 s8.1), .val (.pointer (some ⟨blk y25, x29.toNat * 3, none⟩)), .val (.pointer (some ⟨blk y25, x29.toNat * 3, none⟩)), .val (.pointer (some ⟨blk y25, x29.toNat * 3, none⟩)), .nod [.sl 1 (List.map eNP x34.fKids), .sl 3 (List.map e_row_Row x34.fItems), .val (.int .i64 x34.fN)], .nod [.sl 1 (List.map eNP x34.fKids), .sl 3 (List.map e_row_Row x34.fItems), .val (.int .i64 x34.fN)], .nod [.sl 3 (List.map e_row_Row x34.fItems), .val (.int .i64 x34.fN)], .sl 3 (List.map e_row_Row x34.fItems), .val (.pointer (some ⟨blk y25, x29.toNat * 3, none⟩)), .val (.pointer (some ⟨blk y25, x29.toNat * 3, none⟩)), .val (.pointer (some ⟨blk y25, x29.toNat * 3 + 2, none⟩)), .val (.int .i64 x30.fNext), .nod [.sl 5 (List.map e_cell_Cell x36.fCells), .val (.int .i64 x36.fEnd), .val (.bool x36.fHidden)], .agg [.sl 5 (List.map e_cell_Cell x36.fCells), .val (.int .i64 x36.fEnd), .val (.bool x36.fHidden)], .val (.bool true), .val (.bool false)]) (fun D env35 => [.lp b0 .ready none [11, 12] rfA30_0 rfB30_0 [(3, .val (.pointer (some ⟨b4, 0, none⟩)))] 18, .var b1 [.val (.int .i64 a0)] 3, .var b2 [.val (.int .i64 a1)] 3, .var b3 [(eOP a2)] 24, (bif D 15 then .var b4 [.val (.int .i64 x37)] 3 else .var b4 [.val (.int .i64 s8.2.1)] 3), .var (blk p2) [.val y25] 111, .row y25 (List.map e_walk_frame_damier_row_Row t24) 3 117]) [0, 0, 0, 4, 12, 28, 60, 124, 252, 0, 512, 1536, 3584, 8188, 16380, 32767, 65535] [0, 2, 5, 6, 8, 54] (fun env35 => [.lp b0 .ready none [11, 12] rfA30_0 rfB30_0 [(3, .val (.pointer (some ⟨b4, 0, none⟩)))] 18, .var b1 [.val (.int .i64 a0)] 3, .var b2 [.val (.int .i64 a1)] 3, .var b3 [(eOP a2)] 24, .var b4 [.val (.int .i64 x37)] 3, .var (blk p2) [.val y25] 111, .row y25 (List.map e_walk_frame_damier_row_Row t24) 3 117]) (by decide +kernel) (by decide +kernel) (fun _ => rfl) (fun _ => rfl) ?_ (fun _ => rfl) (fun _ => rfl) ?_
 rotate_left
 · intro env35
   show T X _ _ _
   refine T.condF rfl rfl ?_
   refine T.skip ?_
   show T X _ _ _
   refine T.region ?_
   iterate 3 refine aA rfl rfl ?_
   refine TL.op1 (OpR.rowLoadM (j := x29) e_walk_frame_damier_row_Row 6 hx30 rfl rfl rfl rfl) rfl ?_
   iterate 3 refine aA rfl rfl ?_
   refine TL.op0 (OpR.rowStoreM (j := x29) e_walk_frame_damier_row_Row (⟨x30.fN, x30.fFirst, w64 (x30.fNext + 1)⟩ : walk_frame_damier_row_Row) 6 hx30 rfl rfl rfl rfl rfl rfl rfl rfl rfl) ?_
   refine TL.nil ?_
   show T X _ _ _
   refine T.region ?_
   iterate 3 refine aA rfl rfl ?_
   refine TL.nil ?_
   obtain rfl := Option.some.inj q12
   exact ⟨m10, Nat.lt_succ_self _, _, Gst.only [0, 2, 5, 6] rfl, y25, (w64 (s8.1 + 1), x37, (t24.set x29.toNat (⟨x30.fN, x30.fFirst, w64 (x30.fNext + 1)⟩ : walk_frame_damier_row_Row))), rfl, i13⟩
 iterate 5 refine aC ?_
 refine oS (d := .nod [.sl 1 (List.map eNP x34.fKids), .sl 3 (List.map e_row_Row x34.fItems), .val (.int .i64 x34.fN)]) (fun _ => Want.plain rfl) (fun _ => rfl) (fun _ _ _ => rfl) (fun _ _ => OpR.cast (OpR.rowLoad0M (j := x29) e_walk_frame_damier_row_Row 6 hx30 rfl rfl rfl rfl) (congrArg eOP (Option.some.inj hq31))) (fun _ _ _ _ _ _ _ => rfl) ?_
 iterate 6 refine aC ?_
 refine oS (d := .val (.int .i64 x30.fNext)) (fun _ => Want.plain rfl) (fun _ => rfl) (fun _ _ _ => rfl) (fun _ _ => OpR.rowLoadM (j := x29) e_walk_frame_damier_row_Row 6 hx30 rfl rfl rfl rfl) (fun _ _ _ _ _ _ _ => rfl) ?_
 refine oS (d := .nod [.sl 5 (List.map e_cell_Cell x36.fCells), .val (.int .i64 x36.fEnd), .val (.bool x36.fHidden)]) (fun _ => Want.plain rfl) (fun _ => rfl) (fun _ _ _ => rfl) (fun _ _ => OpR.indexM e_row_Row hx36 rfl rfl rfl rfl rfl) (fun _ _ _ _ _ _ _ => rfl) ?_
 refine aC ?_
 refine OpsS.cons' true ?_ (fun _ _ _ _ _ _ _ => rfl) ?_
 · intro D env35 hA
   exact OpS.yes (o0 := [.lp b0 .ready none [11, 12] rfA30_0 rfB30_0 [(3, .val (.pointer (some ⟨b4, 0, none⟩)))] 18, .var b1 [.val (.int .i64 a0)] 3, .var b2 [.val (.int .i64 a1)] 3, .var b3 [(eOP a2)] 24, .var b4 [.val (.int .i64 s8.2.1)] 3, .var (blk p2) [.val y25] 111, .row y25 (List.map e_walk_frame_damier_row_Row t24) 3 117]) (o1 := fun x => [.lp b0 .ready none [11, 12] rfA30_0 rfB30_0 [(3, .val (.pointer (some ⟨b4, 0, none⟩)))] 18, .var b1 [.val (.int .i64 a0)] 3, .var b2 [.val (.int .i64 a1)] 3, .var b3 [(eOP a2)] 24, .var b4 [.val (.int .i64 x37)] 3, .var (blk p2) [.val y25] 111, .row y25 (List.map e_walk_frame_damier_row_Row t24) 3 117]) (d := fun x => .val (.bool true)) (Want.plain rfl) (by first | rfl | simp only [hA.me, cond_true, cond_false, List.cons_append, List.nil_append, List.append_nil]) (fun x => by first | rfl | simp only [ins_self, upd_self, hA.me, cond_true, cond_false, List.cons_append, List.nil_append, List.append_nil]) (fun x => rfl) (OpR.callY [0, 4] rfl (grid_Grid_Width_r0_c hx37) rfl rfl rfl (fun _ => rfl))
 refine aC ?_
 exact trivial
noncomputable def grid_Grid_Width (a0 : grid_Grid) : Option Int :=
  bnd (grid_Grid_Len a0) fun x3 =>
  bnd (walk_Range_row_Row a0.fRows 0 x3) fun x4 =>
  bnd (walk_Range_row_Row_1 x4.1 x4.2.1 x4.2.2 0) fun x6 =>
  some x6
set_option maxHeartbeats 4000000 in
theorem grid_Grid_Width_c {a0 : grid_Grid} {res : Int} (h0 : grid_Grid_Width a0 = some res) : CallF X 30 [.agg [(eOP a0.fRows.fRoot), .val (.bool a0.fTail), .val (.int .i64 a0.fEnd)]] [] (fun x => .val (.int .i64 res)) (fun x => []) := by
 unfold grid_Grid_Width at h0
 refine CallF.mkG (X := X) rfl Try.func30 rfl rfl Try.ntmps30 rfl rfl ?_
 refine aS ?_
 refine TL.op1 (OpR.boxImm rfl rfl) rfl ?_
 refine aA rfl rfl ?_
 refine TL.nil ?_
 show T X _ _ _
 refine aS ?_
 refine TL.op (OpR.alloc rfl rfl (fun _ => rfl)) rfl (fun p1 => ?_)
 refine TL.op0 (OpR.store 0 rfl rfl rfl rfl rfl rfl rfl rfl) ?_
 refine TL.nil ?_
 show T X _ _ _
 refine T.seq ?_
 refine T.seq ?_
 obtain ⟨x3, hx3, h0⟩ := bnd_some h0
 obtain ⟨x4, hx4, h0⟩ := bnd_some h0
 refine T.drawS drawsX (fun env2 => [.nod [(eOP a0.fRows.fRoot), .val (.bool a0.fTail), .val (.int .i64 a0.fEnd)], .agg [(eOP a0.fRows.fRoot)], .agg [(eOP a0.fRows.fRoot), .val (.bool a0.fTail), .val (.int .i64 a0.fEnd)], .val (.int .i64 x3), .fn (.func 44) [] [.val (.pointer (some ⟨(blk (vn (env2 4) 0)), 0, none⟩)), .val (.pointer (some ⟨(blk (vn (env2 4) 1)), 0, none⟩)), .val (.pointer (some ⟨(blk (vn (env2 4) 2)), 0, none⟩))]]) (fun D env2 => [.var (blk p1) [.val (.int .i64 0)] 3] ++ (bif D 4 then [.var (blk (vn (env2 4) 0)) [.val (.int .i64 x4.1)] 3] else []) ++ (bif D 4 then [.var (blk (vn (env2 4) 1)) [.val (.int .i64 x4.2.1)] 3] else []) ++ (bif D 4 then [.var (blk (vn (env2 4) 2)) [(eOP x4.2.2)] 24] else [])) [0, 1, 0, 4, 15] [2, 3, 10] (fun env2 => [.var (blk p1) [.val (.int .i64 0)] 3, .var (blk (vn (env2 4) 0)) [.val (.int .i64 x4.1)] 3, .var (blk (vn (env2 4) 1)) [.val (.int .i64 x4.2.1)] 3, .var (blk (vn (env2 4) 2)) [(eOP x4.2.2)] 24]) (by decide +kernel) (by decide +kernel) (fun _ => rfl) (fun _ => rfl) ?_ (fun _ => rfl) (fun _ => rfl) ?_
 rotate_left
 · intro env2
   show T X _ _ _
   refine T.block ?_
   obtain ⟨x6, hx6, h0⟩ := bnd_some h0
   refine T.rangeN (A := rfA30_0) (B := rfB30_0) [3] [1, 2, 3, 0] (.inl rfl) rfl rfl rfl rfl rfl fn44 rfl rfl (fun l5 => (walk_Range_row_Row_1_c hx6)) (fun _ => rfl) (fun w7 => ?_)
   show T X _ _ _
   refine aS ?_
   refine TL.op1 (OpR.loadPtr 0 rfl rfl rfl rfl) rfl ?_
   refine aA rfl rfl ?_
   refine TL.nil ?_
   show T X _ _ _
   refine T.ret ?_
   obtain rfl := Option.some.inj h0
   exact PostG.retP (ks := []) (Gst.trans (Gst.only [2] rfl) (Gst.pick [] rfl rfl)) undef (ResL.cons (ResV.tmp rfl) ResL.nil) rfl rfl rfl rfl
 iterate 3 refine aC ?_
 refine oS (d := .val (.int .i64 x3)) (fun _ => Want.plain rfl) (fun _ => rfl) (fun _ _ _ => rfl) (fun _ _ => OpR.call0 fn16 (grid_Grid_Len_c hx3) rfl) (fun _ _ _ _ _ _ _ => rfl) ?_
 refine OpsS.cons' true ?_ (fun D hA env2 x j hj hD => match j, hj, hD with | 0, _, _ => rfl | 1, _, _ => rfl | 2, _, _ => rfl | 3, _, _ => rfl | 4, hj, _ => absurd rfl hj | _ + 5, _, _ => rfl) ?_
 · intro D env2 hA
   exact OpS.yes (o0 := [.var (blk p1) [.val (.int .i64 0)] 3]) (o1 := fun x => [.var (blk p1) [.val (.int .i64 0)] 3, .var (blk (vn x 0)) [.val (.int .i64 x4.1)] 3, .var (blk (vn x 1)) [.val (.int .i64 x4.2.1)] 3, .var (blk (vn x 2)) [(eOP x4.2.2)] 24]) (d := fun x => .fn (.func 44) [] [.val (.pointer (some ⟨(blk (vn x 0)), 0, none⟩)), .val (.pointer (some ⟨(blk (vn x 1)), 0, none⟩)), .val (.pointer (some ⟨(blk (vn x 2)), 0, none⟩))]) (Want.plain rfl) (by first | rfl | simp only [hA.me, cond_true, cond_false, List.cons_append, List.nil_append, List.append_nil]) (fun x => by first | rfl | simp only [ins_self, upd_self, hA.me, cond_true, cond_false, List.cons_append, List.nil_append, List.append_nil]) (fun x => rfl) (OpR.call [] fn17 (walk_Range_row_Row_c hx4) rfl rfl rfl (fun _ => rfl))
 exact trivial
noncomputable def walk_All_row_Row_r0 (a0 : Int) (a1 : row_Row) (a2 : List row_Row) : Option (List row_Row) :=
  bnd (app 40 a2 [a1]) fun x32 =>
  some x32
set_option maxHeartbeats 4000000 in
theorem walk_All_row_Row_r0_c {a0 : Int} {a1 : row_Row} {a2 : List row_Row} {b0 : Nat} {b1 : Nat} {v2 : Value} {res : (List row_Row)} (h0 : walk_All_row_Row_r0 a0 a1 a2 = some res) : RoundF X b0 [.val (.int .i64 a0), .agg [.sl 5 (List.map e_cell_Cell a1.fCells), .val (.int .i64 a1.fEnd), .val (.bool a1.fHidden)]] [.lp b0 .ready none [13, 14] rfA67_0 rfB67_0 [(3, .val (.pointer (some ⟨b1, 0, none⟩)))] 20, .var b1 [.val v2] 81, .row v2 (List.map e_row_Row a2) 3 68] (fun x => .val (.bool true)) (fun x => [.lp b0 .ready none [13, 14] rfA67_0 rfB67_0 [(3, .val (.pointer (some ⟨b1, 0, none⟩)))] 20, .var b1 [.val (vn x 0)] 81, .row (vn x 0) (List.map e_row_Row res) 3 68]) := by
 unfold walk_All_row_Row_r0 at h0
 refine RoundF.mk (X := X) rfl rfl rfl ?_
 refine T.region ?_
 refine TL.op (OpR.alloc rfl rfl (fun _ => rfl)) rfl (fun p31 => ?_)
 refine TL.op0 (OpR.store 3 rfl rfl rfl rfl rfl rfl rfl rfl) ?_
 refine TL.nil ?_
 refine RoundA.mk ?_
 refine T.block ?_
 refine T.region ?_
 refine TL.op1 (OpR.loadPtr 1 rfl rfl rfl rfl) rfl ?_
 refine TL.op1 (OpR.loadPtr 3 rfl rfl rfl rfl) rfl ?_
 refine TL.op1 (OpR.lit rfl rfl rfl rfl rfl rfl rfl) rfl ?_
 obtain ⟨x32, hx32, h0⟩ := bnd_some h0
 refine TL.op (OpR.appendM (m := [a1]) e_row_Row 2 hx32 rfl rfl rfl rfl rfl rfl rfl rfl rfl (fun _ => rfl)) rfl (fun v33 => ?_)
 refine TL.op0 (OpR.store 1 rfl rfl rfl rfl rfl rfl rfl rfl) ?_
 refine TL.nil ?_
 obtain rfl := Option.some.inj h0
 exact RoundG.mk (ks := [0, 1, 2]) (Gst.trans (Gst.only [] rfl) (Gst.pick [0, 1, 2] rfl rfl)) (.tuple #[v33]) rfl rfl rfl rfl rfl
end Go.Proofs.Ytpmhiiemklhbhaa.S
