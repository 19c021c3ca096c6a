/- Printed by a program of this session's own (gen.py): Lean functions for Go functions, and the proofs that the Go code comes to their answers. -/
import Derived.Test.YtpmhiiemklhbhaaGreatG1xd
import Derived.Test.YtpmhiiemklhbhaaGreatG1xa
import Derived.Test.YtpmhiiemklhbhaaGreatG1xb
set_option maxHeartbeats 4000000
set_option linter.unusedVariables false
set_option linter.unusedSimpArgs false
set_option maxRecDepth 20000
namespace Go.Proofs.YtpmhiiemklhbhaaGreat.S
open Go Go.Sm
attribute [local irreducible] T TL OpR CallT iter loop
noncomputable def law18_FilterNarrows.l1 (x11 : List ref18_Test) (s15 : Int) : Option (Lp Int (Ex Unit Bool)) :=
  if s15 < (x11.length : Int) then
    bnd (idx x11 s15) fun x24 =>
    bnd (ref18_Right x24) fun x26 =>
    if x26 = true then
      some (Lp.next (w64 (s15 + 1)))
    else
      bnd (law18_awake) fun x28 =>
      some (Lp.done (Ex.ret x28))
  else
    some (Lp.done (Ex.brk ()))
noncomputable def law18_FilterNarrows (a0 : List UInt8) (a1 : List ref18_Test) (a2 : List ref18_Test) : Option Bool :=
  bnd (law11_Cut a0 1500) fun x1 =>
  bnd (law11_Begun x1) fun x2 =>
  match x2 with
  | .inl x2 =>
      if x2.2.2.1 = true then
        bnd (law18_few a1) fun x7 =>
        bnd (law18_few a2) fun x9 =>
        bnd (app 40 x7.2 x9.2) fun x11 =>
        bnd (loop (law18_FilterNarrows.l1 x11) 0 : Option (Ex Unit Bool)) fun t13 => match t13 with
          | .brk u14 =>
            bnd (filter_Show x2.1 x7.1 x2.2.2.2) fun x29 =>
            bnd (filter_Narrow x29.1 x9.1 x2.2.2.2) fun x31 =>
            bnd (filter_Show x2.1 x9.1 x2.2.2.2) fun x32 =>
            bnd (filter_Narrow x32.1 x7.1 x2.2.2.2) fun x34 =>
            bnd (app 40 x7.1 x9.1) fun x36 =>
            bnd (filter_Show x2.1 x36 x2.2.2.2) fun x37 =>
            bnd (if x37.2 = 0 then
              bnd (grid_Same x31.1 x37.1 x2.2.2.2) fun x40 =>
              if x40 = true then
                bnd (grid_Same x34.1 x37.1 x2.2.2.2) fun x42 =>
                if x42 = true then
                  bnd (law18_awake) fun x44 =>
                  some x44
                else
                  some false
              else
                some false
            else
              some false : Option Bool) fun t38 =>
            some t38
          | .ret u14 => some u14
      else
        bnd (law18_awake) fun x45 =>
        some x45
  | .inr x2 =>
      some false
theorem law18_FilterNarrows_c {a0 : List UInt8} {a1 : List ref18_Test} {a2 : List ref18_Test} {res : Bool} (h0 : law18_FilterNarrows a0 a1 a2 = some res) : CallF X 9 [.val (.string (bs a0)), .sl 4 (List.map e_ref18_Test a1), .sl 4 (List.map e_ref18_Test a2)] [] (fun x => (dT res)) (fun x => []) := by
 unfold law18_FilterNarrows at h0
 refine CallF.mkG (X := X) rfl Tryz.func9 rfl rfl Tryz.ntmps9 rfl rfl ?_
 refine aS ?_
 refine aA rfl rfl ?_
 refine aN rfl ?_
 refine aS ?_
 refine aA rfl rfl ?_
 obtain ⟨x1, hx1, h0⟩ := bS h0
 refine TL.op1 (OpR.call0 fn15 (law11_Cut_c hx1) rfl) rfl ?_
 obtain ⟨x2, hx2, h0⟩ := bS h0
 rcases x2 with x2 | x2
 rotate_left
 · dsimp only at h0
   refine TL.op1 (OpR.call0 fn14 (law11_Begun_cx2 hx2) rfl) rfl ?_
   iterate 5 refine aA rfl rfl ?_
   refine TL.op (OpR.alloc rfl rfl (fun _ => rfl)) rfl (fun p46 => ?_)
   refine TL.op (OpR.alloc rfl rfl (fun _ => rfl)) rfl (fun p47 => ?_)
   refine TL.op0 (OpR.store 0 rfl rfl rfl rfl rfl rfl rfl rfl) ?_
   refine aA rfl rfl ?_
   refine TL.op0 (OpR.store 1 rfl rfl rfl rfl rfl rfl rfl rfl) ?_
   refine aA rfl rfl ?_
   refine aN rfl ?_
   refine T.seq ?_
   refine aS ?_
   iterate 2 refine aA rfl rfl ?_
   refine aN rfl ?_
   refine T.condT rfl rfl ?_
   refine aS ?_
   refine aA rfl rfl ?_
   refine TL.op1 (OpR.ptrNe (A := none) rfl rfl rfl) rfl ?_
   refine aA rfl rfl ?_
   refine TL.off rfl rfl rfl rfl rfl rfl rfl ?_
   refine TL.op1 (OpR.pickF rfl rfl rfl) rfl ?_
   refine aA rfl rfl ?_
   refine aN rfl ?_
   refine T.ret ?_
   obtain rfl := osi h0
   exact rP [] [6] [] rfl rfl rfl undef (cT rfl ResL.nil) rfl rfl rfl rfl
 dsimp only at h0
 refine TL.op (OpR.call [] fn14 (law11_Begun_cx1 hx2) rfl rfl rfl (fun _ => rfl)) rfl (fun w3 => ?_)
 iterate 5 refine aA rfl rfl ?_
 refine TL.op (OpR.alloc rfl rfl (fun _ => rfl)) rfl (fun p4 => ?_)
 refine TL.op (OpR.alloc rfl rfl (fun _ => rfl)) rfl (fun p5 => ?_)
 refine TL.op0 (OpR.store 2 rfl rfl rfl rfl rfl rfl rfl rfl) ?_
 refine aA rfl rfl ?_
 refine TL.op0 (OpR.store 3 rfl rfl rfl rfl rfl rfl rfl rfl) ?_
 refine aA rfl rfl ?_
 refine aN rfl ?_
 refine T.seq ?_
 refine aS ?_
 iterate 2 refine aA rfl rfl ?_
 refine aN rfl ?_
 rcases ite_some h0 with ⟨c6, h0⟩ | ⟨c6, h0⟩
 rotate_left
 · refine T.condT rfl (not_f (eq_false_of_ne_true c6)) ?_
   refine aS ?_
   refine aA rfl rfl ?_
   refine TL.op1 (OpR.ptrNe (A := some ⟨(blk (vn w3 0)), 0, none⟩) rfl rfl rfl) rfl ?_
   refine aA rfl rfl ?_
   refine TL.on rfl rfl rfl rfl rfl ?_
   obtain ⟨x45, hx45, h0⟩ := bS h0
   refine TL.op1 (OpR.call0 fn38 (law18_awake_c hx45) rfl) rfl ?_
   refine TL.op1 (OpR.pickT rfl rfl rfl) rfl ?_
   refine aA rfl rfl ?_
   refine aN rfl ?_
   refine T.ret ?_
   obtain rfl := osi h0
   exact rP [] [6] [] rfl rfl rfl undef (cT rfl ResL.nil) rfl rfl rfl rfl
 refine T.condF rfl (not_t (c6)) ?_
 refine aK rfl ?_
 refine aS ?_
 refine aA rfl rfl ?_
 obtain ⟨x7, hx7, h0⟩ := bS h0
 refine TL.op (OpR.call [] fn46 (law18_few_c hx7) rfl rfl rfl (fun _ => rfl)) rfl (fun w8 => ?_)
 iterate 5 refine aA rfl rfl ?_
 refine aN rfl ?_
 refine aS ?_
 refine aA rfl rfl ?_
 obtain ⟨x9, hx9, h0⟩ := bS h0
 refine TL.op (OpR.call [] fn46 (law18_few_c hx9) rfl rfl rfl (fun _ => rfl)) rfl (fun w10 => ?_)
 iterate 5 refine aA rfl rfl ?_
 refine aN rfl ?_
 refine T.seq ?_
 refine aS ?_
 iterate 2 refine aA rfl rfl ?_
 obtain ⟨x11, hx11, h0⟩ := bS h0
 refine TL.op (OpR.appendF (m := x9.2) e_ref18_Test 5 hx11 (Src.row 7 rfl rfl) rfl rfl rfl rfl rfl rfl rfl rfl (fun _ => rfl)) rfl (fun v12 => ?_)
 refine TL.op1 (OpR.rowLenM e_ref18_Test 5 rfl rfl rfl rfl) rfl ?_
 refine aA rfl rfl ?_
 refine aN rfl ?_
 obtain ⟨t13, ht13, h0⟩ := bS h0
 refine T.cutC (fun S' => ∃ u14, t13 = Ex.brk u14 ∧ S' = ⟨[(13, .val (vn w10 0)), (11, .val (vn w8 0)), (8, (dP (blk (vn w3 0)))), (7, (dP (blk p4))), (6, (dT false))], [.var (blk p4) [(eOP x2.1.fRows.fRoot), dT x2.1.fTail, dN x2.1.fEnd] 27, .var (blk (vn w3 0)) [.val (vn w3 1)] 264, .row (vn w8 0) (List.map e_filter_Test x7.1) 4 65, .row (vn w10 0) (List.map e_filter_Test x9.1) 4 65, .row (vn w3 1) (lB x2.2.2.2) 1 5], 115⟩) (fun _ h => h) ?_ ?_
 · refine T.block ?_
   obtain ⟨n16, n21⟩ := loop_some ht13
   refine T.loop (fun n S' => ∃ S'', Gst S' S'' ∧ ∃ s15 : Int, S'' = ⟨[(52, (dN s15)), (51, (dN (x11.length : Int))), (50, .val v12), (13, .val (vn w10 0)), (11, .val (vn w8 0)), (8, (dP (blk (vn w3 0)))), (7, (dP (blk p4))), (6, (dT false))], [.var (blk p4) [(eOP x2.1.fRows.fRoot), dT x2.1.fTail, dN x2.1.fEnd] 27, .var (blk (vn w3 0)) [.val (vn w3 1)] 264, .row (vn w8 0) (List.map e_filter_Test x7.1) 4 65, .row (vn w10 0) (List.map e_filter_Test x9.1) 4 65, .row v12 (List.map e_ref18_Test x11) 4 64, .row (vn w3 1) (lB x2.2.2.2) 1 5], 115⟩ ∧ iter (law18_FilterNarrows.l1 x11) n s15 = some t13) n16 ?_ ?_
   · exact ⟨_, gP [6, 7, 8, 11, 13, 50, 51, 52] [2, 0, 4, 6, 5, 1] rfl rfl rfl, 0, rfl, n21⟩
   rintro n16 _ ⟨_, g, s15, rfl, i20⟩
   refine T.ghost g ?_
   obtain ⟨m17, q18, rfl, q19, i20⟩ := iter_succ i20
   unfold law18_FilterNarrows.l1 at q19
   refine aS ?_
   refine aA rfl rfl ?_
   refine aN rfl ?_
   refine T.seq ?_
   rcases ite_some q19 with ⟨c23, q19⟩ | ⟨c23, q19⟩
   rotate_left
   · refine T.condF rfl (eF c23) ?_
     refine T.exit ?_
     obtain rfl := osi q19
     obtain rfl : _ = _ := i20
     exact ⟨_, gP [6, 7, 8, 11, 13] [0, 1, 2, 3, 5] rfl rfl rfl, _, rfl, rfl⟩
   refine T.condT rfl (eT c23) ?_
   refine aK rfl ?_
   refine T.seq ?_
   refine T.block ?_
   refine aS ?_
   obtain ⟨x24, hx24, q19⟩ := bS q19
   refine TL.op1 (OpR.rowIndexM e_ref18_Test 4 hx24 rfl rfl rfl rfl rfl rfl rfl) rfl ?_
   refine TL.op1 (OpR.rowLoad0M (j := s15) e_ref18_Test 4 hx24 rfl rfl rfl rfl) rfl ?_
   refine TL.op (OpR.alloc rfl rfl (fun _ => rfl)) rfl (fun p25 => ?_)
   refine TL.op0 (OpR.store 6 rfl rfl rfl rfl rfl rfl rfl rfl) ?_
   refine aN rfl ?_
   refine aS ?_
   refine TL.op1 (OpR.loadPtr 6 rfl rfl rfl rfl) rfl ?_
   obtain ⟨x26, hx26, q19⟩ := bS q19
   refine TL.op1 (OpR.call0 fn35 (ref18_Right_c hx26) rfl) rfl ?_
   refine aA rfl rfl ?_
   refine aN rfl ?_
   rcases ite_some q19 with ⟨c27, q19⟩ | ⟨c27, q19⟩
   · refine T.condF rfl (not_t (c27)) ?_
     refine aK rfl ?_
     refine T.region ?_
     iterate 2 refine aA rfl rfl ?_
     refine TL.nil ?_
     obtain rfl := osi q19
     exact ⟨m17, Nat.lt_succ_self _, _, gP [6, 7, 8, 11, 13, 50, 51, 52] [0, 1, 2, 3, 4, 5] rfl rfl rfl, w64 (s15 + 1), rfl, i20⟩
   refine T.condT rfl (not_f (eq_false_of_ne_true c27)) ?_
   refine aS ?_
   obtain ⟨x28, hx28, q19⟩ := bS q19
   refine TL.op1 (OpR.call0 fn38 (law18_awake_c hx28) rfl) rfl ?_
   refine aA rfl rfl ?_
   refine aN rfl ?_
   refine T.ret ?_
   obtain rfl := osi q19
   obtain rfl : _ = _ := i20
   obtain rfl := osi h0
   exact rP [] [6] [] rfl rfl rfl undef (cT rfl ResL.nil) rfl rfl rfl rfl
 rintro _ ⟨u14, rfl, rfl⟩
 show T X _ _ _
 refine aS ?_
 refine TL.op1 (OpR.loadPtr 0 rfl rfl rfl rfl) rfl ?_
 iterate 2 refine aA rfl rfl ?_
 obtain ⟨x29, hx29, h0⟩ := bS h0
 refine TL.op1 (OpR.call [1, 2, 4] fn47 (filter_Show_c_2 hx29) rfl rfl rfl (fun _ => rfl)) rfl ?_
 iterate 3 refine aA rfl rfl ?_
 refine TL.op (OpR.alloc rfl rfl (fun _ => rfl)) rfl (fun p30 => ?_)
 refine TL.op0 (OpR.store 5 rfl rfl rfl rfl rfl rfl rfl rfl) ?_
 refine aA rfl rfl ?_
 refine aN rfl ?_
 refine aS ?_
 refine TL.op1 (OpR.loadPtr 5 rfl rfl rfl rfl) rfl ?_
 iterate 2 refine aA rfl rfl ?_
 obtain ⟨x31, hx31, h0⟩ := bS h0
 refine TL.op1 (OpR.call [1, 3, 4] fn48 (filter_Narrow_c hx31) rfl rfl rfl (fun _ => rfl)) rfl ?_
 iterate 3 refine aA rfl rfl ?_
 refine TL.op0 (OpR.store 5 rfl rfl rfl rfl rfl rfl rfl rfl) ?_
 refine aN rfl ?_
 refine aS ?_
 refine TL.op1 (OpR.loadPtr 0 rfl rfl rfl rfl) rfl ?_
 iterate 2 refine aA rfl rfl ?_
 obtain ⟨x32, hx32, h0⟩ := bS h0
 refine TL.op1 (OpR.call [1, 3, 4] fn47 (filter_Show_c_2 hx32) rfl rfl rfl (fun _ => rfl)) rfl ?_
 iterate 3 refine aA rfl rfl ?_
 refine TL.op (OpR.alloc rfl rfl (fun _ => rfl)) rfl (fun p33 => ?_)
 refine TL.op0 (OpR.store 6 rfl rfl rfl rfl rfl rfl rfl rfl) ?_
 refine aA rfl rfl ?_
 refine aN rfl ?_
 refine aS ?_
 refine TL.op1 (OpR.loadPtr 6 rfl rfl rfl rfl) rfl ?_
 iterate 2 refine aA rfl rfl ?_
 obtain ⟨x34, hx34, h0⟩ := bS h0
 refine TL.op1 (OpR.call [1, 2, 4] fn48 (filter_Narrow_c hx34) rfl rfl rfl (fun _ => rfl)) rfl ?_
 iterate 3 refine aA rfl rfl ?_
 refine TL.op0 (OpR.store 6 rfl rfl rfl rfl rfl rfl rfl rfl) ?_
 refine aN rfl ?_
 refine T.seq ?_
 obtain ⟨x36, hx36, h0⟩ := bS h0
 obtain ⟨x37, hx37, h0⟩ := bS h0
 refine T.drawS drawsX (fun env35 => [.agg [(eOP x2.1.fRows.fRoot), dT x2.1.fTail, dN x2.1.fEnd], dP (blk (vn w3 0)), .val (vn w8 0), .val (vn w10 0), .val (env35 4), .tup [.agg [(eOP x37.1.fRows.fRoot), dT x37.1.fTail, dN x37.1.fEnd], dN x37.2], .tup [.agg [(eOP x37.1.fRows.fRoot), dT x37.1.fTail, dN x37.1.fEnd], dN x37.2], .agg [(eOP x37.1.fRows.fRoot), dT x37.1.fTail, dN x37.1.fEnd], dN x37.2, dP (blk (env35 9)), .dead, dN x37.2]) (fun D env35 => [.var (blk p4) [(eOP x2.1.fRows.fRoot), dT x2.1.fTail, dN x2.1.fEnd] 27, .var (blk (vn w3 0)) [.val (vn w3 1)] 264, (bif D 4 then .row (env35 4) (List.map e_filter_Test x36) 4 65 else .row (vn w8 0) (List.map e_filter_Test x7.1) 4 65), .row (vn w10 0) (List.map e_filter_Test x9.1) 4 65, .row (vn w3 1) (lB x2.2.2.2) 1 5, .var (blk p30) [(eOP x31.1.fRows.fRoot), dT x31.1.fTail, dN x31.1.fEnd] 27, .var (blk p33) [(eOP x34.1.fRows.fRoot), dT x34.1.fTail, dN x34.1.fEnd] 27] ++ (bif D 9 then [(bif D 10 then .var (blk (env35 9)) [(eOP x37.1.fRows.fRoot), dT x37.1.fTail, dN x37.1.fEnd] 27 else .var (blk (env35 9)) [(eOP none), dT false, dN 0] 27)] else [])) [0, 0, 0, 0, 12, 31, 63, 127, 127, 0, 767, 2047] [6, 8, 17, 19, 21, 22] _ (by decide +kernel) (by decide +kernel) (fun _ => rfl) (fun _ => rfl) ?_ (fun _ => rfl) (fun _ => rfl) ?_
 rotate_left
 · intro env35
   show T X _ _ _
   refine T.seq ?_
   obtain ⟨t38, ht38, h0⟩ := bS h0
   refine T.cutC (fun S' => S' = ⟨[(6, (dT t38))], [], 115⟩) (fun _ h => h) ?_ ?_
   rotate_left
   · rintro _ rfl
     show T X _ _ _
     refine T.ret ?_
     obtain rfl := osi h0
     exact rO [] [6] rfl undef (cT rfl ResL.nil) rfl rfl rfl rfl
   refine T.region ?_
   iterate 3 refine aA rfl rfl ?_
   rcases ite_some ht38 with ⟨c39, ht38⟩ | ⟨c39, ht38⟩
   rotate_left
   · refine TL.off rfl rfl rfl rfl (beq_eq_false_iff_ne.2 c39) rfl rfl ?_
     refine TL.off rfl rfl rfl rfl (beq_eq_false_iff_ne.2 c39) rfl rfl ?_
     refine TL.off rfl rfl rfl rfl (beq_eq_false_iff_ne.2 c39) rfl rfl ?_
     refine TL.off rfl rfl rfl rfl (beq_eq_false_iff_ne.2 c39) rfl rfl ?_
     refine TL.op1 (OpR.pickF rfl (beq_eq_false_iff_ne.2 c39) rfl) rfl ?_
     refine aA rfl rfl ?_
     refine TL.off rfl rfl rfl rfl rfl rfl rfl ?_
     refine TL.off rfl rfl rfl rfl rfl rfl rfl ?_
     refine TL.off rfl rfl rfl rfl rfl rfl rfl ?_
     refine TL.off rfl rfl rfl rfl rfl rfl rfl ?_
     refine TL.op1 (OpR.pickF rfl rfl rfl) rfl ?_
     refine aA rfl rfl ?_
     refine TL.off rfl rfl rfl rfl rfl rfl rfl ?_
     refine TL.op1 (OpR.pickF rfl rfl rfl) rfl ?_
     refine aA rfl rfl ?_
     refine TL.nil ?_
     obtain rfl := osi ht38
     exact ⟨_, gP [6] [] rfl rfl rfl, rfl⟩
   refine TL.on rfl rfl rfl rfl (beq_iff_eq.2 c39) ?_
   refine aA rfl rfl ?_
   refine TL.on rfl rfl rfl rfl (beq_iff_eq.2 c39) ?_
   refine TL.op1 (OpR.loadPtr 5 rfl rfl rfl rfl) rfl ?_
   refine TL.on rfl rfl rfl rfl (beq_iff_eq.2 c39) ?_
   refine TL.op1 (OpR.loadPtr 7 rfl rfl rfl rfl) rfl ?_
   refine TL.on rfl rfl rfl rfl (beq_iff_eq.2 c39) ?_
   obtain ⟨x40, hx40, ht38⟩ := bS ht38
   refine TL.op1 (OpR.call [1, 4] fn28 (grid_Same_c hx40) rfl rfl rfl (fun _ => rfl)) rfl ?_
   refine TL.op1 (OpR.pickT rfl (beq_iff_eq.2 c39) rfl) rfl ?_
   refine aA rfl rfl ?_
   rcases ite_some ht38 with ⟨c41, ht38⟩ | ⟨c41, ht38⟩
   rotate_left
   · refine TL.off rfl rfl rfl rfl (eq_false_of_ne_true c41) rfl rfl ?_
     refine TL.off rfl rfl rfl rfl (eq_false_of_ne_true c41) rfl rfl ?_
     refine TL.off rfl rfl rfl rfl (eq_false_of_ne_true c41) rfl rfl ?_
     refine TL.off rfl rfl rfl rfl (eq_false_of_ne_true c41) rfl rfl ?_
     refine TL.op1 (OpR.pickF rfl (eq_false_of_ne_true c41) rfl) rfl ?_
     refine aA rfl rfl ?_
     refine TL.off rfl rfl rfl rfl rfl rfl rfl ?_
     refine TL.op1 (OpR.pickF rfl rfl rfl) rfl ?_
     refine aA rfl rfl ?_
     refine TL.nil ?_
     obtain rfl := osi ht38
     exact ⟨_, gP [6] [] rfl rfl rfl, rfl⟩
   refine TL.on rfl rfl rfl rfl (c41) ?_
   refine aA rfl rfl ?_
   refine TL.on rfl rfl rfl rfl (c41) ?_
   refine TL.op1 (OpR.loadPtr 6 rfl rfl rfl rfl) rfl ?_
   refine TL.on rfl rfl rfl rfl (c41) ?_
   refine TL.op1 (OpR.loadPtr 7 rfl rfl rfl rfl) rfl ?_
   refine TL.on rfl rfl rfl rfl (c41) ?_
   obtain ⟨x42, hx42, ht38⟩ := bS ht38
   refine TL.op1 (OpR.call [1, 4] fn28 (grid_Same_c hx42) rfl rfl rfl (fun _ => rfl)) rfl ?_
   refine TL.op1 (OpR.pickT rfl (c41) rfl) rfl ?_
   refine aA rfl rfl ?_
   rcases ite_some ht38 with ⟨c43, ht38⟩ | ⟨c43, ht38⟩
   rotate_left
   · refine TL.off rfl rfl rfl rfl (eq_false_of_ne_true c43) rfl rfl ?_
     refine TL.op1 (OpR.pickF rfl (eq_false_of_ne_true c43) rfl) rfl ?_
     refine aA rfl rfl ?_
     refine TL.nil ?_
     obtain rfl := osi ht38
     exact ⟨_, gP [6] [] rfl rfl rfl, rfl⟩
   refine TL.on rfl rfl rfl rfl (c43) ?_
   obtain ⟨x44, hx44, ht38⟩ := bS ht38
   refine TL.op1 (OpR.call0 fn38 (law18_awake_c hx44) rfl) rfl ?_
   refine TL.op1 (OpR.pickT rfl (c43) rfl) rfl ?_
   refine aA rfl rfl ?_
   refine TL.nil ?_
   obtain rfl := osi ht38
   exact ⟨_, gP [6] [] rfl rfl rfl, rfl⟩
 refine oT (.agg [(eOP x2.1.fRows.fRoot), dT x2.1.fTail, dN x2.1.fEnd]) (fun _ _ => OpR.loadPtr 0 rfl rfl rfl rfl) ?_
 iterate 3 refine aC ?_
 refine OpsS.cons' true ?_ (fun D hA env35 x j hj hD => match j, hj, hD with | 0, _, _ => rfl | 1, _, _ => rfl | 2, _, _ => rfl | 3, _, _ => rfl | 4, hj, _ => absurd rfl hj | 5, _, _ => rfl | 6, _, _ => rfl | 7, _, _ => rfl | 8, _, _ => rfl | 9, _, _ => rfl | 10, _, _ => rfl | 11, _, _ => rfl | _ + 12, _, _ => rfl) ?_
 · intro D env35 hA
   have e10 : D 10 = false := hA.no 10 _ rfl rfl
   rcases Bool.eq_false_or_eq_true (D 9) with e9 | e9
   · exact OpS.yp [(10, false), (9, true), (4, false)] ⟨e10, e9, hA.me, trivial⟩ (Want.plain rfl) (OpR.appendF (m := x9.1) e_filter_Test 2 hx36 (Src.row 3 rfl rfl) rfl rfl rfl rfl rfl rfl rfl rfl (fun _ => rfl)) (fun x => rfl) (fun x => rfl)
   exact OpS.yp [(10, false), (9, false), (4, false)] ⟨e10, e9, hA.me, trivial⟩ (Want.plain rfl) (OpR.appendF (m := x9.1) e_filter_Test 2 hx36 (Src.row 3 rfl rfl) rfl rfl rfl rfl rfl rfl rfl rfl (fun _ => rfl)) (fun x => rfl) (fun x => rfl)
 refine OpsS.cons' true ?_ (fun _ _ _ _ _ _ _ => rfl) ?_
 · intro D env35 hA
   have e4 : D 4 = true := hA.yes 4 _ rfl rfl
   have e10 : D 10 = false := hA.no 10 _ rfl rfl
   rcases Bool.eq_false_or_eq_true (D 9) with e9 | e9
   · exact OpS.yp [(4, true), (10, false), (9, true)] ⟨e4, e10, e9, trivial⟩ (Want.plain rfl) (OpR.call [1, 2, 4] fn47 (filter_Show_c_2 hx37) rfl rfl rfl (fun _ => rfl)) (fun x => rfl) (fun x => rfl)
   exact OpS.yp [(4, true), (10, false), (9, false)] ⟨e4, e10, e9, trivial⟩ (Want.plain rfl) (OpR.call [1, 2, 4] fn47 (filter_Show_c_2 hx37) rfl rfl rfl (fun _ => rfl)) (fun x => rfl) (fun x => rfl)
 iterate 3 refine aC ?_
 refine OpsS.cons' true ?_ (fun D hA env35 x j hj hD => match j, hj, hD with | 0, _, _ => rfl | 1, _, _ => rfl | 2, _, _ => rfl | 3, _, _ => rfl | 4, _, _ => rfl | 5, _, _ => rfl | 6, _, _ => rfl | 7, _, _ => rfl | 8, _, _ => rfl | 9, hj, _ => absurd rfl hj | 10, _, _ => rfl | 11, _, _ => rfl | _ + 12, _, _ => rfl) ?_
 · intro D env35 hA
   have e10 : D 10 = false := hA.no 10 _ rfl rfl
   rcases Bool.eq_false_or_eq_true (D 4) with e4 | e4
   · exact OpS.yp [(10, false), (4, true), (9, false)] ⟨e10, e4, hA.me, trivial⟩ (Want.plain rfl) (OpR.alloc rfl rfl (fun _ => rfl)) (fun x => rfl) (fun x => rfl)
   exact OpS.yp [(10, false), (4, false), (9, false)] ⟨e10, e4, hA.me, trivial⟩ (Want.plain rfl) (OpR.alloc rfl rfl (fun _ => rfl)) (fun x => rfl) (fun x => rfl)
 refine OpsS.cons' true ?_ (fun _ _ _ _ _ _ _ => rfl) ?_
 · intro D env35 hA
   have e4 : D 4 = true := hA.yes 4 _ rfl rfl
   have e9 : D 9 = true := hA.yes 9 _ rfl rfl
   exact OpS.yp [(4, true), (9, true), (10, false)] ⟨e4, e9, hA.me, trivial⟩ (Want.plain rfl) (OpR.store 7 rfl rfl rfl rfl rfl rfl rfl rfl) (fun x => rfl) (fun x => rfl)
 refine aC ?_
 exact trivial
end Go.Proofs.YtpmhiiemklhbhaaGreat.S
