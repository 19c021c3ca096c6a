/- Printed by a program of this session's own (gen.py): Lean functions for Go functions, and the proofs that the Go code comes to their answers. -/
import Derived.Test.YtpmhiiemklhbhaaGreatG2xb
import Derived.Test.YtpmhiiemklhbhaaGreatG2xd
set_option maxHeartbeats 4000000
set_option linter.unusedVariables false
set_option linter.unusedSimpArgs false
set_option maxRecDepth 20000
namespace Go.Proofs.YtpmhiiemklhbhaaGreat.S
open Go Go.Sm
attribute [local irreducible] T TL OpR CallT iter loop
noncomputable def law12_ColsBounds.l1 (x26 : grid_Grid × ref11_Grid × Bool) (s34 : Int) : Option (Lp Int (Ex Unit Bool)) :=
  if s34 < 2 then
    bnd (grid_Grid_Row x26.1 s34) fun x43 =>
    bnd (if x43.2 = true then
      bnd (row_Row_Len x43.1) fun x47 =>
      if x47 < 1 then
        some true
      else
        bnd (row_Row_Len x43.1) fun x49 =>
        some (decide (x49 > 40))
    else
      some true : Option Bool) fun t45 =>
    if t45 = true then
      some (Lp.done (Ex.ret false))
    else
      some (Lp.next (w64 (s34 + 1)))
  else
    some (Lp.done (Ex.brk ()))
noncomputable def law12_ColsBounds.l2 (a0 : List law12_Op) (x1 : grid_Grid × ref11_Grid × Bool × (List UInt8)) (s8 : Int × (Option NP) × Bool × Int) : Option (Lp (Int × (Option NP) × Bool × Int) (Ex Unit Bool)) :=
  if s8.1 < (a0.length : Int) then
    bnd (idx a0 s8.1) fun x17 =>
    if s8.1 ≥ 60 then
      some (Lp.done (Ex.brk ()))
    else
      bnd (if x17.fKind = 0 then
        some true
      else
        some (x17.fKind == 1) : Option Bool) fun t20 =>
      bnd (if t20 = true then
        some (w64 (rem (IntKind.wrap .u64 x17.fC) 3))
      else
        some x17.fC : Option Int) fun t22 =>
      bnd (law11_Plain (⟨(⟨s8.2.1⟩ : tree_Tree_damier_row_Row), s8.2.2.1, s8.2.2.2⟩ : grid_Grid) x1.2.2.2) fun x25 =>
      bnd (law12_step (⟨(⟨s8.2.1⟩ : tree_Tree_damier_row_Row), s8.2.2.1, s8.2.2.2⟩ : grid_Grid) x25 (⟨x17.fKind, t22, x17.fD⟩ : law12_Op)) fun x26 =>
      bnd (bnd (grid_Grid_Len x26.1) fun x28 =>
      if x28 = 2 then
        bnd (grid_Grid_Width x26.1) fun x30 =>
        some (decide (x30 > 40))
      else
        some true : Option Bool) fun t27 =>
      if t27 = true then
        some (Lp.done (Ex.ret false))
      else
        bnd (loop (law12_ColsBounds.l1 x26) 0 : Option (Ex Unit Bool)) fun t32 => match t32 with
          | .brk u33 =>
            some (Lp.next (w64 (s8.1 + 1), x26.1.fRows.fRoot, x26.1.fTail, x26.1.fEnd))
          | .ret u33 => some (Lp.done (Ex.ret u33))
  else
    some (Lp.done (Ex.brk ()))
noncomputable def law12_ColsBounds (a0 : List law12_Op) : Option Bool :=
  bnd (law11_Begun [97, 44, 98, 44, 99, 13, 10, 100, 13, 10]) fun x1 =>
  match x1 with
  | .inl x1 =>
      if x1.2.2.1 = true then
        bnd (loop (law12_ColsBounds.l2 a0 x1) (0, x1.1.fRows.fRoot, x1.1.fTail, x1.1.fEnd) : Option (Ex Unit Bool)) fun t6 => match t6 with
          | .brk u7 =>
            bnd (law12_awake) fun x51 =>
            some x51
          | .ret u7 => some u7
      else
        some false
  | .inr x1 =>
      some false
theorem law12_ColsBounds_c {a0 : List law12_Op} {res : Bool} (h0 : law12_ColsBounds a0 = some res) : CallF X 4 [.sl 3 (List.map e_law12_Op a0)] [] (fun x => (dT res)) (fun x => []) := by
 unfold law12_ColsBounds at h0
 refine CallF.mkG (X := X) rfl Tryz.func4 rfl rfl Tryz.ntmps4 rfl rfl ?_
 refine aS ?_
 refine aA rfl rfl ?_
 refine aN rfl ?_
 refine aS ?_
 obtain ⟨x1, hx1, h0⟩ := bS h0
 rcases x1 with x1 | x1
 rotate_left
 · dsimp only at h0
   refine TL.op1 (OpR.call0 fn14 (law11_Begun_cx2 hx1) rfl) rfl ?_
   iterate 5 refine aA rfl rfl ?_
   refine TL.op (OpR.alloc rfl rfl (fun _ => rfl)) rfl (fun p52 => ?_)
   refine TL.op (OpR.alloc rfl rfl (fun _ => rfl)) rfl (fun p53 => ?_)
   refine TL.op0 (OpR.store 0 rfl rfl rfl rfl rfl rfl rfl rfl) ?_
   refine aA rfl rfl ?_
   refine TL.op0 (OpR.store 1 rfl rfl rfl rfl rfl rfl rfl rfl) ?_
   refine aA rfl rfl ?_
   refine aN rfl ?_
   refine T.seq ?_
   refine aS ?_
   iterate 2 refine aA rfl rfl ?_
   refine aN rfl ?_
   refine T.condT rfl rfl ?_
   refine aS ?_
   refine aA rfl rfl ?_
   refine aN rfl ?_
   refine T.ret ?_
   obtain rfl := Option.some.inj h0
   exact rP [] [2] [] rfl rfl rfl undef (cT rfl ResL.nil) rfl rfl rfl rfl
 dsimp only at h0
 refine TL.op (OpR.call [] fn14 (law11_Begun_cx1 hx1) rfl rfl rfl (fun _ => rfl)) rfl (fun w2 => ?_)
 iterate 5 refine aA rfl rfl ?_
 refine TL.op (OpR.alloc rfl rfl (fun _ => rfl)) rfl (fun p3 => ?_)
 refine TL.op (OpR.alloc rfl rfl (fun _ => rfl)) rfl (fun p4 => ?_)
 refine TL.op0 (OpR.store 2 rfl rfl rfl rfl rfl rfl rfl rfl) ?_
 refine aA rfl rfl ?_
 refine TL.op0 (OpR.store 3 rfl rfl rfl rfl rfl rfl rfl rfl) ?_
 refine aA rfl rfl ?_
 refine aN rfl ?_
 refine T.seq ?_
 refine aS ?_
 iterate 2 refine aA rfl rfl ?_
 refine aN rfl ?_
 rcases ite_some h0 with ⟨c5, h0⟩ | ⟨c5, h0⟩
 rotate_left
 · refine T.condT rfl (not_f (eq_false_of_ne_true c5)) ?_
   refine aS ?_
   refine aA rfl rfl ?_
   refine aN rfl ?_
   refine T.ret ?_
   obtain rfl := Option.some.inj h0
   exact rP [] [2] [] rfl rfl rfl undef (cT rfl ResL.nil) rfl rfl rfl rfl
 refine T.condF rfl (not_t (c5)) ?_
 refine aK rfl ?_
 refine T.seq ?_
 refine aS ?_
 refine aA rfl rfl ?_
 refine TL.op1 (OpR.cast (OpR.pure rfl) (intE (lenM _ _))) rfl ?_
 refine aA rfl rfl ?_
 refine aN rfl ?_
 obtain ⟨t6, ht6, h0⟩ := bS h0
 refine T.cutC (fun S' => ∃ u7, t6 = Ex.brk u7 ∧ S' = ⟨[(2, (dT false))], [], 85⟩) (fun _ h => h) ?_ ?_
 rotate_left
 · rintro _ ⟨u7, rfl, rfl⟩
   show T X _ _ _
   refine aS ?_
   obtain ⟨x51, hx51, h0⟩ := bS h0
   refine TL.op1 (OpR.call0 fn16 (law12_awake_c hx51) rfl) rfl ?_
   refine aA rfl rfl ?_
   refine aN rfl ?_
   refine T.ret ?_
   obtain rfl := Option.some.inj h0
   exact rO [] [2] rfl undef (cT rfl ResL.nil) rfl rfl rfl rfl
 refine T.block ?_
 obtain ⟨n9, n14⟩ := loop_some ht6
 refine T.loop (fun n S' => ∃ S'', Gst S' S'' ∧ ∃ s8 : Int × (Option NP) × Bool × Int, S'' = ⟨[(22, (dN s8.1)), (21, (dN (a0.length : Int))), (20, .sl 3 (List.map e_law12_Op a0)), (4, (dP (blk (vn w2 0)))), (3, (dP (blk p3))), (2, (dT false))], [.var (blk p3) [(eOP s8.2.1), dT s8.2.2.1, dN s8.2.2.2] 27, .var (blk (vn w2 0)) [.val (vn w2 1)] 264, .row (vn w2 1) (lB x1.2.2.2) 1 5], 85⟩ ∧ iter (law12_ColsBounds.l2 a0 x1) n s8 = some t6) n9 ?_ ?_
 · exact ⟨_, gP [2, 3, 4, 20, 21, 22] [2, 0, 1] rfl rfl rfl, (0, x1.1.fRows.fRoot, x1.1.fTail, x1.1.fEnd), rfl, n14⟩
 rintro n9 _ ⟨_, g, s8, rfl, i13⟩
 refine T.ghost g ?_
 obtain ⟨m10, q11, rfl, q12, i13⟩ := iter_succ i13
 unfold law12_ColsBounds.l2 at q12
 refine aS ?_
 refine aA rfl rfl ?_
 refine aN rfl ?_
 refine T.seq ?_
 rcases ite_some q12 with ⟨c16, q12⟩ | ⟨c16, q12⟩
 rotate_left
 · refine T.condF rfl (decide_eq_false c16) ?_
   refine T.exit ?_
   obtain rfl := Option.some.inj q12
   obtain rfl : _ = _ := i13
   exact ⟨_, gP [2] [] rfl rfl rfl, _, rfl, rfl⟩
 refine T.condT rfl (decide_eq_true c16) ?_
 refine aK rfl ?_
 refine T.seq ?_
 refine T.block ?_
 refine aS ?_
 refine aA rfl rfl ?_
 obtain ⟨x17, hx17, q12⟩ := bS q12
 refine TL.op1 (OpR.indexM e_law12_Op hx17 rfl rfl rfl rfl rfl) rfl ?_
 refine aA rfl rfl ?_
 refine TL.op (OpR.alloc rfl rfl (fun _ => rfl)) rfl (fun p18 => ?_)
 refine aA rfl rfl ?_
 refine TL.op0 (OpR.store 3 rfl rfl rfl rfl rfl rfl rfl rfl) ?_
 refine aN rfl ?_
 refine T.seq ?_
 refine aS ?_
 iterate 2 refine aA rfl rfl ?_
 refine aN rfl ?_
 rcases ite_some q12 with ⟨c19, q12⟩ | ⟨c19, q12⟩
 · refine T.condT rfl (decide_eq_true c19) ?_
   refine T.exit ?_
   obtain rfl := Option.some.inj q12
   obtain rfl : _ = _ := i13
   exact ⟨_, gP [2] [] rfl rfl rfl, _, rfl, rfl⟩
 refine T.condF rfl (decide_eq_false c19) ?_
 refine aK rfl ?_
 refine T.seq ?_
 refine T.seq ?_
 obtain ⟨t20, ht20, q12⟩ := bS q12
 refine T.cutC (fun S' => S' = ⟨[(36, (dT t20)), (22, (dN s8.1)), (21, (dN (a0.length : Int))), (20, .sl 3 (List.map e_law12_Op a0)), (8, (dP (blk p18))), (4, (dP (blk (vn w2 0)))), (3, (dP (blk p3))), (2, (dT false))], [.var (blk p3) [(eOP s8.2.1), dT s8.2.2.1, dN s8.2.2.2] 27, .var (blk (vn w2 0)) [.val (vn w2 1)] 264, .var (blk p18) [dN x17.fKind, dN x17.fC, dN x17.fD] 37, .row (vn w2 1) (lB x1.2.2.2) 1 5], 85⟩) (fun _ h => h) ?_ ?_
 · refine T.region ?_
   refine aA rfl rfl ?_
   refine TL.op1 (OpR.loadPtr 3 rfl rfl rfl rfl) rfl ?_
   iterate 2 refine aA rfl rfl ?_
   rcases ite_some ht20 with ⟨c21, ht20⟩ | ⟨c21, ht20⟩
   · refine TL.off rfl rfl rfl rfl (beq_iff_eq.2 c21) rfl rfl ?_
     refine TL.off rfl rfl rfl rfl (beq_iff_eq.2 c21) rfl rfl ?_
     refine TL.off rfl rfl rfl rfl (beq_iff_eq.2 c21) rfl rfl ?_
     refine TL.op1 (OpR.pickT rfl (beq_iff_eq.2 c21) rfl) rfl ?_
     refine TL.nil ?_
     obtain rfl := Option.some.inj ht20
     exact ⟨_, gP [2, 3, 4, 8, 20, 21, 22, 36] [0, 1, 3, 2] rfl rfl rfl, rfl⟩
   refine TL.on rfl rfl rfl rfl (beq_eq_false_iff_ne.2 c21) ?_
   refine aA rfl rfl ?_
   refine TL.on rfl rfl rfl rfl (beq_eq_false_iff_ne.2 c21) ?_
   refine TL.op1 (OpR.loadPtr 3 rfl rfl rfl rfl) rfl ?_
   refine TL.on rfl rfl rfl rfl (beq_eq_false_iff_ne.2 c21) ?_
   refine aA rfl rfl ?_
   refine TL.op1 (OpR.pickF rfl (beq_eq_false_iff_ne.2 c21) rfl) rfl ?_
   refine TL.nil ?_
   obtain rfl := Option.some.inj ht20
   exact ⟨_, gP [2, 3, 4, 8, 20, 21, 22, 36] [0, 1, 3, 2] rfl rfl rfl, rfl⟩
 rintro _ rfl
 show T X _ _ _
 obtain ⟨t22, ht22, q12⟩ := bS q12
 refine T.cutC (fun S' => S' = ⟨[(22, (dN s8.1)), (21, (dN (a0.length : Int))), (20, .sl 3 (List.map e_law12_Op a0)), (8, (dP (blk p18))), (4, (dP (blk (vn w2 0)))), (3, (dP (blk p3))), (2, (dT false))], [.var (blk p3) [(eOP s8.2.1), dT s8.2.2.1, dN s8.2.2.2] 27, .var (blk (vn w2 0)) [.val (vn w2 1)] 264, .var (blk p18) [dN x17.fKind, dN t22, dN x17.fD] 37, .row (vn w2 1) (lB x1.2.2.2) 1 5], 85⟩) (fun _ h => h) ?_ ?_
 · rcases ite_some ht22 with ⟨c23, ht22⟩ | ⟨c23, ht22⟩
   rotate_left
   · refine T.condF rfl (eq_false_of_ne_true c23) ?_
     refine T.skip ?_
     obtain rfl := Option.some.inj ht22
     exact ⟨_, Gst.only [2, 3, 4, 8, 20, 21, 22] rfl, rfl⟩
   refine T.condT rfl (c23) ?_
   refine T.region ?_
   refine aA rfl rfl ?_
   refine TL.op1 (OpR.loadPtr 2 rfl rfl rfl rfl) rfl ?_
   iterate 4 refine aA rfl rfl ?_
   refine TL.op0 (OpR.store 2 rfl rfl rfl rfl rfl rfl rfl rfl) ?_
   refine TL.nil ?_
   obtain rfl := Option.some.inj ht22
   exact ⟨_, Gst.only [2, 3, 4, 8, 20, 21, 22] rfl, rfl⟩
 rintro _ rfl
 show T X _ _ _
 refine T.seq ?_
 obtain ⟨x25, hx25, q12⟩ := bS q12
 obtain ⟨x26, hx26, q12⟩ := bS q12
 refine T.drawS drawsX (fun env24 => [.agg [(eOP s8.2.1), dT s8.2.2.1, dN s8.2.2.2], dP (blk (vn w2 0)), .agg [(eOP s8.2.1), dT s8.2.2.1, dN s8.2.2.2], .agg [.sl 3 (List.map e_ref08_Row x25.fRows), dT x25.fTail, dN x25.fEnd], .agg [dN x17.fKind, dN t22, dN x17.fD], .tup [.agg [(eOP x26.1.fRows.fRoot), dT x26.1.fTail, dN x26.1.fEnd], .agg [.sl 3 (List.map e_ref08_Row x26.2.1.fRows), dT x26.2.1.fTail, dN x26.2.1.fEnd], dT x26.2.2], .tup [.agg [(eOP x26.1.fRows.fRoot), dT x26.1.fTail, dN x26.1.fEnd], .agg [.sl 3 (List.map e_ref08_Row x26.2.1.fRows), dT x26.2.1.fTail, dN x26.2.1.fEnd], dT x26.2.2], .agg [(eOP x26.1.fRows.fRoot), dT x26.1.fTail, dN x26.1.fEnd], .agg [.sl 3 (List.map e_ref08_Row x26.2.1.fRows), dT x26.2.1.fTail, dN x26.2.1.fEnd], dT x26.2.2, .dead]) (fun D env24 => [(bif D 10 then .var (blk p3) [(eOP x26.1.fRows.fRoot), dT x26.1.fTail, dN x26.1.fEnd] 27 else .var (blk p3) [(eOP s8.2.1), dT s8.2.2.1, dN s8.2.2.2] 27), .var (blk (vn w2 0)) [.val (vn w2 1)] 264, .var (blk p18) [dN x17.fKind, dN t22, dN x17.fD] 37, .row (vn w2 1) (lB x1.2.2.2) 1 5]) [0, 0, 0, 6, 0, 31, 63, 127, 127, 127, 255] [2, 3, 4, 20, 21, 22] _ (by decide +kernel) (by decide +kernel) (fun _ => rfl) (fun _ => rfl) ?_ (fun _ => rfl) (fun _ => rfl) ?_
 · refine OpsS.cons' true ?_ (fun _ _ _ _ _ _ _ => rfl) ?_
   · intro D env24 hA
     have e10 : D 10 = false := hA.no 10 _ rfl rfl
     exact OpS.yp [(10, false)] ⟨e10, trivial⟩ (Want.plain rfl) (OpR.loadPtr 0 rfl rfl rfl rfl) (fun x => rfl) (fun x => rfl)
   refine aC ?_
   refine OpsS.cons' true ?_ (fun _ _ _ _ _ _ _ => rfl) ?_
   · intro D env24 hA
     have e10 : D 10 = false := hA.no 10 _ rfl rfl
     exact OpS.yp [(10, false)] ⟨e10, trivial⟩ (Want.plain rfl) (OpR.loadPtr 0 rfl rfl rfl rfl) (fun x => rfl) (fun x => rfl)
   refine OpsS.cons' true ?_ (fun _ _ _ _ _ _ _ => rfl) ?_
   · intro D env24 hA
     have e10 : D 10 = false := hA.no 10 _ rfl rfl
     exact OpS.yp [(10, false)] ⟨e10, trivial⟩ (Want.plain rfl) (OpR.call [1, 3] fn19 (law11_Plain_c hx25) rfl rfl rfl (fun _ => rfl)) (fun x => rfl) (fun x => rfl)
   refine oT (.agg [dN x17.fKind, dN t22, dN x17.fD]) (fun _ _ => OpR.loadPtr 2 rfl rfl rfl rfl) ?_
   refine oT (.tup [.agg [(eOP x26.1.fRows.fRoot), dT x26.1.fTail, dN x26.1.fEnd], .agg [.sl 3 (List.map e_ref08_Row x26.2.1.fRows), dT x26.2.1.fTail, dN x26.2.1.fEnd], dT x26.2.2]) (fun _ _ => OpR.call0 fn17 (law12_step_c hx26) rfl) ?_
   iterate 4 refine aC ?_
   refine OpsS.cons' true ?_ (fun _ _ _ _ _ _ _ => rfl) ?_
   · intro D env24 hA
     exact OpS.yp [(10, false)] ⟨hA.me, trivial⟩ (Want.plain rfl) (OpR.store 0 rfl rfl rfl rfl rfl rfl rfl rfl) (fun x => rfl) (fun x => rfl)
   exact trivial
 intro env24
 show T X _ _ _
 refine T.seq ?_
 refine T.seq ?_
 obtain ⟨t27, ht27, q12⟩ := bS q12
 refine T.cutC (fun S' => S' = ⟨[(60, (dT t27)), (22, (dN s8.1)), (21, (dN (a0.length : Int))), (20, .sl 3 (List.map e_law12_Op a0)), (4, (dP (blk (vn w2 0)))), (3, (dP (blk p3))), (2, (dT false))], [.var (blk p3) [(eOP x26.1.fRows.fRoot), dT x26.1.fTail, dN x26.1.fEnd] 27, .var (blk (vn w2 0)) [.val (vn w2 1)] 264, .row (vn w2 1) (lB x1.2.2.2) 1 5], 85⟩) (fun _ h => h) ?_ ?_
 · refine T.region ?_
   refine TL.op1 (OpR.loadPtr 0 rfl rfl rfl rfl) rfl ?_
   obtain ⟨x28, hx28, ht27⟩ := bS ht27
   refine TL.op1 (OpR.call0 fn22 (grid_Grid_Len_c hx28) rfl) rfl ?_
   iterate 2 refine aA rfl rfl ?_
   rcases ite_some ht27 with ⟨c29, ht27⟩ | ⟨c29, ht27⟩
   rotate_left
   · refine TL.off rfl rfl rfl rfl (not_f (beq_eq_false_iff_ne.2 c29)) rfl rfl ?_
     refine TL.off rfl rfl rfl rfl (not_f (beq_eq_false_iff_ne.2 c29)) rfl rfl ?_
     refine TL.off rfl rfl rfl rfl (not_f (beq_eq_false_iff_ne.2 c29)) rfl rfl ?_
     refine TL.op1 (OpR.pickT rfl (not_f (beq_eq_false_iff_ne.2 c29)) rfl) rfl ?_
     refine TL.nil ?_
     obtain rfl := Option.some.inj ht27
     exact ⟨_, gP [2, 3, 4, 20, 21, 22, 60] [0, 1, 3] rfl rfl rfl, rfl⟩
   refine TL.on rfl rfl rfl rfl (not_t (beq_iff_eq.2 c29)) ?_
   refine TL.op1 (OpR.loadPtr 0 rfl rfl rfl rfl) rfl ?_
   refine TL.on rfl rfl rfl rfl (not_t (beq_iff_eq.2 c29)) ?_
   obtain ⟨x30, hx30, ht27⟩ := bS ht27
   refine TL.op1 (OpR.call0 fn23 (grid_Grid_Width_c hx30) rfl) rfl ?_
   refine TL.on rfl rfl rfl rfl (not_t (beq_iff_eq.2 c29)) ?_
   refine aA rfl rfl ?_
   refine TL.op1 (OpR.pickF rfl (not_t (beq_iff_eq.2 c29)) rfl) rfl ?_
   refine TL.nil ?_
   obtain rfl := Option.some.inj ht27
   exact ⟨_, gP [2, 3, 4, 20, 21, 22, 60] [0, 1, 3] rfl rfl rfl, rfl⟩
 rintro _ rfl
 show T X _ _ _
 rcases ite_some q12 with ⟨c31, q12⟩ | ⟨c31, q12⟩
 · refine T.condT rfl (c31) ?_
   refine aS ?_
   refine aA rfl rfl ?_
   refine aN rfl ?_
   refine T.ret ?_
   obtain rfl := Option.some.inj q12
   obtain rfl : _ = _ := i13
   obtain rfl := Option.some.inj h0
   exact rP [] [2] [] rfl rfl rfl undef (cT rfl ResL.nil) rfl rfl rfl rfl
 refine T.condF rfl (eq_false_of_ne_true c31) ?_
 refine aK rfl ?_
 refine aS ?_
 refine aA rfl rfl ?_
 refine aN rfl ?_
 obtain ⟨t32, ht32, q12⟩ := bS q12
 refine T.cutC (fun S' => ∃ u33, t32 = Ex.brk u33 ∧ S' = ⟨[(22, (dN s8.1)), (21, (dN (a0.length : Int))), (20, .sl 3 (List.map e_law12_Op a0)), (4, (dP (blk (vn w2 0)))), (3, (dP (blk p3))), (2, (dT false))], [.var (blk p3) [(eOP x26.1.fRows.fRoot), dT x26.1.fTail, dN x26.1.fEnd] 27, .var (blk (vn w2 0)) [.val (vn w2 1)] 264, .row (vn w2 1) (lB x1.2.2.2) 1 5], 85⟩) (fun _ h => h) ?_ ?_
 rotate_left
 · rintro _ ⟨u33, rfl, rfl⟩
   show T X _ _ _
   refine T.region ?_
   iterate 2 refine aA rfl rfl ?_
   refine TL.nil ?_
   obtain rfl := Option.some.inj q12
   exact ⟨m10, Nat.lt_succ_self _, _, Gst.only [2, 3, 4, 20, 21, 22] rfl, (w64 (s8.1 + 1), x26.1.fRows.fRoot, x26.1.fTail, x26.1.fEnd), rfl, i13⟩
 refine T.block ?_
 obtain ⟨n35, n40⟩ := loop_some ht32
 refine T.loop (fun n S' => ∃ S'', Gst S' S'' ∧ ∃ s34 : Int, S'' = ⟨[(22, (dN s8.1)), (21, (dN (a0.length : Int))), (20, .sl 3 (List.map e_law12_Op a0)), (9, (dN s34)), (4, (dP (blk (vn w2 0)))), (3, (dP (blk p3))), (2, (dT false))], [.var (blk p3) [(eOP x26.1.fRows.fRoot), dT x26.1.fTail, dN x26.1.fEnd] 27, .var (blk (vn w2 0)) [.val (vn w2 1)] 264, .row (vn w2 1) (lB x1.2.2.2) 1 5], 85⟩ ∧ iter (law12_ColsBounds.l1 x26) n s34 = some t32) n35 ?_ ?_
 · exact ⟨_, Gst.only [2, 3, 4, 9, 20, 21, 22] rfl, 0, rfl, n40⟩
 rintro n35 _ ⟨_, g, s34, rfl, i39⟩
 refine T.ghost g ?_
 obtain ⟨m36, q37, rfl, q38, i39⟩ := iter_succ i39
 unfold law12_ColsBounds.l1 at q38
 refine T.seq ?_
 refine aS ?_
 iterate 2 refine aA rfl rfl ?_
 refine aN rfl ?_
 rcases ite_some q38 with ⟨c42, q38⟩ | ⟨c42, q38⟩
 rotate_left
 · refine T.condF rfl (decide_eq_false c42) ?_
   refine T.exit ?_
   obtain rfl := Option.some.inj q38
   obtain rfl : _ = _ := i39
   exact ⟨_, Gst.only [2, 3, 4, 20, 21, 22] rfl, _, rfl, rfl⟩
 refine T.condT rfl (decide_eq_true c42) ?_
 refine aK rfl ?_
 refine T.seq ?_
 refine T.block ?_
 refine aS ?_
 refine TL.op1 (OpR.loadPtr 0 rfl rfl rfl rfl) rfl ?_
 refine aA rfl rfl ?_
 obtain ⟨x43, hx43, q38⟩ := bS q38
 refine TL.op1 (OpR.call0 fn24 (grid_Grid_Row_c hx43) rfl) rfl ?_
 iterate 3 refine aA rfl rfl ?_
 refine TL.op (OpR.alloc rfl rfl (fun _ => rfl)) rfl (fun p44 => ?_)
 refine TL.op0 (OpR.store 3 rfl rfl rfl rfl rfl rfl rfl rfl) ?_
 refine aA rfl rfl ?_
 refine aN rfl ?_
 refine T.seq ?_
 obtain ⟨t45, ht45, q38⟩ := bS q38
 refine T.cutC (fun S' => S' = ⟨[(82, (dT t45)), (22, (dN s8.1)), (21, (dN (a0.length : Int))), (20, .sl 3 (List.map e_law12_Op a0)), (9, (dN s34)), (4, (dP (blk (vn w2 0)))), (3, (dP (blk p3))), (2, (dT false))], [.var (blk p3) [(eOP x26.1.fRows.fRoot), dT x26.1.fTail, dN x26.1.fEnd] 27, .var (blk (vn w2 0)) [.val (vn w2 1)] 264, .row (vn w2 1) (lB x1.2.2.2) 1 5], 85⟩) (fun _ h => h) ?_ ?_
 rotate_left
 · rintro _ rfl
   show T X _ _ _
   rcases ite_some q38 with ⟨c50, q38⟩ | ⟨c50, q38⟩
   rotate_left
   · refine T.condF rfl (eq_false_of_ne_true c50) ?_
     refine aK rfl ?_
     refine T.region ?_
     iterate 3 refine aA rfl rfl ?_
     refine TL.nil ?_
     obtain rfl := Option.some.inj q38
     exact ⟨m36, Nat.lt_succ_self _, _, Gst.only [2, 3, 4, 9, 20, 21, 22] rfl, w64 (s34 + 1), rfl, i39⟩
   refine T.condT rfl (c50) ?_
   refine aS ?_
   refine aA rfl rfl ?_
   refine aN rfl ?_
   refine T.ret ?_
   obtain rfl := Option.some.inj q38
   obtain rfl : _ = _ := i39
   obtain rfl := Option.some.inj q12
   obtain rfl : _ = _ := i13
   obtain rfl := Option.some.inj h0
   exact rP [] [2] [] rfl rfl rfl undef (cT rfl ResL.nil) rfl rfl rfl rfl
 refine T.region ?_
 iterate 3 refine aA rfl rfl ?_
 rcases ite_some ht45 with ⟨c46, ht45⟩ | ⟨c46, ht45⟩
 rotate_left
 · refine TL.off rfl rfl rfl rfl (not_f (eq_false_of_ne_true c46)) rfl rfl ?_
   refine TL.off rfl rfl rfl rfl (not_f (eq_false_of_ne_true c46)) rfl rfl ?_
   refine TL.off rfl rfl rfl rfl (not_f (eq_false_of_ne_true c46)) rfl rfl ?_
   refine TL.op1 (OpR.pickT rfl (not_f (eq_false_of_ne_true c46)) rfl) rfl ?_
   refine aA rfl rfl ?_
   refine TL.off rfl rfl rfl rfl rfl rfl rfl ?_
   refine TL.off rfl rfl rfl rfl rfl rfl rfl ?_
   refine TL.off rfl rfl rfl rfl rfl rfl rfl ?_
   refine TL.op1 (OpR.pickT rfl rfl rfl) rfl ?_
   refine TL.nil ?_
   obtain rfl := Option.some.inj ht45
   exact ⟨_, gP [2, 3, 4, 9, 20, 21, 22, 82] [0, 1, 2] rfl rfl rfl, rfl⟩
 refine TL.on rfl rfl rfl rfl (not_t (c46)) ?_
 refine TL.op1 (OpR.loadPtr 3 rfl rfl rfl rfl) rfl ?_
 refine TL.on rfl rfl rfl rfl (not_t (c46)) ?_
 obtain ⟨x47, hx47, ht45⟩ := bS ht45
 refine TL.op1 (OpR.call0 fn25 (row_Row_Len_c hx47) rfl) rfl ?_
 refine TL.on rfl rfl rfl rfl (not_t (c46)) ?_
 refine aA rfl rfl ?_
 refine TL.op1 (OpR.pickF rfl (not_t (c46)) rfl) rfl ?_
 refine aA rfl rfl ?_
 rcases ite_some ht45 with ⟨c48, ht45⟩ | ⟨c48, ht45⟩
 · refine TL.off rfl rfl rfl rfl (decide_eq_true c48) rfl rfl ?_
   refine TL.off rfl rfl rfl rfl (decide_eq_true c48) rfl rfl ?_
   refine TL.off rfl rfl rfl rfl (decide_eq_true c48) rfl rfl ?_
   refine TL.op1 (OpR.pickT rfl (decide_eq_true c48) rfl) rfl ?_
   refine TL.nil ?_
   obtain rfl := Option.some.inj ht45
   exact ⟨_, gP [2, 3, 4, 9, 20, 21, 22, 82] [0, 1, 2] rfl rfl rfl, rfl⟩
 refine TL.on rfl rfl rfl rfl (decide_eq_false c48) ?_
 refine TL.op1 (OpR.loadPtr 3 rfl rfl rfl rfl) rfl ?_
 refine TL.on rfl rfl rfl rfl (decide_eq_false c48) ?_
 obtain ⟨x49, hx49, ht45⟩ := bS ht45
 refine TL.op1 (OpR.call0 fn25 (row_Row_Len_c hx49) rfl) rfl ?_
 refine TL.on rfl rfl rfl rfl (decide_eq_false c48) ?_
 refine aA rfl rfl ?_
 refine TL.op1 (OpR.pickF rfl (decide_eq_false c48) rfl) rfl ?_
 refine TL.nil ?_
 obtain rfl := Option.some.inj ht45
 exact ⟨_, gP [2, 3, 4, 9, 20, 21, 22, 82] [0, 1, 2] rfl rfl rfl, rfl⟩
end Go.Proofs.YtpmhiiemklhbhaaGreat.S
