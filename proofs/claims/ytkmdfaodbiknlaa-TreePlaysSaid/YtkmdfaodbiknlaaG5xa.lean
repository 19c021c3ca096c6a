/- Printed by a program of this session's own (gen.py): Lean functions for Go functions, and the proofs that the Go code comes to their answers. -/
import Derived.Test.YtkmdfaodbiknlaaG1xa
import Derived.Test.YtkmdfaodbiknlaaG2xa
import Derived.Test.YtkmdfaodbiknlaaG3xa
import Derived.Test.YtkmdfaodbiknlaaG4xa
set_option linter.unusedVariables false
set_option linter.unusedSimpArgs false
set_option maxRecDepth 20000
namespace Go.Proofs.Ytkmdfaodbiknlaa.S
open Go Go.Sm
attribute [local irreducible] T TL OpR CallT iter loop
noncomputable def law09_TreePlays.l1 (a1 : List law09_Op) (s8 : (List Int) × Int × (Option NP)) : Option (Lp ((List Int) × Int × (Option NP)) (Ex ((List Int) × (Option NP)) Bool)) :=
  if s8.2.1 < (a1.length : Int) then
    bnd (idx a1 s8.2.1) fun x17 =>
    if s8.2.1 ≥ 80 then
      some (Lp.done (Ex.brk (s8.1, s8.2.2)))
    else
      bnd (law09_step (⟨s8.2.2⟩ : tree_Tree_int) s8.1 x17) fun x20 =>
      bnd (if x20.2.2 = true then
        bnd (law09_Fits x20.1 x20.2.1) fun x23 =>
        some (!x23)
      else
        some true : Option Bool) fun t21 =>
      if t21 = true then
        some (Lp.done (Ex.ret false))
      else
        some (Lp.next (x20.2.1, w64 (s8.2.1 + 1), x20.1.fRoot))
  else
    some (Lp.done (Ex.brk (s8.1, s8.2.2)))
noncomputable def law09_TreePlays (a0 : List Int) (a1 : List law09_Op) : Option Bool :=
  bnd (law09_few a0) fun x1 =>
  bnd (tree_Of_int x1) fun x2 =>
  bnd (law09_Fits x2 x1) fun x4 =>
  if x4 = true then
    bnd (loop (law09_TreePlays.l1 a1) (x1, 0, x2.fRoot) : Option (Ex ((List Int) × (Option NP)) Bool)) fun t6 => match t6 with
      | .brk u7 =>
        bnd (bnd (law09_All (⟨u7.2⟩ : tree_Tree_int)) fun x26 =>
        bnd (ref09_Same x26 u7.1) fun x27 =>
        if x27 = true then
          bnd (law09_awake) fun x29 =>
          some x29
        else
          some false : Option Bool) fun t25 =>
        some t25
      | .ret u7 => some u7
  else
    some false
set_option maxHeartbeats 4000000 in
theorem law09_TreePlays_c {a0 : List Int} {a1 : List law09_Op} {res : Bool} (h0 : law09_TreePlays a0 a1 = some res) : CallF X 3 [.sl 1 (List.map (eI .i64) a0), .sl 4 (List.map e_law09_Op a1)] [] (fun x => .val (.bool res)) (fun x => []) := by
 unfold law09_TreePlays at h0
 refine CallF.mkG (X := X) Try.func3 rfl rfl Try.ntmps3 rfl rfl ?_
 refine T.seq ?_
 refine T.region ?_
 refine TL.op1 (OpR.pure rfl) rfl ?_
 refine TL.nil ?_
 show T X _ _ _
 refine T.seq ?_
 refine T.region ?_
 refine TL.op1 (OpR.pure rfl) rfl ?_
 obtain ⟨x1, hx1, h0⟩ := bnd_some h0
 refine TL.op1 (OpR.call0 fn11 (law09_few_c hx1) rfl) rfl ?_
 refine TL.op1 (OpR.pure rfl) rfl ?_
 refine TL.nil ?_
 show T X _ _ _
 refine T.seq ?_
 refine T.region ?_
 refine TL.op1 (OpR.pure rfl) rfl ?_
 obtain ⟨x2, hx2, h0⟩ := bnd_some h0
 refine TL.op1 (OpR.call0 fn12 (tree_Of_int_c hx2) rfl) rfl ?_
 refine TL.op (OpR.alloc rfl rfl (fun _ => rfl)) rfl (fun p3 => ?_)
 refine TL.op0 (OpR.store 0 rfl rfl rfl rfl rfl rfl rfl rfl) ?_
 refine TL.nil ?_
 show T X _ _ _
 refine T.seq ?_
 refine T.seq ?_
 refine T.region ?_
 refine TL.op1 (OpR.loadPtr 0 rfl rfl rfl rfl) rfl ?_
 refine TL.op1 (OpR.pure rfl) rfl ?_
 obtain ⟨x4, hx4, h0⟩ := bnd_some h0
 refine TL.op1 (OpR.call0 fn13 (law09_Fits_c hx4) rfl) rfl ?_
 refine TL.op1 (OpR.pure rfl) rfl ?_
 refine TL.nil ?_
 show T X _ _ _
 rcases ite_some h0 with ⟨c5, h0⟩ | ⟨c5, h0⟩
 rotate_left
 · refine T.condT rfl (not_f (eq_false_of_ne_true c5)) ?_
   refine T.seq ?_
   refine T.region ?_
   refine TL.op1 (OpR.pure rfl) rfl ?_
   refine TL.nil ?_
   show T X _ _ _
   refine T.ret ?_
   obtain rfl := Option.some.inj h0
   exact PostG.retP (ks := []) (Gst.trans (Gst.only [4] rfl) (Gst.pick [] rfl rfl)) undef (ResL.cons (ResV.tmp rfl) ResL.nil) rfl rfl rfl rfl
 refine T.condF rfl (not_t (c5)) ?_
 refine T.skip ?_
 show T X _ _ _
 refine T.seq ?_
 refine T.seq ?_
 refine T.region ?_
 refine TL.op1 (OpR.pure rfl) rfl ?_
 refine TL.op1 (OpR.cast (OpR.pure rfl) (intE (lenM _ _))) rfl ?_
 refine TL.op1 (OpR.pure rfl) rfl ?_
 refine TL.nil ?_
 show T X _ _ _
 obtain ⟨t6, ht6, h0⟩ := bnd_some h0
 refine T.cutC (fun S' => ∃ u7, t6 = Ex.brk u7 ∧ S' = ⟨[(5, .val (.pointer (some ⟨(blk p3), 0, none⟩))), (4, .val (.bool false)), (0, .sl 1 (List.map (eI .i64) u7.1))], [.var (blk p3) [(eOP u7.2)] 27], 50⟩) (fun _ h => h) ?_ ?_
 rotate_left
 · rintro _ ⟨u7, rfl, rfl⟩
   show T X _ _ _
   refine T.seq ?_
   obtain ⟨t25, ht25, h0⟩ := bnd_some h0
   refine T.cutC (fun S' => S' = ⟨[(4, .val (.bool t25))], [], 50⟩) (fun _ h => h) ?_ ?_
   rotate_left
   · rintro _ rfl
     show T X _ _ _
     refine T.ret ?_
     obtain rfl := Option.some.inj h0
     exact PostG.retP (ks := []) (Gst.only [4] rfl) undef (ResL.cons (ResV.tmp rfl) ResL.nil) rfl rfl rfl rfl
   refine T.region ?_
   refine TL.op1 (OpR.loadPtr 0 rfl rfl rfl rfl) rfl ?_
   obtain ⟨x26, hx26, ht25⟩ := bnd_some ht25
   refine TL.op1 (OpR.call0 fn16 (law09_All_c hx26) rfl) rfl ?_
   refine TL.op1 (OpR.pure rfl) rfl ?_
   obtain ⟨x27, hx27, ht25⟩ := bnd_some ht25
   refine TL.op1 (OpR.call0 fn15 (ref09_Same_c hx27) rfl) rfl ?_
   refine TL.op1 (OpR.pure rfl) rfl ?_
   rcases ite_some ht25 with ⟨c28, ht25⟩ | ⟨c28, ht25⟩
   rotate_left
   · refine TL.off rfl rfl rfl rfl (eq_false_of_ne_true c28) rfl rfl ?_
     refine TL.op1 (OpR.pickF rfl (eq_false_of_ne_true c28) rfl) rfl ?_
     refine TL.op1 (OpR.pure rfl) rfl ?_
     refine TL.nil ?_
     obtain rfl := Option.some.inj ht25
     exact ⟨_, Gst.trans (Gst.only [4] rfl) (Gst.pick [] rfl rfl), rfl⟩
   refine TL.on rfl rfl rfl rfl (c28) ?_
   obtain ⟨x29, hx29, ht25⟩ := bnd_some ht25
   refine TL.op1 (OpR.call0 fn17 (law09_awake_c hx29) rfl) rfl ?_
   refine TL.op1 (OpR.pickT rfl (c28) rfl) rfl ?_
   refine TL.op1 (OpR.pure rfl) rfl ?_
   refine TL.nil ?_
   obtain rfl := Option.some.inj ht25
   exact ⟨_, Gst.trans (Gst.only [4] rfl) (Gst.pick [] rfl rfl), rfl⟩
 refine T.block ?_
 obtain ⟨n9, n14⟩ := loop_some ht6
 refine T.loop (fun n S' => ∃ S'', Gst S' S'' ∧ ∃ s8 : (List Int) × Int × (Option NP), S'' = ⟨[(19, .val (.int .i64 s8.2.1)), (18, .val (.int .i64 (a1.length : Int))), (17, .sl 4 (List.map e_law09_Op a1)), (5, .val (.pointer (some ⟨(blk p3), 0, none⟩))), (4, .val (.bool false)), (0, .sl 1 (List.map (eI .i64) s8.1))], [.var (blk p3) [(eOP s8.2.2)] 27], 50⟩ ∧ iter (law09_TreePlays.l1 a1) n s8 = some t6) n9 ?_ ?_
 · exact ⟨_, Gst.only [0, 4, 5, 17, 18, 19] rfl, (x1, 0, x2.fRoot), rfl, n14⟩
 rintro n9 _ ⟨_, g, s8, rfl, i13⟩
 refine T.ghost g ?_
 obtain ⟨m10, q11, rfl, q12, i13⟩ := iter_succ i13
 unfold law09_TreePlays.l1 at q12
 refine T.seq ?_
 refine T.region ?_
 refine TL.op1 (OpR.pure rfl) rfl ?_
 refine TL.nil ?_
 show T X _ _ _
 refine T.seq ?_
 rcases ite_some q12 with ⟨c16, q12⟩ | ⟨c16, q12⟩
 rotate_left
 · refine T.condF rfl (decide_eq_false c16) ?_
   refine T.exit ?_
   obtain rfl := Option.some.inj q12
   obtain rfl : _ = _ := i13
   exact ⟨_, Gst.only [0, 4, 5] rfl, _, rfl, rfl⟩
 refine T.condT rfl (decide_eq_true c16) ?_
 refine T.skip ?_
 show T X _ _ _
 refine T.seq ?_
 refine T.block ?_
 refine T.seq ?_
 refine T.region ?_
 refine TL.op1 (OpR.pure rfl) rfl ?_
 obtain ⟨x17, hx17, q12⟩ := bnd_some q12
 refine TL.op1 (OpR.indexM e_law09_Op hx17 rfl rfl rfl rfl rfl) rfl ?_
 refine TL.op1 (OpR.pure rfl) rfl ?_
 refine TL.op (OpR.alloc rfl rfl (fun _ => rfl)) rfl (fun p18 => ?_)
 refine TL.op1 (OpR.pure rfl) rfl ?_
 refine TL.op0 (OpR.store 1 rfl rfl rfl rfl rfl rfl rfl rfl) ?_
 refine TL.nil ?_
 show T X _ _ _
 refine T.seq ?_
 refine T.seq ?_
 refine T.region ?_
 refine TL.op1 (OpR.pure rfl) rfl ?_
 refine TL.op1 (OpR.pure rfl) rfl ?_
 refine TL.nil ?_
 show T X _ _ _
 rcases ite_some q12 with ⟨c19, q12⟩ | ⟨c19, q12⟩
 · refine T.condT rfl (decide_eq_true c19) ?_
   refine T.exit ?_
   obtain rfl := Option.some.inj q12
   obtain rfl : _ = _ := i13
   exact ⟨_, Gst.trans (Gst.only [0, 4, 5] rfl) (Gst.pick [0] rfl rfl), _, rfl, rfl⟩
 refine T.condF rfl (decide_eq_false c19) ?_
 refine T.skip ?_
 show T X _ _ _
 refine T.seq ?_
 refine T.region ?_
 refine TL.op1 (OpR.pure rfl) rfl ?_
 refine TL.nil ?_
 show T X _ _ _
 refine T.seq ?_
 refine T.region ?_
 refine TL.op1 (OpR.loadPtr 0 rfl rfl rfl rfl) rfl ?_
 refine TL.op1 (OpR.pure rfl) rfl ?_
 refine TL.op1 (OpR.loadPtr 1 rfl rfl rfl rfl) rfl ?_
 obtain ⟨x20, hx20, q12⟩ := bnd_some q12
 refine TL.op1 (OpR.call0 fn14 (law09_step_c hx20) rfl) rfl ?_
 refine TL.op1 (OpR.pure rfl) rfl ?_
 refine TL.op1 (OpR.pure rfl) rfl ?_
 refine TL.op1 (OpR.pure rfl) rfl ?_
 refine TL.op1 (OpR.pure rfl) rfl ?_
 refine TL.op0 (OpR.store 0 rfl rfl rfl rfl rfl rfl rfl rfl) ?_
 refine TL.op1 (OpR.pure rfl) rfl ?_
 refine TL.op1 (OpR.pure rfl) rfl ?_
 refine TL.nil ?_
 show T X _ _ _
 refine T.seq ?_
 obtain ⟨t21, ht21, q12⟩ := bnd_some q12
 refine T.cutC (fun S' => S' = ⟨[(41, .val (.bool t21)), (19, .val (.int .i64 s8.2.1)), (18, .val (.int .i64 (a1.length : Int))), (17, .sl 4 (List.map e_law09_Op a1)), (5, .val (.pointer (some ⟨(blk p3), 0, none⟩))), (4, .val (.bool false)), (0, .sl 1 (List.map (eI .i64) x20.2.1))], [.var (blk p3) [(eOP x20.1.fRoot)] 27], 50⟩) (fun _ h => h) ?_ ?_
 rotate_left
 · rintro _ rfl
   show T X _ _ _
   rcases ite_some q12 with ⟨c24, q12⟩ | ⟨c24, q12⟩
   rotate_left
   · refine T.condF rfl (eq_false_of_ne_true c24) ?_
     refine T.skip ?_
     show T X _ _ _
     refine T.region ?_
     refine TL.op1 (OpR.pure rfl) rfl ?_
     refine TL.op1 (OpR.pure rfl) rfl ?_
     refine TL.nil ?_
     obtain rfl := Option.some.inj q12
     exact ⟨m10, Nat.lt_succ_self _, _, Gst.only [0, 4, 5, 17, 18, 19] rfl, (x20.2.1, w64 (s8.2.1 + 1), x20.1.fRoot), rfl, i13⟩
   refine T.condT rfl (c24) ?_
   refine T.seq ?_
   refine T.region ?_
   refine TL.op1 (OpR.pure rfl) rfl ?_
   refine TL.nil ?_
   show T X _ _ _
   refine T.ret ?_
   obtain rfl := Option.some.inj q12
   obtain rfl : _ = _ := i13
   obtain rfl := Option.some.inj h0
   exact PostG.retP (ks := []) (Gst.trans (Gst.only [4] rfl) (Gst.pick [] rfl rfl)) undef (ResL.cons (ResV.tmp rfl) ResL.nil) rfl rfl rfl rfl
 refine T.region ?_
 refine TL.op1 (OpR.pure rfl) rfl ?_
 refine TL.op1 (OpR.pure rfl) rfl ?_
 refine TL.op1 (OpR.pure rfl) rfl ?_
 rcases ite_some ht21 with ⟨c22, ht21⟩ | ⟨c22, ht21⟩
 rotate_left
 · refine TL.off rfl rfl rfl rfl (not_f (eq_false_of_ne_true c22)) rfl rfl ?_
   refine TL.off rfl rfl rfl rfl (not_f (eq_false_of_ne_true c22)) rfl rfl ?_
   refine TL.off rfl rfl rfl rfl (not_f (eq_false_of_ne_true c22)) rfl rfl ?_
   refine TL.off rfl rfl rfl rfl (not_f (eq_false_of_ne_true c22)) rfl rfl ?_
   refine TL.op1 (OpR.pickT rfl (not_f (eq_false_of_ne_true c22)) rfl) rfl ?_
   refine TL.nil ?_
   obtain rfl := Option.some.inj ht21
   exact ⟨_, Gst.trans (Gst.only [0, 4, 5, 17, 18, 19, 41] rfl) (Gst.pick [0] rfl rfl), rfl⟩
 refine TL.on rfl rfl rfl rfl (not_t (c22)) ?_
 refine TL.op1 (OpR.loadPtr 0 rfl rfl rfl rfl) rfl ?_
 refine TL.on rfl rfl rfl rfl (not_t (c22)) ?_
 refine TL.op1 (OpR.pure rfl) rfl ?_
 refine TL.on rfl rfl rfl rfl (not_t (c22)) ?_
 obtain ⟨x23, hx23, ht21⟩ := bnd_some ht21
 refine TL.op1 (OpR.call0 fn13 (law09_Fits_c hx23) rfl) rfl ?_
 refine TL.on rfl rfl rfl rfl (not_t (c22)) ?_
 refine TL.op1 (OpR.pure rfl) rfl ?_
 refine TL.op1 (OpR.pickF rfl (not_t (c22)) rfl) rfl ?_
 refine TL.nil ?_
 obtain rfl := Option.some.inj ht21
 exact ⟨_, Gst.trans (Gst.only [0, 4, 5, 17, 18, 19, 41] rfl) (Gst.pick [0] rfl rfl), rfl⟩
end Go.Proofs.Ytkmdfaodbiknlaa.S
