/- Printed by a program of this session's own (gen.py): Lean functions for Go functions, and the proofs that the Go code comes to their answers. -/
import Derived.Test.YtbcbggdgkdfciaaG1xd
import Derived.Test.YtbcbggdgkdfciaaG1xa
import Derived.Test.YtbcbggdgkdfciaaG1xb
import Derived.Test.YtbcbggdgkdfciaaG1xc
set_option maxHeartbeats 4000000
set_option linter.unusedVariables false
set_option linter.unusedSimpArgs false
set_option maxRecDepth 20000
namespace Go.Proofs.Ytbcbggdgkdfciaa.S
open Go Go.Sm
attribute [local irreducible] T TL OpR CallT iter loop
noncomputable def law17_FindRound.l1 (x2 : grid_Grid × ref11_Grid × Bool × (List UInt8)) (x7 : (List UInt8)) (x8 : Int) (x9 : Int × Int × Bool) (s14 : Int × Int × Int) : Option (Lp (Int × Int × Int) (Ex (Int × Int) Bool)) :=
  if s14.2.2 < x8 then
    bnd (find_Next x2.1 x7 s14.1 s14.2.1 x2.2.2.2) fun x23 =>
    bnd (find_Prev x2.1 x7 x23.1 x23.2.1 x2.2.2.2) fun x24 =>
    bnd (if x23.2.2 = true then
      if x24.2.2 = true then
        if x24.1 = s14.1 then
          if x24.2.1 = s14.2.1 then
            if s14.2.2 < (w64 (x8 - 1)) then
              some ((⟨x23.1, x23.2.1⟩ : ref17_Spot) == (⟨x9.1, x9.2.1⟩ : ref17_Spot))
            else
              some false
          else
            some true
        else
          some true
      else
        some true
    else
      some true : Option Bool) fun t25 =>
    if t25 = true then
      some (Lp.done (Ex.ret false))
    else
      some (Lp.next (x23.1, x23.2.1, w64 (s14.2.2 + 1)))
  else
    some (Lp.done (Ex.brk (s14.1, s14.2.1)))
noncomputable def law17_FindRound (a0 : List UInt8) (a1 : Int) (a2 : List UInt8) : Option Bool :=
  bnd (law11_Cut a0 1200) fun x1 =>
  bnd (law16_Hide x1 a1) fun x2 =>
  match x2 with
  | .inl x2 =>
      if x2.2.2.1 = true then
        bnd (law11_Cut a2 30) fun x7 =>
        bnd (find_Count x2.1 x7 x2.2.2.2) fun x8 =>
        bnd (find_Next x2.1 x7 (-1) 0 x2.2.2.2) fun x9 =>
        if (x9.2.2 == (decide (x8 > 0))) = true then
          bnd (loop (law17_FindRound.l1 x2 x7 x8 x9) (x9.1, x9.2.1, 0) : Option (Ex (Int × Int) Bool)) fun t12 => match t12 with
            | .brk u13 =>
              bnd (if x8 = 0 then
                bnd (law17_awake) fun x34 =>
                some x34
              else
                if (⟨u13.1, u13.2⟩ : ref17_Spot) = (⟨x9.1, x9.2.1⟩ : ref17_Spot) then
                  bnd (law17_awake) fun x36 =>
                  some x36
                else
                  some false : Option Bool) fun t32 =>
              some t32
            | .ret u13 => some u13
        else
          some false
      else
        bnd (law17_awake) fun x37 =>
        some x37
  | .inr x2 =>
      some false
theorem law17_FindRound_c {a0 : List UInt8} {a1 : Int} {a2 : List UInt8} {res : Bool} (h0 : law17_FindRound a0 a1 a2 = some res) : CallF X 9 [.val (.string (bs a0)), .val (.int .u64 a1), .val (.string (bs a2))] [] (fun x => (dT res)) (fun x => []) := by
 unfold law17_FindRound at h0
 refine CallF.mkG (X := X) rfl Try.func9 rfl rfl Try.ntmps9 rfl rfl ?_
 refine aS ?_
 refine aA rfl rfl ?_
 refine aN rfl ?_
 refine aS ?_
 refine aA rfl rfl ?_
 obtain ⟨x1, hx1, h0⟩ := bS h0
 refine TL.op1 (OpR.call0 fn11 (law11_Cut_c hx1) rfl) rfl ?_
 refine aA rfl rfl ?_
 obtain ⟨x2, hx2, h0⟩ := bS h0
 rcases x2 with x2 | x2
 rotate_left
 · dsimp only at h0
   refine TL.op1 (OpR.call0 fn55 (law16_Hide_cx2 hx2) rfl) rfl ?_
   iterate 5 refine aA rfl rfl ?_
   refine TL.op (OpR.alloc rfl rfl (fun _ => rfl)) rfl (fun p38 => ?_)
   refine TL.op (OpR.alloc rfl rfl (fun _ => rfl)) rfl (fun p39 => ?_)
   refine TL.op0 (OpR.store 0 rfl rfl rfl rfl rfl rfl rfl rfl) ?_
   refine aA rfl rfl ?_
   refine TL.op0 (OpR.store 1 rfl rfl rfl rfl rfl rfl rfl rfl) ?_
   refine aA rfl rfl ?_
   refine aN rfl ?_
   refine T.seq ?_
   refine aS ?_
   iterate 2 refine aA rfl rfl ?_
   refine aN rfl ?_
   refine T.condT rfl rfl ?_
   refine aS ?_
   refine aA rfl rfl ?_
   refine TL.op1 (OpR.ptrNe (A := none) rfl rfl rfl) rfl ?_
   refine aA rfl rfl ?_
   refine TL.off rfl rfl rfl rfl rfl rfl rfl ?_
   refine TL.op1 (OpR.pickF rfl rfl rfl) rfl ?_
   refine aA rfl rfl ?_
   refine aN rfl ?_
   refine T.ret ?_
   obtain rfl := osi h0
   exact rP [] [6] [] rfl rfl rfl undef (cT rfl ResL.nil) rfl rfl rfl rfl
 dsimp only at h0
 refine TL.op (OpR.call [] fn55 (law16_Hide_cx1 hx2) rfl rfl rfl (fun _ => rfl)) rfl (fun w3 => ?_)
 iterate 5 refine aA rfl rfl ?_
 refine TL.op (OpR.alloc rfl rfl (fun _ => rfl)) rfl (fun p4 => ?_)
 refine TL.op (OpR.alloc rfl rfl (fun _ => rfl)) rfl (fun p5 => ?_)
 refine TL.op0 (OpR.store 2 rfl rfl rfl rfl rfl rfl rfl rfl) ?_
 refine aA rfl rfl ?_
 refine TL.op0 (OpR.store 3 rfl rfl rfl rfl rfl rfl rfl rfl) ?_
 refine aA rfl rfl ?_
 refine aN rfl ?_
 refine T.seq ?_
 refine aS ?_
 iterate 2 refine aA rfl rfl ?_
 refine aN rfl ?_
 rcases ite_some h0 with ⟨c6, h0⟩ | ⟨c6, h0⟩
 rotate_left
 · refine T.condT rfl (not_f (eq_false_of_ne_true c6)) ?_
   refine aS ?_
   refine aA rfl rfl ?_
   refine TL.op1 (OpR.ptrNe (A := some ⟨(blk (vn w3 0)), 0, none⟩) rfl rfl rfl) rfl ?_
   refine aA rfl rfl ?_
   refine TL.on rfl rfl rfl rfl rfl ?_
   obtain ⟨x37, hx37, h0⟩ := bS h0
   refine TL.op1 (OpR.call0 fn14 (law17_awake_c hx37) rfl) rfl ?_
   refine TL.op1 (OpR.pickT rfl rfl rfl) rfl ?_
   refine aA rfl rfl ?_
   refine aN rfl ?_
   refine T.ret ?_
   obtain rfl := osi h0
   exact rP [] [6] [] rfl rfl rfl undef (cT rfl ResL.nil) rfl rfl rfl rfl
 refine T.condF rfl (not_t (c6)) ?_
 refine aK rfl ?_
 refine aS ?_
 refine aA rfl rfl ?_
 obtain ⟨x7, hx7, h0⟩ := bS h0
 refine TL.op1 (OpR.call0 fn11 (law11_Cut_c hx7) rfl) rfl ?_
 refine TL.op1 (OpR.toBytesM rfl rfl rfl rfl rfl rfl rfl) rfl ?_
 refine aA rfl rfl ?_
 refine aN rfl ?_
 refine aS ?_
 refine TL.op1 (OpR.loadPtr 2 rfl rfl rfl rfl) rfl ?_
 iterate 2 refine aA rfl rfl ?_
 obtain ⟨x8, hx8, h0⟩ := bS h0
 refine TL.op1 (OpR.call [0, 1] fn56 (find_Count_c hx8) rfl rfl rfl (fun _ => rfl)) rfl ?_
 refine aA rfl rfl ?_
 refine aN rfl ?_
 refine aS ?_
 refine TL.op1 (OpR.loadPtr 2 rfl rfl rfl rfl) rfl ?_
 iterate 2 refine aA rfl rfl ?_
 obtain ⟨x9, hx9, h0⟩ := bS h0
 refine TL.op1 (OpR.call [0, 1] fn57 (find_Next_c hx9) rfl rfl rfl (fun _ => rfl)) rfl ?_
 iterate 7 refine aA rfl rfl ?_
 refine aN rfl ?_
 refine T.seq ?_
 refine aS ?_
 iterate 3 refine aA rfl rfl ?_
 refine TL.op1 (OpR.neBool rfl rfl rfl rfl) rfl ?_
 refine aN rfl ?_
 rcases ite_some h0 with ⟨c10, h0⟩ | ⟨c10, h0⟩
 rotate_left
 · refine T.condT rfl (not_f (eq_false_of_ne_true c10)) ?_
   refine aS ?_
   refine aA rfl rfl ?_
   refine aN rfl ?_
   refine T.ret ?_
   obtain rfl := osi h0
   exact rP [] [6] [] rfl rfl rfl undef (cT rfl ResL.nil) rfl rfl rfl rfl
 refine T.condF rfl (not_t (c10)) ?_
 refine aK rfl ?_
 refine aS ?_
 iterate 2 refine aA rfl rfl ?_
 refine TL.op1 (OpR.build rfl rfl rfl rfl rfl) rfl ?_
 refine TL.op (OpR.alloc rfl rfl (fun _ => rfl)) rfl (fun p11 => ?_)
 refine TL.op0 (OpR.store 4 rfl rfl rfl rfl rfl rfl rfl rfl) ?_
 refine aN rfl ?_
 refine T.seq ?_
 refine aS ?_
 refine aA rfl rfl ?_
 refine aN rfl ?_
 obtain ⟨t12, ht12, h0⟩ := bS h0
 refine T.cutC (fun S' => ∃ u13, t12 = Ex.brk u13 ∧ S' = ⟨[(16, (dP (blk p11))), (14, (dN u13.2)), (13, (dN u13.1)), (12, (dN x8)), (6, (dT false))], [.var (blk p11) [dN x9.1, dN x9.2.1] 130], 130⟩) (fun _ h => h) ?_ ?_
 rotate_left
 · rintro _ ⟨u13, rfl, rfl⟩
   show T X _ _ _
   refine T.seq ?_
   obtain ⟨t32, ht32, h0⟩ := bS h0
   refine T.cutC (fun S' => S' = ⟨[(6, (dT t32))], [], 130⟩) (fun _ h => h) ?_ ?_
   rotate_left
   · rintro _ rfl
     show T X _ _ _
     refine T.ret ?_
     obtain rfl := osi h0
     exact rO [] [6] rfl undef (cT rfl ResL.nil) rfl rfl rfl rfl
   refine T.region ?_
   iterate 3 refine aA rfl rfl ?_
   rcases ite_some ht32 with ⟨c33, ht32⟩ | ⟨c33, ht32⟩
   · refine TL.off rfl rfl rfl rfl (beq_iff_eq.2 c33) rfl rfl ?_
     refine TL.off rfl rfl rfl rfl (beq_iff_eq.2 c33) rfl rfl ?_
     refine TL.off rfl rfl rfl rfl (beq_iff_eq.2 c33) rfl rfl ?_
     refine TL.off rfl rfl rfl rfl (beq_iff_eq.2 c33) rfl rfl ?_
     refine TL.off rfl rfl rfl rfl (beq_iff_eq.2 c33) rfl rfl ?_
     refine TL.op1 (OpR.pickT rfl (beq_iff_eq.2 c33) rfl) rfl ?_
     refine aA rfl rfl ?_
     refine TL.on rfl rfl rfl rfl rfl ?_
     obtain ⟨x34, hx34, ht32⟩ := bS ht32
     refine TL.op1 (OpR.call0 fn14 (law17_awake_c hx34) rfl) rfl ?_
     refine TL.op1 (OpR.pickT rfl rfl rfl) rfl ?_
     refine aA rfl rfl ?_
     refine TL.nil ?_
     obtain rfl := osi ht32
     exact ⟨_, gP [6] [] rfl rfl rfl, rfl⟩
   refine TL.on rfl rfl rfl rfl (beq_eq_false_iff_ne.2 c33) ?_
   refine aA rfl rfl ?_
   refine TL.on rfl rfl rfl rfl (beq_eq_false_iff_ne.2 c33) ?_
   refine aA rfl rfl ?_
   refine TL.on rfl rfl rfl rfl (beq_eq_false_iff_ne.2 c33) ?_
   refine TL.op1 (OpR.build rfl rfl rfl rfl rfl) rfl ?_
   refine TL.on rfl rfl rfl rfl (beq_eq_false_iff_ne.2 c33) ?_
   refine TL.op1 (OpR.loadPtr 0 rfl rfl rfl rfl) rfl ?_
   refine TL.on rfl rfl rfl rfl (beq_eq_false_iff_ne.2 c33) ?_
   refine TL.op1 (OpR.cast (OpR.eqStruct rfl rfl rfl rfl rfl (by kernel_rfl) (by kernel_rfl)) (boolE (beq_ref17_Spot (⟨u13.1, u13.2⟩ : ref17_Spot) (⟨x9.1, x9.2.1⟩ : ref17_Spot)))) rfl ?_
   refine TL.op1 (OpR.pickF rfl (beq_eq_false_iff_ne.2 c33) rfl) rfl ?_
   refine aA rfl rfl ?_
   rcases ite_some ht32 with ⟨c35, ht32⟩ | ⟨c35, ht32⟩
   rotate_left
   · refine TL.off rfl rfl rfl rfl (beq_eq_false_iff_ne.2 c35) rfl rfl ?_
     refine TL.op1 (OpR.pickF rfl (beq_eq_false_iff_ne.2 c35) rfl) rfl ?_
     refine aA rfl rfl ?_
     refine TL.nil ?_
     obtain rfl := osi ht32
     exact ⟨_, gP [6] [] rfl rfl rfl, rfl⟩
   refine TL.on rfl rfl rfl rfl (beq_iff_eq.2 c35) ?_
   obtain ⟨x36, hx36, ht32⟩ := bS ht32
   refine TL.op1 (OpR.call0 fn14 (law17_awake_c hx36) rfl) rfl ?_
   refine TL.op1 (OpR.pickT rfl (beq_iff_eq.2 c35) rfl) rfl ?_
   refine aA rfl rfl ?_
   refine TL.nil ?_
   obtain rfl := osi ht32
   exact ⟨_, gP [6] [] rfl rfl rfl, rfl⟩
 refine T.block ?_
 obtain ⟨n15, n20⟩ := loop_some ht12
 refine T.loop (fun n S' => ∃ S'', Gst S' S'' ∧ ∃ s14 : Int × Int × Int, S'' = ⟨[(17, (dN s14.2.2)), (16, (dP (blk p11))), (14, (dN s14.2.1)), (13, (dN s14.1)), (12, (dN x8)), (11, .sl 1 (lB x7)), (8, (dP (blk (vn w3 0)))), (7, (dP (blk p4))), (6, (dT false))], [.var (blk p4) [(eOP x2.1.fRows.fRoot), dT x2.1.fTail, dN x2.1.fEnd] 120, .var (blk (vn w3 0)) [.val (vn w3 1)] 142, .var (blk p11) [dN x9.1, dN x9.2.1] 130, .row (vn w3 1) (lB x2.2.2.2) 1 5], 130⟩ ∧ iter (law17_FindRound.l1 x2 x7 x8 x9) n s14 = some t12) n15 ?_ ?_
 · exact ⟨_, gP [6, 7, 8, 11, 12, 13, 14, 16, 17] [2, 0, 4, 1] rfl rfl rfl, (x9.1, x9.2.1, 0), rfl, n20⟩
 rintro n15 _ ⟨_, g, s14, rfl, i19⟩
 refine T.ghost g ?_
 obtain ⟨m16, q17, rfl, q18, i19⟩ := iter_succ i19
 unfold law17_FindRound.l1 at q18
 refine T.seq ?_
 refine aS ?_
 iterate 3 refine aA rfl rfl ?_
 refine aN rfl ?_
 rcases ite_some q18 with ⟨c22, q18⟩ | ⟨c22, q18⟩
 rotate_left
 · refine T.condF rfl (eF c22) ?_
   refine T.exit ?_
   obtain rfl := osi q18
   obtain rfl : _ = _ := i19
   exact ⟨_, gP [6, 12, 13, 14, 16] [2] rfl rfl rfl, _, rfl, rfl⟩
 refine T.condT rfl (eT c22) ?_
 refine aK rfl ?_
 refine T.seq ?_
 refine T.block ?_
 refine aS ?_
 refine TL.op1 (OpR.loadPtr 0 rfl rfl rfl rfl) rfl ?_
 iterate 4 refine aA rfl rfl ?_
 obtain ⟨x23, hx23, q18⟩ := bS q18
 refine TL.op1 (OpR.call [1, 3] fn57 (find_Next_c hx23) rfl rfl rfl (fun _ => rfl)) rfl ?_
 iterate 7 refine aA rfl rfl ?_
 refine aN rfl ?_
 refine aS ?_
 refine TL.op1 (OpR.loadPtr 0 rfl rfl rfl rfl) rfl ?_
 iterate 4 refine aA rfl rfl ?_
 obtain ⟨x24, hx24, q18⟩ := bS q18
 refine TL.op1 (OpR.call [1, 3] fn58 (find_Prev_c hx24) rfl rfl rfl (fun _ => rfl)) rfl ?_
 iterate 7 refine aA rfl rfl ?_
 refine aN rfl ?_
 refine T.seq ?_
 refine T.seq ?_
 obtain ⟨t25, ht25, q18⟩ := bS q18
 refine T.cutC (fun S' => S' = ⟨[(115, (dT t25)), (19, (dN x23.2.1)), (18, (dN x23.1)), (17, (dN s14.2.2)), (16, (dP (blk p11))), (14, (dN s14.2.1)), (13, (dN s14.1)), (12, (dN x8)), (11, .sl 1 (lB x7)), (8, (dP (blk (vn w3 0)))), (7, (dP (blk p4))), (6, (dT false))], [.var (blk p4) [(eOP x2.1.fRows.fRoot), dT x2.1.fTail, dN x2.1.fEnd] 120, .var (blk (vn w3 0)) [.val (vn w3 1)] 142, .var (blk p11) [dN x9.1, dN x9.2.1] 130, .row (vn w3 1) (lB x2.2.2.2) 1 5], 130⟩) (fun _ h => h) ?_ ?_
 rotate_left
 · rintro _ rfl
   show T X _ _ _
   rcases ite_some q18 with ⟨c31, q18⟩ | ⟨c31, q18⟩
   · refine T.condT rfl (c31) ?_
     refine aS ?_
     refine aA rfl rfl ?_
     refine aN rfl ?_
     refine T.ret ?_
     obtain rfl := osi q18
     obtain rfl : _ = _ := i19
     obtain rfl := osi h0
     exact rP [] [6] [] rfl rfl rfl undef (cT rfl ResL.nil) rfl rfl rfl rfl
   refine T.condF rfl (eq_false_of_ne_true c31) ?_
   refine aK rfl ?_
   refine T.region ?_
   iterate 4 refine aA rfl rfl ?_
   refine aN rfl ?_
   refine T.region ?_
   iterate 3 refine aA rfl rfl ?_
   refine TL.nil ?_
   obtain rfl := osi q18
   exact ⟨m16, Nat.lt_succ_self _, _, Gst.only [6, 7, 8, 11, 12, 13, 14, 16, 17] rfl, (x23.1, x23.2.1, w64 (s14.2.2 + 1)), rfl, i19⟩
 refine T.region ?_
 iterate 3 refine aA rfl rfl ?_
 rcases ite_some ht25 with ⟨c26, ht25⟩ | ⟨c26, ht25⟩
 rotate_left
 · refine TL.off rfl rfl rfl rfl (not_f (eq_false_of_ne_true c26)) rfl rfl ?_
   refine TL.off rfl rfl rfl rfl (not_f (eq_false_of_ne_true c26)) rfl rfl ?_
   refine TL.op1 (OpR.pickT rfl (not_f (eq_false_of_ne_true c26)) rfl) rfl ?_
   refine aA rfl rfl ?_
   refine TL.off rfl rfl rfl rfl rfl rfl rfl ?_
   refine TL.off rfl rfl rfl rfl rfl rfl rfl ?_
   refine TL.off rfl rfl rfl rfl rfl rfl rfl ?_
   refine TL.op1 (OpR.pickT rfl rfl rfl) rfl ?_
   refine aA rfl rfl ?_
   refine TL.off rfl rfl rfl rfl rfl rfl rfl ?_
   refine TL.off rfl rfl rfl rfl rfl rfl rfl ?_
   refine TL.off rfl rfl rfl rfl rfl rfl rfl ?_
   refine TL.op1 (OpR.pickT rfl rfl rfl) rfl ?_
   refine aA rfl rfl ?_
   refine TL.off rfl rfl rfl rfl rfl rfl rfl ?_
   refine TL.off rfl rfl rfl rfl rfl rfl rfl ?_
   refine TL.off rfl rfl rfl rfl rfl rfl rfl ?_
   refine TL.off rfl rfl rfl rfl rfl rfl rfl ?_
   refine TL.off rfl rfl rfl rfl rfl rfl rfl ?_
   refine TL.offU rfl rfl rfl rfl rfl rfl ?_
   refine TL.offU rfl rfl rfl rfl rfl rfl ?_
   refine TL.offU rfl rfl rfl rfl rfl rfl ?_
   refine TL.offU rfl rfl rfl rfl rfl rfl ?_
   refine TL.offU rfl rfl rfl rfl rfl rfl ?_
   refine TL.off rfl rfl rfl rfl rfl rfl rfl ?_
   refine TL.op1 (OpR.pickT rfl rfl rfl) rfl ?_
   refine TL.nil ?_
   obtain rfl := osi ht25
   exact ⟨_, Gst.only [6, 7, 8, 11, 12, 13, 14, 16, 17, 18, 19, 115] rfl, rfl⟩
 refine TL.on rfl rfl rfl rfl (not_t (c26)) ?_
 refine aA rfl rfl ?_
 refine TL.on rfl rfl rfl rfl (not_t (c26)) ?_
 refine aA rfl rfl ?_
 refine TL.op1 (OpR.pickF rfl (not_t (c26)) rfl) rfl ?_
 refine aA rfl rfl ?_
 rcases ite_some ht25 with ⟨c27, ht25⟩ | ⟨c27, ht25⟩
 rotate_left
 · refine TL.off rfl rfl rfl rfl (not_f (eq_false_of_ne_true c27)) rfl rfl ?_
   refine TL.off rfl rfl rfl rfl (not_f (eq_false_of_ne_true c27)) rfl rfl ?_
   refine TL.off rfl rfl rfl rfl (not_f (eq_false_of_ne_true c27)) rfl rfl ?_
   refine TL.op1 (OpR.pickT rfl (not_f (eq_false_of_ne_true c27)) rfl) rfl ?_
   refine aA rfl rfl ?_
   refine TL.off rfl rfl rfl rfl rfl rfl rfl ?_
   refine TL.off rfl rfl rfl rfl rfl rfl rfl ?_
   refine TL.off rfl rfl rfl rfl rfl rfl rfl ?_
   refine TL.op1 (OpR.pickT rfl rfl rfl) rfl ?_
   refine aA rfl rfl ?_
   refine TL.off rfl rfl rfl rfl rfl rfl rfl ?_
   refine TL.off rfl rfl rfl rfl rfl rfl rfl ?_
   refine TL.off rfl rfl rfl rfl rfl rfl rfl ?_
   refine TL.off rfl rfl rfl rfl rfl rfl rfl ?_
   refine TL.off rfl rfl rfl rfl rfl rfl rfl ?_
   refine TL.offU rfl rfl rfl rfl rfl rfl ?_
   refine TL.offU rfl rfl rfl rfl rfl rfl ?_
   refine TL.offU rfl rfl rfl rfl rfl rfl ?_
   refine TL.offU rfl rfl rfl rfl rfl rfl ?_
   refine TL.offU rfl rfl rfl rfl rfl rfl ?_
   refine TL.off rfl rfl rfl rfl rfl rfl rfl ?_
   refine TL.op1 (OpR.pickT rfl rfl rfl) rfl ?_
   refine TL.nil ?_
   obtain rfl := osi ht25
   exact ⟨_, Gst.only [6, 7, 8, 11, 12, 13, 14, 16, 17, 18, 19, 115] rfl, rfl⟩
 refine TL.on rfl rfl rfl rfl (not_t (c27)) ?_
 refine aA rfl rfl ?_
 refine TL.on rfl rfl rfl rfl (not_t (c27)) ?_
 refine aA rfl rfl ?_
 refine TL.on rfl rfl rfl rfl (not_t (c27)) ?_
 refine aA rfl rfl ?_
 refine TL.op1 (OpR.pickF rfl (not_t (c27)) rfl) rfl ?_
 refine aA rfl rfl ?_
 rcases ite_some ht25 with ⟨c28, ht25⟩ | ⟨c28, ht25⟩
 rotate_left
 · refine TL.off rfl rfl rfl rfl (not_f (beq_eq_false_iff_ne.2 c28)) rfl rfl ?_
   refine TL.off rfl rfl rfl rfl (not_f (beq_eq_false_iff_ne.2 c28)) rfl rfl ?_
   refine TL.off rfl rfl rfl rfl (not_f (beq_eq_false_iff_ne.2 c28)) rfl rfl ?_
   refine TL.op1 (OpR.pickT rfl (not_f (beq_eq_false_iff_ne.2 c28)) rfl) rfl ?_
   refine aA rfl rfl ?_
   refine TL.off rfl rfl rfl rfl rfl rfl rfl ?_
   refine TL.off rfl rfl rfl rfl rfl rfl rfl ?_
   refine TL.off rfl rfl rfl rfl rfl rfl rfl ?_
   refine TL.off rfl rfl rfl rfl rfl rfl rfl ?_
   refine TL.off rfl rfl rfl rfl rfl rfl rfl ?_
   refine TL.offU rfl rfl rfl rfl rfl rfl ?_
   refine TL.offU rfl rfl rfl rfl rfl rfl ?_
   refine TL.offU rfl rfl rfl rfl rfl rfl ?_
   refine TL.offU rfl rfl rfl rfl rfl rfl ?_
   refine TL.offU rfl rfl rfl rfl rfl rfl ?_
   refine TL.off rfl rfl rfl rfl rfl rfl rfl ?_
   refine TL.op1 (OpR.pickT rfl rfl rfl) rfl ?_
   refine TL.nil ?_
   obtain rfl := osi ht25
   exact ⟨_, Gst.only [6, 7, 8, 11, 12, 13, 14, 16, 17, 18, 19, 115] rfl, rfl⟩
 refine TL.on rfl rfl rfl rfl (not_t (beq_iff_eq.2 c28)) ?_
 refine aA rfl rfl ?_
 refine TL.on rfl rfl rfl rfl (not_t (beq_iff_eq.2 c28)) ?_
 refine aA rfl rfl ?_
 refine TL.on rfl rfl rfl rfl (not_t (beq_iff_eq.2 c28)) ?_
 refine aA rfl rfl ?_
 refine TL.op1 (OpR.pickF rfl (not_t (beq_iff_eq.2 c28)) rfl) rfl ?_
 refine aA rfl rfl ?_
 rcases ite_some ht25 with ⟨c29, ht25⟩ | ⟨c29, ht25⟩
 rotate_left
 · refine TL.off rfl rfl rfl rfl (not_f (beq_eq_false_iff_ne.2 c29)) rfl rfl ?_
   refine TL.off rfl rfl rfl rfl (not_f (beq_eq_false_iff_ne.2 c29)) rfl rfl ?_
   refine TL.off rfl rfl rfl rfl (not_f (beq_eq_false_iff_ne.2 c29)) rfl rfl ?_
   refine TL.off rfl rfl rfl rfl (not_f (beq_eq_false_iff_ne.2 c29)) rfl rfl ?_
   refine TL.off rfl rfl rfl rfl (not_f (beq_eq_false_iff_ne.2 c29)) rfl rfl ?_
   refine TL.offU rfl rfl rfl rfl rfl rfl ?_
   refine TL.offU rfl rfl rfl rfl rfl rfl ?_
   refine TL.offU rfl rfl rfl rfl rfl rfl ?_
   refine TL.offU rfl rfl rfl rfl rfl rfl ?_
   refine TL.offU rfl rfl rfl rfl rfl rfl ?_
   refine TL.off rfl rfl rfl rfl (not_f (beq_eq_false_iff_ne.2 c29)) rfl rfl ?_
   refine TL.op1 (OpR.pickT rfl (not_f (beq_eq_false_iff_ne.2 c29)) rfl) rfl ?_
   refine TL.nil ?_
   obtain rfl := osi ht25
   exact ⟨_, Gst.only [6, 7, 8, 11, 12, 13, 14, 16, 17, 18, 19, 115] rfl, rfl⟩
 refine TL.on rfl rfl rfl rfl (not_t (beq_iff_eq.2 c29)) ?_
 refine aA rfl rfl ?_
 refine TL.on rfl rfl rfl rfl (not_t (beq_iff_eq.2 c29)) ?_
 refine aA rfl rfl ?_
 refine TL.on rfl rfl rfl rfl (not_t (beq_iff_eq.2 c29)) ?_
 refine aA rfl rfl ?_
 refine TL.on rfl rfl rfl rfl (not_t (beq_iff_eq.2 c29)) ?_
 refine aA rfl rfl ?_
 refine TL.on rfl rfl rfl rfl (not_t (beq_iff_eq.2 c29)) ?_
 refine aA rfl rfl ?_
 rcases ite_some ht25 with ⟨c30, ht25⟩ | ⟨c30, ht25⟩
 rotate_left
 · refine TL.off rfl rfl rfl rfl (eF c30) rfl rfl ?_
   refine TL.off rfl rfl rfl rfl (eF c30) rfl rfl ?_
   refine TL.off rfl rfl rfl rfl (eF c30) rfl rfl ?_
   refine TL.off rfl rfl rfl rfl (eF c30) rfl rfl ?_
   refine TL.off rfl rfl rfl rfl (eF c30) rfl rfl ?_
   refine TL.on rfl rfl rfl rfl (not_t (beq_iff_eq.2 c29)) ?_
   refine TL.op1 (OpR.pickF rfl (eF c30) rfl) rfl ?_
   refine TL.op1 (OpR.pickF rfl (not_t (beq_iff_eq.2 c29)) rfl) rfl ?_
   refine TL.nil ?_
   obtain rfl := osi ht25
   exact ⟨_, Gst.only [6, 7, 8, 11, 12, 13, 14, 16, 17, 18, 19, 115] rfl, rfl⟩
 refine TL.on rfl rfl rfl rfl (eT c30) ?_
 refine aA rfl rfl ?_
 refine TL.on rfl rfl rfl rfl (eT c30) ?_
 refine aA rfl rfl ?_
 refine TL.on rfl rfl rfl rfl (eT c30) ?_
 refine TL.op1 (OpR.build rfl rfl rfl rfl rfl) rfl ?_
 refine TL.on rfl rfl rfl rfl (eT c30) ?_
 refine TL.op1 (OpR.loadPtr 2 rfl rfl rfl rfl) rfl ?_
 refine TL.on rfl rfl rfl rfl (eT c30) ?_
 refine TL.op1 (OpR.cast (OpR.eqStruct rfl rfl rfl rfl rfl (by kernel_rfl) (by kernel_rfl)) (boolE (beq_ref17_Spot (⟨x23.1, x23.2.1⟩ : ref17_Spot) (⟨x9.1, x9.2.1⟩ : ref17_Spot)))) rfl ?_
 refine TL.on rfl rfl rfl rfl (not_t (beq_iff_eq.2 c29)) ?_
 refine TL.op1 (OpR.pickT rfl (eT c30) rfl) rfl ?_
 refine TL.op1 (OpR.pickF rfl (not_t (beq_iff_eq.2 c29)) rfl) rfl ?_
 refine TL.nil ?_
 obtain rfl := osi ht25
 exact ⟨_, Gst.only [6, 7, 8, 11, 12, 13, 14, 16, 17, 18, 19, 115] rfl, rfl⟩
end Go.Proofs.Ytbcbggdgkdfciaa.S
