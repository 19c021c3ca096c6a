/- Printed by a program of this session's own (gen.py): Lean functions for Go functions, and the proofs that the Go code comes to their answers. -/
import Derived.Test.YtpmhiiemklhbhaaGreatG2xb
import Derived.Test.YtpmhiiemklhbhaaGreatG2xd
set_option maxHeartbeats 4000000
set_option linter.unusedVariables false
set_option linter.unusedSimpArgs false
set_option maxRecDepth 20000
namespace Go.Proofs.YtpmhiiemklhbhaaGreat.S
open Go Go.Sm
attribute [local irreducible] T TL OpR CallT iter loop
noncomputable def law11_Cut (a0 : List UInt8) (a1 : Int) : Option (List UInt8) :=
  if (a0.length : Int) > a1 then
    bnd (cut a0 0 a1) fun x2 =>
    some x2
  else
    some a0
theorem law11_Cut_c {a0 : List UInt8} {a1 : Int} {res : (List UInt8)} (h0 : law11_Cut a0 a1 = some res) : CallF X 15 [.val (.string (bs a0)), dN a1] [] (fun x => .val (.string (bs res))) (fun x => []) := by
 unfold law11_Cut at h0
 refine CallF.mkG (X := X) rfl Tryz.func15 rfl rfl Tryz.ntmps15 rfl rfl ?_
 refine aS ?_
 refine aA rfl rfl ?_
 refine aN rfl ?_
 refine T.seq ?_
 refine aS ?_
 refine aA rfl rfl ?_
 refine TL.op1 (OpR.cast (OpR.pure rfl) (intE (lenS _))) rfl ?_
 iterate 2 refine aA rfl rfl ?_
 refine aN rfl ?_
 rcases ite_some h0 with ⟨c1, h0⟩ | ⟨c1, h0⟩
 rotate_left
 · refine T.condF rfl (eF c1) ?_
   refine aK rfl ?_
   refine aS ?_
   iterate 2 refine aA rfl rfl ?_
   refine aN rfl ?_
   refine T.ret ?_
   obtain rfl := osi h0
   exact rO [] [4] rfl undef (cT rfl ResL.nil) rfl rfl rfl rfl
 refine T.condT rfl (eT c1) ?_
 refine aS ?_
 iterate 2 refine aA rfl rfl ?_
 obtain ⟨x2, hx2, h0⟩ := bS h0
 refine TL.op1 (OpR.sliceS hx2 rfl rfl rfl BdM.none (BdM.some rfl)) rfl ?_
 refine aA rfl rfl ?_
 refine aN rfl ?_
 refine T.ret ?_
 obtain rfl := osi h0
 exact rO [] [4] rfl undef (cT rfl ResL.nil) rfl rfl rfl rfl
noncomputable def ref07_Same.l1 (a0 : List ref07_Cell) (a1 : List ref07_Cell) (s4 : Int) : Option (Lp Int (Ex Unit Bool)) :=
  if s4 < (a0.length : Int) then
    bnd (idx a0 s4) fun x14 =>
    bnd (idx a1 s4) fun x15 =>
    if x14 = x15 then
      some (Lp.next (w64 (s4 + 1)))
    else
      some (Lp.done (Ex.ret false))
  else
    some (Lp.done (Ex.brk ()))
noncomputable def ref07_Same (a0 : List ref07_Cell) (a1 : List ref07_Cell) : Option Bool :=
  if (a0.length : Int) = (a1.length : Int) then
    bnd (loop (ref07_Same.l1 a0 a1) 0 : Option (Ex Unit Bool)) fun t2 => match t2 with
      | .brk u3 =>
        some true
      | .ret u3 => some u3
  else
    some false
theorem ref07_Same_c {a0 : List ref07_Cell} {a1 : List ref07_Cell} {res : Bool} (h0 : ref07_Same a0 a1 = some res) : CallF X 30 [.sl 3 (List.map e_ref07_Cell a0), .sl 3 (List.map e_ref07_Cell a1)] [] (fun x => (dT res)) (fun x => []) := by
 unfold ref07_Same at h0
 refine CallF.mkG (X := X) rfl Tryz.func30 rfl rfl Tryz.ntmps30 rfl rfl ?_
 refine aS ?_
 refine aA rfl rfl ?_
 refine aN rfl ?_
 refine T.seq ?_
 refine aS ?_
 refine aA rfl rfl ?_
 refine TL.op1 (OpR.cast (OpR.pure rfl) (intE (lenM _ _))) rfl ?_
 refine aA rfl rfl ?_
 refine TL.op1 (OpR.cast (OpR.pure rfl) (intE (lenM _ _))) rfl ?_
 refine aA rfl rfl ?_
 refine aN rfl ?_
 rcases ite_some h0 with ⟨c1, h0⟩ | ⟨c1, h0⟩
 rotate_left
 · refine T.condT rfl (not_f (beq_eq_false_iff_ne.2 c1)) ?_
   refine aS ?_
   refine aA rfl rfl ?_
   refine aN rfl ?_
   refine T.ret ?_
   obtain rfl := osi h0
   exact rO [] [4] rfl undef (cT rfl ResL.nil) rfl rfl rfl rfl
 refine T.condF rfl (not_t (beq_iff_eq.2 c1)) ?_
 refine aK rfl ?_
 refine T.seq ?_
 refine aS ?_
 refine aA rfl rfl ?_
 refine TL.op1 (OpR.cast (OpR.pure rfl) (intE (lenM _ _))) rfl ?_
 refine aA rfl rfl ?_
 refine aN rfl ?_
 obtain ⟨t2, ht2, h0⟩ := bS h0
 refine T.cutC (fun S' => ∃ u3, t2 = Ex.brk u3 ∧ S' = ⟨[(4, (dT false))], [], 26⟩) (fun _ h => h) ?_ ?_
 rotate_left
 · rintro _ ⟨u3, rfl, rfl⟩
   show T X _ _ _
   refine aS ?_
   refine aA rfl rfl ?_
   refine aN rfl ?_
   refine T.ret ?_
   obtain rfl := osi h0
   exact rO [] [4] rfl undef (cT rfl ResL.nil) rfl rfl rfl rfl
 refine T.block ?_
 obtain ⟨n5, n10⟩ := loop_some ht2
 refine T.loop (fun n S' => ∃ S'', Gst S' S'' ∧ ∃ s4 : Int, S'' = ⟨[(13, (dN s4)), (12, (dN (a0.length : Int))), (4, (dT false)), (1, .sl 3 (List.map e_ref07_Cell a1)), (0, .sl 3 (List.map e_ref07_Cell a0))], [], 26⟩ ∧ iter (ref07_Same.l1 a0 a1) n s4 = some t2) n5 ?_ ?_
 · exact ⟨_, Gst.only [0, 1, 4, 12, 13] rfl, 0, rfl, n10⟩
 rintro n5 _ ⟨_, g, s4, rfl, i9⟩
 refine T.ghost g ?_
 obtain ⟨m6, q7, rfl, q8, i9⟩ := iter_succ i9
 unfold ref07_Same.l1 at q8
 refine aS ?_
 refine aA rfl rfl ?_
 refine aN rfl ?_
 refine T.seq ?_
 rcases ite_some q8 with ⟨c12, q8⟩ | ⟨c12, q8⟩
 rotate_left
 · refine T.condF rfl (eF c12) ?_
   refine T.exit ?_
   obtain rfl := osi q8
   obtain rfl : _ = _ := i9
   exact ⟨_, Gst.only [4] rfl, _, rfl, rfl⟩
 refine T.condT rfl (eT c12) ?_
 refine aK rfl ?_
 refine T.seq ?_
 refine T.block ?_
 refine aS ?_
 iterate 2 refine aA rfl rfl ?_
 refine aN rfl ?_
 refine T.seq ?_
 obtain ⟨x14, hx14, q8⟩ := bS q8
 obtain ⟨x15, hx15, q8⟩ := bS q8
 refine T.drawQ drawsX [.sl 3 (List.map e_ref07_Cell a0), dN s4, .nod [.val (.string (bs x14.fS)), .val (.string (bs x14.fRaw)), dT x14.fKept], .agg [.val (.string (bs x14.fS)), .val (.string (bs x14.fRaw)), dT x14.fKept], .sl 3 (List.map e_ref07_Cell a1), dN s4, .nod [.val (.string (bs x15.fS)), .val (.string (bs x15.fRaw)), dT x15.fKept], .agg [.val (.string (bs x15.fS)), .val (.string (bs x15.fRaw)), dT x15.fKept], dT (!(x14 == x15))] [0, 1, 4, 12, 13, 24] (by decide +kernel) rfl ?_ rfl ?_
 · iterate 2 refine aB rfl rfl rfl ?_
   refine OpsQ.yes (Want.plain rfl) rfl (OpR.indexM e_ref07_Cell hx14 rfl rfl rfl rfl rfl) ?_
   iterate 3 refine aB rfl rfl rfl ?_
   refine OpsQ.yes (Want.plain rfl) rfl (OpR.indexM e_ref07_Cell hx15 rfl rfl rfl rfl rfl) ?_
   refine aB rfl rfl rfl ?_
   refine OpsQ.yes (Want.plain rfl) rfl (OpR.cast (OpR.neStruct rfl rfl rfl rfl rfl (by kernel_rfl) (by kernel_rfl)) (boolE (congrArg (fun b => !b) (beq_ref07_Cell x14 x15)))) ?_
   exact OpsQ.nil
 show T X _ _ _
 rcases ite_some q8 with ⟨c16, q8⟩ | ⟨c16, q8⟩
 · refine T.condF rfl (not_t (beq_iff_eq.2 c16)) ?_
   refine aK rfl ?_
   refine T.region ?_
   iterate 2 refine aA rfl rfl ?_
   refine TL.nil ?_
   obtain rfl := osi q8
   exact ⟨m6, Nat.lt_succ_self _, _, Gst.only [0, 1, 4, 12, 13] rfl, w64 (s4 + 1), rfl, i9⟩
 refine T.condT rfl (not_f (beq_eq_false_iff_ne.2 c16)) ?_
 refine aS ?_
 refine aA rfl rfl ?_
 refine aN rfl ?_
 refine T.ret ?_
 obtain rfl := osi q8
 obtain rfl : _ = _ := i9
 obtain rfl := osi h0
 exact rO [] [4] rfl undef (cT rfl ResL.nil) rfl rfl rfl rfl
noncomputable def ref08_Same (a0 : ref08_Row) (a1 : ref08_Row) : Option Bool :=
  bnd (if a0.fEnd = a1.fEnd then
    if (a0.fHidden == a1.fHidden) = true then
      bnd (ref07_Same a0.fCells a1.fCells) fun x4 =>
      some x4
    else
      some false
  else
    some false : Option Bool) fun t1 =>
  some t1
theorem ref08_Same_c {a0 : ref08_Row} {a1 : ref08_Row} {res : Bool} (h0 : ref08_Same a0 a1 = some res) : CallF X 65 [.agg [.sl 3 (List.map e_ref07_Cell a0.fCells), dN a0.fEnd, dT a0.fHidden], .agg [.sl 3 (List.map e_ref07_Cell a1.fCells), dN a1.fEnd, dT a1.fHidden]] [] (fun x => (dT res)) (fun x => []) := by
 unfold ref08_Same at h0
 refine CallF.mkG (X := X) rfl Tryz.func65 rfl rfl Tryz.ntmps65 rfl rfl ?_
 refine aS ?_
 refine TL.op1 (OpR.boxImm rfl rfl) rfl ?_
 refine TL.op1 (OpR.boxImm rfl rfl) rfl ?_
 refine aA rfl rfl ?_
 refine aN rfl ?_
 refine T.seq ?_
 obtain ⟨t1, ht1, h0⟩ := bS h0
 refine T.cutC (fun S' => S' = ⟨[(4, (dT t1))], [], 24⟩) (fun _ h => h) ?_ ?_
 rotate_left
 · rintro _ rfl
   show T X _ _ _
   refine T.ret ?_
   obtain rfl := osi h0
   exact rO [] [4] rfl undef (cT rfl ResL.nil) rfl rfl rfl rfl
 refine T.region ?_
 iterate 6 refine aA rfl rfl ?_
 rcases ite_some ht1 with ⟨c2, ht1⟩ | ⟨c2, ht1⟩
 rotate_left
 · refine TL.off rfl rfl rfl rfl (beq_eq_false_iff_ne.2 c2) rfl rfl ?_
   refine TL.off rfl rfl rfl rfl (beq_eq_false_iff_ne.2 c2) rfl rfl ?_
   refine TL.off rfl rfl rfl rfl (beq_eq_false_iff_ne.2 c2) rfl rfl ?_
   refine TL.off rfl rfl rfl rfl (beq_eq_false_iff_ne.2 c2) rfl rfl ?_
   refine TL.off rfl rfl rfl rfl (beq_eq_false_iff_ne.2 c2) rfl rfl ?_
   refine TL.op1 (OpR.pickF rfl (beq_eq_false_iff_ne.2 c2) rfl) rfl ?_
   refine aA rfl rfl ?_
   refine TL.off rfl rfl rfl rfl rfl rfl rfl ?_
   refine TL.off rfl rfl rfl rfl rfl rfl rfl ?_
   refine TL.off rfl rfl rfl rfl rfl rfl rfl ?_
   refine TL.off rfl rfl rfl rfl rfl rfl rfl ?_
   refine TL.off rfl rfl rfl rfl rfl rfl rfl ?_
   refine TL.op1 (OpR.pickF rfl rfl rfl) rfl ?_
   refine aA rfl rfl ?_
   refine TL.nil ?_
   obtain rfl := osi ht1
   exact ⟨_, Gst.only [4] rfl, rfl⟩
 refine TL.on rfl rfl rfl rfl (beq_iff_eq.2 c2) ?_
 refine aA rfl rfl ?_
 refine TL.on rfl rfl rfl rfl (beq_iff_eq.2 c2) ?_
 refine aA rfl rfl ?_
 refine TL.on rfl rfl rfl rfl (beq_iff_eq.2 c2) ?_
 refine aA rfl rfl ?_
 refine TL.on rfl rfl rfl rfl (beq_iff_eq.2 c2) ?_
 refine aA rfl rfl ?_
 refine TL.on rfl rfl rfl rfl (beq_iff_eq.2 c2) ?_
 refine TL.op1 (OpR.eqBool rfl rfl rfl rfl) rfl ?_
 refine TL.op1 (OpR.pickT rfl (beq_iff_eq.2 c2) rfl) rfl ?_
 refine aA rfl rfl ?_
 rcases ite_some ht1 with ⟨c3, ht1⟩ | ⟨c3, ht1⟩
 rotate_left
 · refine TL.off rfl rfl rfl rfl (eq_false_of_ne_true c3) rfl rfl ?_
   refine TL.off rfl rfl rfl rfl (eq_false_of_ne_true c3) rfl rfl ?_
   refine TL.off rfl rfl rfl rfl (eq_false_of_ne_true c3) rfl rfl ?_
   refine TL.off rfl rfl rfl rfl (eq_false_of_ne_true c3) rfl rfl ?_
   refine TL.off rfl rfl rfl rfl (eq_false_of_ne_true c3) rfl rfl ?_
   refine TL.op1 (OpR.pickF rfl (eq_false_of_ne_true c3) rfl) rfl ?_
   refine aA rfl rfl ?_
   refine TL.nil ?_
   obtain rfl := osi ht1
   exact ⟨_, Gst.only [4] rfl, rfl⟩
 refine TL.on rfl rfl rfl rfl (c3) ?_
 refine aA rfl rfl ?_
 refine TL.on rfl rfl rfl rfl (c3) ?_
 refine aA rfl rfl ?_
 refine TL.on rfl rfl rfl rfl (c3) ?_
 refine aA rfl rfl ?_
 refine TL.on rfl rfl rfl rfl (c3) ?_
 refine aA rfl rfl ?_
 refine TL.on rfl rfl rfl rfl (c3) ?_
 obtain ⟨x4, hx4, ht1⟩ := bS ht1
 refine TL.op1 (OpR.call0 fn30 (ref07_Same_c hx4) rfl) rfl ?_
 refine TL.op1 (OpR.pickT rfl (c3) rfl) rfl ?_
 refine aA rfl rfl ?_
 refine TL.nil ?_
 obtain rfl := osi ht1
 exact ⟨_, Gst.only [4] rfl, rfl⟩
noncomputable def ref11_Same.l1 (a0 : ref11_Grid) (a1 : ref11_Grid) (s7 : Int) : Option (Lp Int (Ex Unit Bool)) :=
  if s7 < (a0.fRows.length : Int) then
    bnd (idx a0.fRows s7) fun x17 =>
    bnd (idx a1.fRows s7) fun x18 =>
    bnd (ref08_Same x17 x18) fun x19 =>
    if x19 = true then
      some (Lp.next (w64 (s7 + 1)))
    else
      some (Lp.done (Ex.ret false))
  else
    some (Lp.done (Ex.brk ()))
noncomputable def ref11_Same (a0 : ref11_Grid) (a1 : ref11_Grid) : Option Bool :=
  bnd (if (a0.fRows.length : Int) = (a1.fRows.length : Int) then
    if (a0.fTail == a1.fTail) = true then
      some (!(a0.fEnd == a1.fEnd))
    else
      some true
  else
    some true : Option Bool) fun t1 =>
  if t1 = true then
    some false
  else
    bnd (loop (ref11_Same.l1 a0 a1) 0 : Option (Ex Unit Bool)) fun t5 => match t5 with
      | .brk u6 =>
        some true
      | .ret u6 => some u6
theorem ref11_Same_c {a0 : ref11_Grid} {a1 : ref11_Grid} {res : Bool} (h0 : ref11_Same a0 a1 = some res) : CallF X 18 [.agg [.sl 3 (List.map e_ref08_Row a0.fRows), dT a0.fTail, dN a0.fEnd], .agg [.sl 3 (List.map e_ref08_Row a1.fRows), dT a1.fTail, dN a1.fEnd]] [] (fun x => (dT res)) (fun x => []) := by
 unfold ref11_Same at h0
 refine CallF.mkG (X := X) rfl Tryz.func18 rfl rfl Tryz.ntmps18 rfl rfl ?_
 refine aS ?_
 refine TL.op1 (OpR.boxImm rfl rfl) rfl ?_
 refine TL.op1 (OpR.boxImm rfl rfl) rfl ?_
 refine aA rfl rfl ?_
 refine aN rfl ?_
 refine T.seq ?_
 refine T.seq ?_
 obtain ⟨t1, ht1, h0⟩ := bS h0
 refine T.cutC (fun S' => S' = ⟨[(26, (dT t1)), (4, (dT false)), (3, .nod [.sl 3 (List.map e_ref08_Row a1.fRows), dT a1.fTail, dN a1.fEnd]), (2, .nod [.sl 3 (List.map e_ref08_Row a0.fRows), dT a0.fTail, dN a0.fEnd])], [], 46⟩) (fun _ h => h) ?_ ?_
 · refine T.region ?_
   iterate 2 refine aA rfl rfl ?_
   refine TL.op1 (OpR.cast (OpR.pure rfl) (intE (lenM _ _))) rfl ?_
   iterate 2 refine aA rfl rfl ?_
   refine TL.op1 (OpR.cast (OpR.pure rfl) (intE (lenM _ _))) rfl ?_
   iterate 2 refine aA rfl rfl ?_
   rcases ite_some ht1 with ⟨c2, ht1⟩ | ⟨c2, ht1⟩
   rotate_left
   · refine TL.off rfl rfl rfl rfl (not_f (beq_eq_false_iff_ne.2 c2)) rfl rfl ?_
     refine TL.off rfl rfl rfl rfl (not_f (beq_eq_false_iff_ne.2 c2)) rfl rfl ?_
     refine TL.off rfl rfl rfl rfl (not_f (beq_eq_false_iff_ne.2 c2)) rfl rfl ?_
     refine TL.off rfl rfl rfl rfl (not_f (beq_eq_false_iff_ne.2 c2)) rfl rfl ?_
     refine TL.off rfl rfl rfl rfl (not_f (beq_eq_false_iff_ne.2 c2)) rfl rfl ?_
     refine TL.op1 (OpR.pickT rfl (not_f (beq_eq_false_iff_ne.2 c2)) rfl) rfl ?_
     refine aA rfl rfl ?_
     refine TL.off rfl rfl rfl rfl rfl rfl rfl ?_
     refine TL.off rfl rfl rfl rfl rfl rfl rfl ?_
     refine TL.off rfl rfl rfl rfl rfl rfl rfl ?_
     refine TL.off rfl rfl rfl rfl rfl rfl rfl ?_
     refine TL.off rfl rfl rfl rfl rfl rfl rfl ?_
     refine TL.op1 (OpR.pickT rfl rfl rfl) rfl ?_
     refine TL.nil ?_
     obtain rfl := osi ht1
     exact ⟨_, Gst.only [2, 3, 4, 26] rfl, rfl⟩
   refine TL.on rfl rfl rfl rfl (not_t (beq_iff_eq.2 c2)) ?_
   refine aA rfl rfl ?_
   refine TL.on rfl rfl rfl rfl (not_t (beq_iff_eq.2 c2)) ?_
   refine aA rfl rfl ?_
   refine TL.on rfl rfl rfl rfl (not_t (beq_iff_eq.2 c2)) ?_
   refine aA rfl rfl ?_
   refine TL.on rfl rfl rfl rfl (not_t (beq_iff_eq.2 c2)) ?_
   refine aA rfl rfl ?_
   refine TL.on rfl rfl rfl rfl (not_t (beq_iff_eq.2 c2)) ?_
   refine TL.op1 (OpR.neBool rfl rfl rfl rfl) rfl ?_
   refine TL.op1 (OpR.pickF rfl (not_t (beq_iff_eq.2 c2)) rfl) rfl ?_
   refine aA rfl rfl ?_
   rcases ite_some ht1 with ⟨c3, ht1⟩ | ⟨c3, ht1⟩
   rotate_left
   · refine TL.off rfl rfl rfl rfl (not_f (eq_false_of_ne_true c3)) rfl rfl ?_
     refine TL.off rfl rfl rfl rfl (not_f (eq_false_of_ne_true c3)) rfl rfl ?_
     refine TL.off rfl rfl rfl rfl (not_f (eq_false_of_ne_true c3)) rfl rfl ?_
     refine TL.off rfl rfl rfl rfl (not_f (eq_false_of_ne_true c3)) rfl rfl ?_
     refine TL.off rfl rfl rfl rfl (not_f (eq_false_of_ne_true c3)) rfl rfl ?_
     refine TL.op1 (OpR.pickT rfl (not_f (eq_false_of_ne_true c3)) rfl) rfl ?_
     refine TL.nil ?_
     obtain rfl := osi ht1
     exact ⟨_, Gst.only [2, 3, 4, 26] rfl, rfl⟩
   refine TL.on rfl rfl rfl rfl (not_t (c3)) ?_
   refine aA rfl rfl ?_
   refine TL.on rfl rfl rfl rfl (not_t (c3)) ?_
   refine aA rfl rfl ?_
   refine TL.on rfl rfl rfl rfl (not_t (c3)) ?_
   refine aA rfl rfl ?_
   refine TL.on rfl rfl rfl rfl (not_t (c3)) ?_
   refine aA rfl rfl ?_
   refine TL.on rfl rfl rfl rfl (not_t (c3)) ?_
   refine aA rfl rfl ?_
   refine TL.op1 (OpR.pickF rfl (not_t (c3)) rfl) rfl ?_
   refine TL.nil ?_
   obtain rfl := osi ht1
   exact ⟨_, Gst.only [2, 3, 4, 26] rfl, rfl⟩
 rintro _ rfl
 show T X _ _ _
 rcases ite_some h0 with ⟨c4, h0⟩ | ⟨c4, h0⟩
 · refine T.condT rfl (c4) ?_
   refine aS ?_
   refine aA rfl rfl ?_
   refine aN rfl ?_
   refine T.ret ?_
   obtain rfl := osi h0
   exact rO [] [4] rfl undef (cT rfl ResL.nil) rfl rfl rfl rfl
 refine T.condF rfl (eq_false_of_ne_true c4) ?_
 refine aK rfl ?_
 refine T.seq ?_
 refine aS ?_
 iterate 2 refine aA rfl rfl ?_
 refine TL.op1 (OpR.cast (OpR.pure rfl) (intE (lenM _ _))) rfl ?_
 refine aA rfl rfl ?_
 refine aN rfl ?_
 obtain ⟨t5, ht5, h0⟩ := bS h0
 refine T.cutC (fun S' => ∃ u6, t5 = Ex.brk u6 ∧ S' = ⟨[(4, (dT false))], [], 46⟩) (fun _ h => h) ?_ ?_
 rotate_left
 · rintro _ ⟨u6, rfl, rfl⟩
   show T X _ _ _
   refine aS ?_
   refine aA rfl rfl ?_
   refine aN rfl ?_
   refine T.ret ?_
   obtain rfl := osi h0
   exact rO [] [4] rfl undef (cT rfl ResL.nil) rfl rfl rfl rfl
 refine T.block ?_
 obtain ⟨n8, n13⟩ := loop_some ht5
 refine T.loop (fun n S' => ∃ S'', Gst S' S'' ∧ ∃ s7 : Int, S'' = ⟨[(30, (dN s7)), (29, (dN (a0.fRows.length : Int))), (4, (dT false)), (3, .nod [.sl 3 (List.map e_ref08_Row a1.fRows), dT a1.fTail, dN a1.fEnd]), (2, .nod [.sl 3 (List.map e_ref08_Row a0.fRows), dT a0.fTail, dN a0.fEnd])], [], 46⟩ ∧ iter (ref11_Same.l1 a0 a1) n s7 = some t5) n8 ?_ ?_
 · exact ⟨_, Gst.only [2, 3, 4, 29, 30] rfl, 0, rfl, n13⟩
 rintro n8 _ ⟨_, g, s7, rfl, i12⟩
 refine T.ghost g ?_
 obtain ⟨m9, q10, rfl, q11, i12⟩ := iter_succ i12
 unfold ref11_Same.l1 at q11
 refine aS ?_
 refine aA rfl rfl ?_
 refine aN rfl ?_
 refine T.seq ?_
 rcases ite_some q11 with ⟨c15, q11⟩ | ⟨c15, q11⟩
 rotate_left
 · refine T.condF rfl (eF c15) ?_
   refine T.exit ?_
   obtain rfl := osi q11
   obtain rfl : _ = _ := i12
   exact ⟨_, Gst.only [4] rfl, _, rfl, rfl⟩
 refine T.condT rfl (eT c15) ?_
 refine aK rfl ?_
 refine T.seq ?_
 refine T.block ?_
 refine aS ?_
 iterate 2 refine aA rfl rfl ?_
 refine aN rfl ?_
 refine T.seq ?_
 obtain ⟨x17, hx17, q11⟩ := bS q11
 obtain ⟨x18, hx18, q11⟩ := bS q11
 obtain ⟨x19, hx19, q11⟩ := bS q11
 refine T.drawQ drawsX [.nod [.sl 3 (List.map e_ref08_Row a0.fRows), dT a0.fTail, dN a0.fEnd], .sl 3 (List.map e_ref08_Row a0.fRows), dN s7, .nod [.sl 3 (List.map e_ref07_Cell x17.fCells), dN x17.fEnd, dT x17.fHidden], .agg [.sl 3 (List.map e_ref07_Cell x17.fCells), dN x17.fEnd, dT x17.fHidden], .nod [.sl 3 (List.map e_ref08_Row a1.fRows), dT a1.fTail, dN a1.fEnd], .sl 3 (List.map e_ref08_Row a1.fRows), dN s7, .nod [.sl 3 (List.map e_ref07_Cell x18.fCells), dN x18.fEnd, dT x18.fHidden], .agg [.sl 3 (List.map e_ref07_Cell x18.fCells), dN x18.fEnd, dT x18.fHidden], dT x19, dT (!x19)] [2, 3, 4, 29, 30, 44] (by decide +kernel) rfl ?_ rfl ?_
 rotate_left
 · show T X _ _ _
   rcases ite_some q11 with ⟨c20, q11⟩ | ⟨c20, q11⟩
   · refine T.condF rfl (not_t (c20)) ?_
     refine aK rfl ?_
     refine T.region ?_
     iterate 2 refine aA rfl rfl ?_
     refine TL.nil ?_
     obtain rfl := osi q11
     exact ⟨m9, Nat.lt_succ_self _, _, Gst.only [2, 3, 4, 29, 30] rfl, w64 (s7 + 1), rfl, i12⟩
   refine T.condT rfl (not_f (eq_false_of_ne_true c20)) ?_
   refine aS ?_
   refine aA rfl rfl ?_
   refine aN rfl ?_
   refine T.ret ?_
   obtain rfl := osi q11
   obtain rfl : _ = _ := i12
   obtain rfl := osi h0
   exact rO [] [4] rfl undef (cT rfl ResL.nil) rfl rfl rfl rfl
 iterate 3 refine aB rfl rfl rfl ?_
 refine OpsQ.yes (Want.plain rfl) rfl (OpR.indexM e_ref08_Row hx17 rfl rfl rfl rfl rfl) ?_
 iterate 4 refine aB rfl rfl rfl ?_
 refine OpsQ.yes (Want.plain rfl) rfl (OpR.indexM e_ref08_Row hx18 rfl rfl rfl rfl rfl) ?_
 refine aB rfl rfl rfl ?_
 refine OpsQ.yes (Want.plain rfl) rfl (OpR.call0 fn65 (ref08_Same_c hx19) rfl) ?_
 refine aB rfl rfl rfl ?_
 exact OpsQ.nil
noncomputable def ref12_Even.l1 (a0 : ref11_Grid) (s3 : Int) : Option (Lp Int (Ex Unit Bool)) :=
  if s3 < (a0.fRows.length : Int) then
    bnd (idx a0.fRows s3) fun x12 =>
    bnd (ref11_Width a0) fun x15 =>
    if (x12.fCells.length : Int) = x15 then
      some (Lp.next (w64 (s3 + 1)))
    else
      some (Lp.done (Ex.ret false))
  else
    some (Lp.done (Ex.brk ()))
noncomputable def ref12_Even (a0 : ref11_Grid) : Option Bool :=
  bnd (loop (ref12_Even.l1 a0) 0 : Option (Ex Unit Bool)) fun t1 => match t1 with
    | .brk u2 =>
      some true
    | .ret u2 => some u2
theorem ref12_Even_c {a0 : ref11_Grid} {res : Bool} (h0 : ref12_Even a0 = some res) : CallF X 21 [.agg [.sl 3 (List.map e_ref08_Row a0.fRows), dT a0.fTail, dN a0.fEnd]] [] (fun x => (dT res)) (fun x => []) := by
 unfold ref12_Even at h0
 refine CallF.mkG (X := X) rfl Tryz.func21 rfl rfl Tryz.ntmps21 rfl rfl ?_
 refine aS ?_
 refine TL.op1 (OpR.boxImm rfl rfl) rfl ?_
 refine aA rfl rfl ?_
 refine aN rfl ?_
 refine T.seq ?_
 refine aS ?_
 iterate 2 refine aA rfl rfl ?_
 refine TL.op1 (OpR.cast (OpR.pure rfl) (intE (lenM _ _))) rfl ?_
 refine aA rfl rfl ?_
 refine aN rfl ?_
 obtain ⟨t1, ht1, h0⟩ := bS h0
 refine T.cutC (fun S' => ∃ u2, t1 = Ex.brk u2 ∧ S' = ⟨[(2, (dT false))], [], 19⟩) (fun _ h => h) ?_ ?_
 rotate_left
 · rintro _ ⟨u2, rfl, rfl⟩
   show T X _ _ _
   refine aS ?_
   refine aA rfl rfl ?_
   refine aN rfl ?_
   refine T.ret ?_
   obtain rfl := osi h0
   exact rO [] [2] rfl undef (cT rfl ResL.nil) rfl rfl rfl rfl
 refine T.block ?_
 obtain ⟨n4, n9⟩ := loop_some ht1
 refine T.loop (fun n S' => ∃ S'', Gst S' S'' ∧ ∃ s3 : Int, S'' = ⟨[(8, (dN s3)), (7, (dN (a0.fRows.length : Int))), (6, .sl 3 (List.map e_ref08_Row a0.fRows)), (2, (dT false)), (1, .nod [.sl 3 (List.map e_ref08_Row a0.fRows), dT a0.fTail, dN a0.fEnd])], [], 19⟩ ∧ iter (ref12_Even.l1 a0) n s3 = some t1) n4 ?_ ?_
 · exact ⟨_, Gst.only [1, 2, 6, 7, 8] rfl, 0, rfl, n9⟩
 rintro n4 _ ⟨_, g, s3, rfl, i8⟩
 refine T.ghost g ?_
 obtain ⟨m5, q6, rfl, q7, i8⟩ := iter_succ i8
 unfold ref12_Even.l1 at q7
 refine aS ?_
 refine aA rfl rfl ?_
 refine aN rfl ?_
 refine T.seq ?_
 rcases ite_some q7 with ⟨c11, q7⟩ | ⟨c11, q7⟩
 rotate_left
 · refine T.condF rfl (eF c11) ?_
   refine T.exit ?_
   obtain rfl := osi q7
   obtain rfl : _ = _ := i8
   exact ⟨_, Gst.only [2] rfl, _, rfl, rfl⟩
 refine T.condT rfl (eT c11) ?_
 refine aK rfl ?_
 refine T.seq ?_
 refine T.block ?_
 refine aS ?_
 obtain ⟨x12, hx12, q7⟩ := bS q7
 refine TL.op1 (OpR.indexM e_ref08_Row hx12 rfl rfl rfl rfl rfl) rfl ?_
 refine aA rfl rfl ?_
 refine TL.op (OpR.alloc rfl rfl (fun _ => rfl)) rfl (fun p13 => ?_)
 refine TL.op0 (OpR.store 0 rfl rfl rfl rfl rfl rfl rfl rfl) ?_
 refine aN rfl ?_
 refine T.seq ?_
 obtain ⟨x15, hx15, q7⟩ := bS q7
 refine T.drawQ drawsX [dP (blk p13), .sl 3 (List.map e_ref07_Cell x12.fCells), dN (x12.fCells.length : Int), .agg [.sl 3 (List.map e_ref08_Row a0.fRows), dT a0.fTail, dN a0.fEnd], dN x15, dT (!((x12.fCells.length : Int) == x15))] [1, 2, 6, 7, 8, 17] (by decide +kernel) rfl ?_ rfl ?_
 · refine aB rfl rfl rfl ?_
   refine OpsQ.yes (Want.plain rfl) rfl (OpR.loadPtr 0 rfl rfl rfl rfl) ?_
   refine OpsQ.yes (Want.plain rfl) rfl (OpR.cast (OpR.pure rfl) (intE (lenM _ _))) ?_
   refine aB rfl rfl rfl ?_
   refine OpsQ.yes (Want.plain rfl) rfl (OpR.call0 fn78 (ref11_Width_c hx15) rfl) ?_
   refine aB rfl rfl rfl ?_
   exact OpsQ.nil
 show T X _ _ _
 rcases ite_some q7 with ⟨c16, q7⟩ | ⟨c16, q7⟩
 · refine T.condF rfl (not_t (beq_iff_eq.2 c16)) ?_
   refine aK rfl ?_
   refine T.region ?_
   iterate 2 refine aA rfl rfl ?_
   refine TL.nil ?_
   obtain rfl := osi q7
   exact ⟨m5, Nat.lt_succ_self _, _, gP [1, 2, 6, 7, 8] [] rfl rfl rfl, w64 (s3 + 1), rfl, i8⟩
 refine T.condT rfl (not_f (beq_eq_false_iff_ne.2 c16)) ?_
 refine aS ?_
 refine aA rfl rfl ?_
 refine aN rfl ?_
 refine T.ret ?_
 obtain rfl := osi q7
 obtain rfl : _ = _ := i8
 obtain rfl := osi h0
 exact rP [] [2] [] rfl rfl rfl undef (cT rfl ResL.nil) rfl rfl rfl rfl
noncomputable def law12_ColsPlay.l1 (a1 : List law12_Op) (x2 : grid_Grid × ref11_Grid × Bool × (List UInt8)) (s9 : Bool × Int × (Option NP) × Bool × Int × (List ref08_Row) × Bool × Int) : Option (Lp (Bool × Int × (Option NP) × Bool × Int × (List ref08_Row) × Bool × Int) (Ex Unit Bool)) :=
  if s9.2.1 < (a1.length : Int) then
    bnd (idx a1 s9.2.1) fun x18 =>
    if s9.2.1 ≥ 25 then
      some (Lp.done (Ex.brk ()))
    else
      bnd (law12_step (⟨(⟨s9.2.2.1⟩ : tTr), s9.2.2.2.1, s9.2.2.2.2.1⟩ : grid_Grid) (⟨s9.2.2.2.2.2.1, s9.2.2.2.2.2.2.1, s9.2.2.2.2.2.2.2⟩ : ref11_Grid) x18) fun x21 =>
      if x21.2.2 = true then
        bnd (bnd (law11_Plain x21.1 x2.2.2.2) fun x25 =>
        bnd (ref11_Same x25 x21.2.1) fun x26 =>
        if x26 = true then
          bnd (cols_Even x21.1) fun x28 =>
          bnd (ref12_Even x21.2.1) fun x29 =>
          some (!(x28 == x29))
        else
          some true : Option Bool) fun t23 =>
        if t23 = true then
          some (Lp.done (Ex.ret false))
        else
          some (Lp.next (x21.2.2, w64 (s9.2.1 + 1), x21.1.fRows.fRoot, x21.1.fTail, x21.1.fEnd, x21.2.1.fRows, x21.2.1.fTail, x21.2.1.fEnd))
      else
        some (Lp.done (Ex.ret false))
  else
    some (Lp.done (Ex.brk ()))
noncomputable def law12_ColsPlay (a0 : List UInt8) (a1 : List law12_Op) : Option Bool :=
  bnd (law11_Cut a0 1500) fun x1 =>
  bnd (law11_Begun x1) fun x2 =>
  match x2 with
  | .inl x2 =>
      if x2.2.2.1 = true then
        bnd (loop (law12_ColsPlay.l1 a1 x2) (x2.2.2.1, 0, x2.1.fRows.fRoot, x2.1.fTail, x2.1.fEnd, x2.2.1.fRows, x2.2.1.fTail, x2.2.1.fEnd) : Option (Ex Unit Bool)) fun t7 => match t7 with
          | .brk u8 =>
            bnd (law12_awake) fun x31 =>
            some x31
          | .ret u8 => some u8
      else
        bnd (law12_awake) fun x32 =>
        some x32
  | .inr x2 =>
      some false
theorem law12_ColsPlay_c {a0 : List UInt8} {a1 : List law12_Op} {res : Bool} (h0 : law12_ColsPlay a0 a1 = some res) : CallF X 3 [.val (.string (bs a0)), .sl 3 (List.map e_law12_Op a1)] [] (fun x => (dT res)) (fun x => []) := by
 unfold law12_ColsPlay at h0
 refine CallF.mkG (X := X) rfl Tryz.func3 rfl rfl Tryz.ntmps3 rfl rfl ?_
 refine aS ?_
 refine aA rfl rfl ?_
 refine aN rfl ?_
 refine aS ?_
 refine aA rfl rfl ?_
 obtain ⟨x1, hx1, h0⟩ := bS h0
 refine TL.op1 (OpR.call0 fn15 (law11_Cut_c hx1) rfl) rfl ?_
 obtain ⟨x2, hx2, h0⟩ := bS h0
 rcases x2 with x2 | x2
 rotate_left
 · dsimp only at h0
   refine TL.op1 (OpR.call0 fn14 (law11_Begun_cx2 hx2) rfl) rfl ?_
   iterate 5 refine aA rfl rfl ?_
   refine TL.op (OpR.alloc rfl rfl (fun _ => rfl)) rfl (fun p33 => ?_)
   refine TL.op (OpR.alloc rfl rfl (fun _ => rfl)) rfl (fun p34 => ?_)
   refine TL.op0 (OpR.store 0 rfl rfl rfl rfl rfl rfl rfl rfl) ?_
   refine aA rfl rfl ?_
   refine TL.op0 (OpR.store 1 rfl rfl rfl rfl rfl rfl rfl rfl) ?_
   refine aA rfl rfl ?_
   refine aN rfl ?_
   refine T.seq ?_
   refine aS ?_
   iterate 2 refine aA rfl rfl ?_
   refine aN rfl ?_
   refine T.condT rfl rfl ?_
   refine aS ?_
   refine aA rfl rfl ?_
   refine TL.op1 (OpR.ptrNe (A := none) rfl rfl rfl) rfl ?_
   refine aA rfl rfl ?_
   refine TL.off rfl rfl rfl rfl rfl rfl rfl ?_
   refine TL.op1 (OpR.pickF rfl rfl rfl) rfl ?_
   refine aA rfl rfl ?_
   refine aN rfl ?_
   refine T.ret ?_
   obtain rfl := osi h0
   exact rP [] [4] [] rfl rfl rfl undef (cT rfl ResL.nil) rfl rfl rfl rfl
 dsimp only at h0
 refine TL.op (OpR.call [] fn14 (law11_Begun_cx1 hx2) rfl rfl rfl (fun _ => rfl)) rfl (fun w3 => ?_)
 iterate 5 refine aA rfl rfl ?_
 refine TL.op (OpR.alloc rfl rfl (fun _ => rfl)) rfl (fun p4 => ?_)
 refine TL.op (OpR.alloc rfl rfl (fun _ => rfl)) rfl (fun p5 => ?_)
 refine TL.op0 (OpR.store 2 rfl rfl rfl rfl rfl rfl rfl rfl) ?_
 refine aA rfl rfl ?_
 refine TL.op0 (OpR.store 3 rfl rfl rfl rfl rfl rfl rfl rfl) ?_
 refine aA rfl rfl ?_
 refine aN rfl ?_
 refine T.seq ?_
 refine aS ?_
 iterate 2 refine aA rfl rfl ?_
 refine aN rfl ?_
 rcases ite_some h0 with ⟨c6, h0⟩ | ⟨c6, h0⟩
 rotate_left
 · refine T.condT rfl (not_f (eq_false_of_ne_true c6)) ?_
   refine aS ?_
   refine aA rfl rfl ?_
   refine TL.op1 (OpR.ptrNe (A := some ⟨(blk (vn w3 0)), 0, none⟩) rfl rfl rfl) rfl ?_
   refine aA rfl rfl ?_
   refine TL.on rfl rfl rfl rfl rfl ?_
   obtain ⟨x32, hx32, h0⟩ := bS h0
   refine TL.op1 (OpR.call0 fn16 (law12_awake_c hx32) rfl) rfl ?_
   refine TL.op1 (OpR.pickT rfl rfl rfl) rfl ?_
   refine aA rfl rfl ?_
   refine aN rfl ?_
   refine T.ret ?_
   obtain rfl := osi h0
   exact rP [] [4] [] rfl rfl rfl undef (cT rfl ResL.nil) rfl rfl rfl rfl
 refine T.condF rfl (not_t (c6)) ?_
 refine aK rfl ?_
 refine T.seq ?_
 refine aS ?_
 refine aA rfl rfl ?_
 refine TL.op1 (OpR.cast (OpR.pure rfl) (intE (lenM _ _))) rfl ?_
 refine aA rfl rfl ?_
 refine aN rfl ?_
 obtain ⟨t7, ht7, h0⟩ := bS h0
 refine T.cutC (fun S' => ∃ u8, t7 = Ex.brk u8 ∧ S' = ⟨[(4, (dT false))], [], 60⟩) (fun _ h => h) ?_ ?_
 rotate_left
 · rintro _ ⟨u8, rfl, rfl⟩
   show T X _ _ _
   refine aS ?_
   obtain ⟨x31, hx31, h0⟩ := bS h0
   refine TL.op1 (OpR.call0 fn16 (law12_awake_c hx31) rfl) rfl ?_
   refine aA rfl rfl ?_
   refine aN rfl ?_
   refine T.ret ?_
   obtain rfl := osi h0
   exact rO [] [4] rfl undef (cT rfl ResL.nil) rfl rfl rfl rfl
 refine T.block ?_
 obtain ⟨n10, n15⟩ := loop_some ht7
 refine T.loop (fun n S' => ∃ S'', Gst S' S'' ∧ ∃ s9 : Bool × Int × (Option NP) × Bool × Int × (List ref08_Row) × Bool × Int, S'' = ⟨[(28, (dN s9.2.1)), (27, (dN (a1.length : Int))), (26, .sl 3 (List.map e_law12_Op a1)), (8, (dT s9.1)), (7, (dP (blk p5))), (6, (dP (blk (vn w3 0)))), (5, (dP (blk p4))), (4, (dT false))], [.var (blk p4) [(eOP s9.2.2.1), dT s9.2.2.2.1, dN s9.2.2.2.2.1] 27, .var (blk (vn w3 0)) [.val (vn w3 1)] 264, .var (blk p5) [.sl 3 (List.map e_ref08_Row s9.2.2.2.2.2.1), dT s9.2.2.2.2.2.2.1, dN s9.2.2.2.2.2.2.2] 31, .row (vn w3 1) (lB x2.2.2.2) 1 5], 60⟩ ∧ iter (law12_ColsPlay.l1 a1 x2) n s9 = some t7) n10 ?_ ?_
 · exact ⟨_, gP [4, 5, 6, 7, 8, 26, 27, 28] [2, 0, 3, 1] rfl rfl rfl, (x2.2.2.1, 0, x2.1.fRows.fRoot, x2.1.fTail, x2.1.fEnd, x2.2.1.fRows, x2.2.1.fTail, x2.2.1.fEnd), rfl, n15⟩
 rintro n10 _ ⟨_, g, s9, rfl, i14⟩
 refine T.ghost g ?_
 obtain ⟨m11, q12, rfl, q13, i14⟩ := iter_succ i14
 unfold law12_ColsPlay.l1 at q13
 refine aS ?_
 refine aA rfl rfl ?_
 refine aN rfl ?_
 refine T.seq ?_
 rcases ite_some q13 with ⟨c17, q13⟩ | ⟨c17, q13⟩
 rotate_left
 · refine T.condF rfl (eF c17) ?_
   refine T.exit ?_
   obtain rfl := osi q13
   obtain rfl : _ = _ := i14
   exact ⟨_, gP [4] [] rfl rfl rfl, _, rfl, rfl⟩
 refine T.condT rfl (eT c17) ?_
 refine aK rfl ?_
 refine T.seq ?_
 refine T.block ?_
 refine aS ?_
 refine aA rfl rfl ?_
 obtain ⟨x18, hx18, q13⟩ := bS q13
 refine TL.op1 (OpR.indexM e_law12_Op hx18 rfl rfl rfl rfl rfl) rfl ?_
 refine aA rfl rfl ?_
 refine TL.op (OpR.alloc rfl rfl (fun _ => rfl)) rfl (fun p19 => ?_)
 refine aA rfl rfl ?_
 refine TL.op0 (OpR.store 4 rfl rfl rfl rfl rfl rfl rfl rfl) ?_
 refine aN rfl ?_
 refine T.seq ?_
 refine aS ?_
 iterate 2 refine aA rfl rfl ?_
 refine aN rfl ?_
 rcases ite_some q13 with ⟨c20, q13⟩ | ⟨c20, q13⟩
 · refine T.condT rfl (eT c20) ?_
   refine T.exit ?_
   obtain rfl := osi q13
   obtain rfl : _ = _ := i14
   exact ⟨_, gP [4] [] rfl rfl rfl, _, rfl, rfl⟩
 refine T.condF rfl (eF c20) ?_
 refine aK rfl ?_
 refine T.seq ?_
 refine aS ?_
 refine TL.op1 (OpR.loadPtr 0 rfl rfl rfl rfl) rfl ?_
 refine TL.op1 (OpR.loadPtr 2 rfl rfl rfl rfl) rfl ?_
 refine TL.op1 (OpR.loadPtr 4 rfl rfl rfl rfl) rfl ?_
 obtain ⟨x21, hx21, q13⟩ := bS q13
 refine TL.op1 (OpR.call0 fn17 (law12_step_c hx21) rfl) rfl ?_
 iterate 4 refine aA rfl rfl ?_
 refine TL.op0 (OpR.store 0 rfl rfl rfl rfl rfl rfl rfl rfl) ?_
 refine TL.op0 (OpR.store 2 rfl rfl rfl rfl rfl rfl rfl rfl) ?_
 refine aA rfl rfl ?_
 refine aN rfl ?_
 refine aS ?_
 iterate 2 refine aA rfl rfl ?_
 refine aN rfl ?_
 rcases ite_some q13 with ⟨c22, q13⟩ | ⟨c22, q13⟩
 rotate_left
 · refine T.condT rfl (not_f (eq_false_of_ne_true c22)) ?_
   refine aS ?_
   refine aA rfl rfl ?_
   refine aN rfl ?_
   refine T.ret ?_
   obtain rfl := osi q13
   obtain rfl : _ = _ := i14
   obtain rfl := osi h0
   exact rP [] [4] [] rfl rfl rfl undef (cT rfl ResL.nil) rfl rfl rfl rfl
 refine T.condF rfl (not_t (c22)) ?_
 refine aK rfl ?_
 refine T.seq ?_
 obtain ⟨t23, ht23, q13⟩ := bS q13
 refine T.cutC (fun S' => S' = ⟨[(57, (dT t23)), (28, (dN s9.2.1)), (27, (dN (a1.length : Int))), (26, .sl 3 (List.map e_law12_Op a1)), (8, (dT x21.2.2)), (7, (dP (blk p5))), (6, (dP (blk (vn w3 0)))), (5, (dP (blk p4))), (4, (dT false))], [.var (blk p4) [(eOP x21.1.fRows.fRoot), dT x21.1.fTail, dN x21.1.fEnd] 27, .var (blk (vn w3 0)) [.val (vn w3 1)] 264, .var (blk p5) [.sl 3 (List.map e_ref08_Row x21.2.1.fRows), dT x21.2.1.fTail, dN x21.2.1.fEnd] 31, .row (vn w3 1) (lB x2.2.2.2) 1 5], 60⟩) (fun _ h => h) ?_ ?_
 rotate_left
 · rintro _ rfl
   show T X _ _ _
   rcases ite_some q13 with ⟨c30, q13⟩ | ⟨c30, q13⟩
   · refine T.condT rfl (c30) ?_
     refine aS ?_
     refine aA rfl rfl ?_
     refine aN rfl ?_
     refine T.ret ?_
     obtain rfl := osi q13
     obtain rfl : _ = _ := i14
     obtain rfl := osi h0
     exact rP [] [4] [] rfl rfl rfl undef (cT rfl ResL.nil) rfl rfl rfl rfl
   refine T.condF rfl (eq_false_of_ne_true c30) ?_
   refine aK rfl ?_
   refine T.region ?_
   iterate 2 refine aA rfl rfl ?_
   refine TL.nil ?_
   obtain rfl := osi q13
   exact ⟨m11, Nat.lt_succ_self _, _, Gst.only [4, 5, 6, 7, 8, 26, 27, 28] rfl, (x21.2.2, w64 (s9.2.1 + 1), x21.1.fRows.fRoot, x21.1.fTail, x21.1.fEnd, x21.2.1.fRows, x21.2.1.fTail, x21.2.1.fEnd), rfl, i14⟩
 obtain ⟨x25, hx25, ht23⟩ := bS ht23
 obtain ⟨x26, hx26, ht23⟩ := bS ht23
 rcases ite_some ht23 with ⟨c27, ht23⟩ | ⟨c27, ht23⟩
 rotate_left
 · refine T.drawQ drawsX [dP (blk (vn w3 0)), .agg [(eOP x21.1.fRows.fRoot), dT x21.1.fTail, dN x21.1.fEnd], .agg [.sl 3 (List.map e_ref08_Row x25.fRows), dT x25.fTail, dN x25.fEnd], .agg [.sl 3 (List.map e_ref08_Row x21.2.1.fRows), dT x21.2.1.fTail, dN x21.2.1.fEnd], dT x26, dT (!x26), dT (!x26), .tup [], .tup [], .tup [], .tup [], .tup [], dT true] [4, 5, 6, 7, 8, 26, 27, 28, 57] (by decide +kernel) rfl ?_ rfl ?_
   rotate_left
   · obtain rfl := osi ht23
     exact ⟨_, gP [4, 5, 6, 7, 8, 26, 27, 28, 57] [0, 1, 2, 3] rfl rfl rfl, rfl⟩
   refine aB rfl rfl rfl ?_
   refine OpsQ.yes (Want.plain rfl) rfl (OpR.loadPtr 0 rfl rfl rfl rfl) ?_
   refine OpsQ.yes (Want.plain rfl) rfl (OpR.call [1, 3] fn19 (law11_Plain_c hx25) rfl rfl rfl (fun _ => rfl)) ?_
   refine OpsQ.yes (Want.plain rfl) rfl (OpR.loadPtr 2 rfl rfl rfl rfl) ?_
   refine OpsQ.yes (Want.plain rfl) rfl (OpR.call0 fn18 (ref11_Same_c hx26) rfl) ?_
   iterate 2 refine aB rfl rfl rfl ?_
   refine OpsQ.no (Want.bool rfl rfl rfl rfl (by rw [(not_f (eq_false_of_ne_true c27))]; rfl)) rfl ?_
   refine OpsQ.no (Want.bool rfl rfl rfl rfl (by rw [(not_f (eq_false_of_ne_true c27))]; rfl)) rfl ?_
   refine OpsQ.no (Want.bool rfl rfl rfl rfl (by rw [(not_f (eq_false_of_ne_true c27))]; rfl)) rfl ?_
   refine OpsQ.no (Want.bool rfl rfl rfl rfl (by rw [(not_f (eq_false_of_ne_true c27))]; rfl)) rfl ?_
   refine OpsQ.no (Want.bool rfl rfl rfl rfl (by rw [(not_f (eq_false_of_ne_true c27))]; rfl)) rfl ?_
   refine OpsQ.yes (Want.plain rfl) rfl (OpR.pickT rfl (not_f (eq_false_of_ne_true c27)) rfl) ?_
   exact OpsQ.nil
 obtain ⟨x28, hx28, ht23⟩ := bS ht23
 obtain ⟨x29, hx29, ht23⟩ := bS ht23
 refine T.drawQ drawsX [dP (blk (vn w3 0)), .agg [(eOP x21.1.fRows.fRoot), dT x21.1.fTail, dN x21.1.fEnd], .agg [.sl 3 (List.map e_ref08_Row x25.fRows), dT x25.fTail, dN x25.fEnd], .agg [.sl 3 (List.map e_ref08_Row x21.2.1.fRows), dT x21.2.1.fTail, dN x21.2.1.fEnd], dT x26, dT (!x26), dT (!x26), .agg [(eOP x21.1.fRows.fRoot), dT x21.1.fTail, dN x21.1.fEnd], dT x28, .agg [.sl 3 (List.map e_ref08_Row x21.2.1.fRows), dT x21.2.1.fTail, dN x21.2.1.fEnd], dT x29, dT (!(x28 == x29)), dT (!(x28 == x29))] [4, 5, 6, 7, 8, 26, 27, 28, 57] (by decide +kernel) rfl ?_ rfl ?_
 rotate_left
 · obtain rfl := osi ht23
   exact ⟨_, gP [4, 5, 6, 7, 8, 26, 27, 28, 57] [0, 1, 2, 3] rfl rfl rfl, rfl⟩
 refine aB rfl rfl rfl ?_
 refine OpsQ.yes (Want.plain rfl) rfl (OpR.loadPtr 0 rfl rfl rfl rfl) ?_
 refine OpsQ.yes (Want.plain rfl) rfl (OpR.call [1, 3] fn19 (law11_Plain_c hx25) rfl rfl rfl (fun _ => rfl)) ?_
 refine OpsQ.yes (Want.plain rfl) rfl (OpR.loadPtr 2 rfl rfl rfl rfl) ?_
 refine OpsQ.yes (Want.plain rfl) rfl (OpR.call0 fn18 (ref11_Same_c hx26) rfl) ?_
 iterate 2 refine aB rfl rfl rfl ?_
 refine OpsQ.yes (Want.bool rfl rfl rfl rfl (by rw [(not_t (c27))]; rfl)) rfl (OpR.loadPtr 0 rfl rfl rfl rfl) ?_
 refine OpsQ.yes (Want.bool rfl rfl rfl rfl (by rw [(not_t (c27))]; rfl)) rfl (OpR.call0 fn20 (cols_Even_c hx28) rfl) ?_
 refine OpsQ.yes (Want.bool rfl rfl rfl rfl (by rw [(not_t (c27))]; rfl)) rfl (OpR.loadPtr 2 rfl rfl rfl rfl) ?_
 refine OpsQ.yes (Want.bool rfl rfl rfl rfl (by rw [(not_t (c27))]; rfl)) rfl (OpR.call0 fn21 (ref12_Even_c hx29) rfl) ?_
 refine OpsQ.yes (Want.bool rfl rfl rfl rfl (by rw [(not_t (c27))]; rfl)) rfl (OpR.neBool rfl rfl rfl rfl) ?_
 refine OpsQ.yes (Want.plain rfl) rfl (OpR.pickF rfl (not_t (c27)) rfl) ?_
 exact OpsQ.nil
end Go.Proofs.YtpmhiiemklhbhaaGreat.S
