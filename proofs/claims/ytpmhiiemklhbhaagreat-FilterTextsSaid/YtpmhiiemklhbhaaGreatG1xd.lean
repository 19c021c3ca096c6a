/- Printed by a program of this session's own (gen.py): Lean functions for Go functions, and the proofs that the Go code comes to their answers. -/
import Derived.Test.YtpmhiiemklhbhaaGreatG1xc
import Derived.Test.YtpmhiiemklhbhaaGreatG1xa
set_option maxHeartbeats 4000000
set_option linter.unusedVariables false
set_option linter.unusedSimpArgs false
set_option maxRecDepth 20000
namespace Go.Proofs.YtpmhiiemklhbhaaGreat.S
open Go Go.Sm
attribute [local irreducible] T TL OpR CallT iter loop
noncomputable def law18_FilterTexts (a0 : ref18_Test) (a1 : List UInt8) : Option Bool :=
  bnd (law11_Cut a1 130) fun x2 =>
  bnd (law11_Cut a0.fArg 110) fun x3 =>
  bnd (filter_Parse x2) fun x4 =>
  bnd (ref18_Parse x2) fun x6 =>
  bnd (bnd (law18_mine (⟨a0.fCol, a0.fOp, x3, a0.fNot⟩ : ref18_Test)) fun x10 =>
  bnd (filter_Right x10) fun x11 =>
  bnd (ref18_Right (⟨a0.fCol, a0.fOp, x3, a0.fNot⟩ : ref18_Test)) fun x12 =>
  if (x11 == x12) = true then
    bnd (law18_mine (⟨a0.fCol, a0.fOp, x3, a0.fNot⟩ : ref18_Test)) fun x14 =>
    bnd (filter_Print x14) fun x15 =>
    bnd (ref18_Print (⟨a0.fCol, a0.fOp, x3, a0.fNot⟩ : ref18_Test)) fun x16 =>
    if x15 = x16 then
      bnd (law18_mine x6.1) fun x18 =>
      if x4.1 = x18 then
        some (!(x4.2 == x6.2))
      else
        some true
    else
      some true
  else
    some true : Option Bool) fun t8 =>
  if t8 = true then
    some false
  else
    bnd (ref18_Right (⟨a0.fCol, a0.fOp, x3, a0.fNot⟩ : ref18_Test)) fun x21 =>
    if x21 = true then
      bnd (law18_mine (⟨a0.fCol, a0.fOp, x3, a0.fNot⟩ : ref18_Test)) fun x23 =>
      bnd (filter_Print x23) fun x24 =>
      bnd (filter_Parse x24) fun x25 =>
      bnd (if x25.2 = 0 then
        bnd (law18_mine (⟨a0.fCol, a0.fOp, x3, a0.fNot⟩ : ref18_Test)) fun x30 =>
        if x25.1 = x30 then
          bnd (law18_awake) fun x32 =>
          some x32
        else
          some false
      else
        some false : Option Bool) fun t27 =>
      some t27
    else
      bnd (law18_awake) fun x33 =>
      some x33
theorem law18_FilterTexts_c {a0 : ref18_Test} {a1 : List UInt8} {res : Bool} (h0 : law18_FilterTexts a0 a1 = some res) : CallF X 6 [.agg [dN a0.fCol, dN a0.fOp, .val (.string (bs a0.fArg)), dT a0.fNot], .val (.string (bs a1))] [] (fun x => (dT res)) (fun x => []) := by
 unfold law18_FilterTexts at h0
 refine CallF.mkG (X := X) rfl Tryz.func6 rfl rfl Tryz.ntmps6 rfl rfl ?_
 refine aS ?_
 refine TL.op (OpR.boxVar rfl rfl (fun _ => rfl)) rfl (fun p1 => ?_)
 refine aA rfl rfl ?_
 refine aN rfl ?_
 refine aS ?_
 refine aA rfl rfl ?_
 obtain ⟨x2, hx2, h0⟩ := bS h0
 refine TL.op1 (OpR.call0 fn15 (law11_Cut_c hx2) rfl) rfl ?_
 refine aA rfl rfl ?_
 refine aN rfl ?_
 refine aS ?_
 refine aA rfl rfl ?_
 refine TL.op1 (OpR.loadPtr 0 rfl rfl rfl rfl) rfl ?_
 obtain ⟨x3, hx3, h0⟩ := bS h0
 refine TL.op1 (OpR.call0 fn15 (law11_Cut_c hx3) rfl) rfl ?_
 refine aA rfl rfl ?_
 refine TL.op0 (OpR.store 0 rfl rfl rfl rfl rfl rfl rfl rfl) ?_
 refine aN rfl ?_
 refine aS ?_
 refine aA rfl rfl ?_
 obtain ⟨x4, hx4, h0⟩ := bS h0
 refine TL.op1 (OpR.call0 fn31 (filter_Parse_c hx4) rfl) rfl ?_
 iterate 3 refine aA rfl rfl ?_
 refine TL.op (OpR.alloc rfl rfl (fun _ => rfl)) rfl (fun p5 => ?_)
 refine TL.op0 (OpR.store 1 rfl rfl rfl rfl rfl rfl rfl rfl) ?_
 refine aA rfl rfl ?_
 refine aN rfl ?_
 refine aS ?_
 refine aA rfl rfl ?_
 obtain ⟨x6, hx6, h0⟩ := bS h0
 refine TL.op1 (OpR.call0 fn32 (ref18_Parse_c hx6) rfl) rfl ?_
 iterate 3 refine aA rfl rfl ?_
 refine TL.op (OpR.alloc rfl rfl (fun _ => rfl)) rfl (fun p7 => ?_)
 refine TL.op0 (OpR.store 2 rfl rfl rfl rfl rfl rfl rfl rfl) ?_
 refine aA rfl rfl ?_
 refine aN rfl ?_
 refine T.seq ?_
 refine T.seq ?_
 obtain ⟨t8, ht8, h0⟩ := bS h0
 refine T.cutC (fun S' => S' = ⟨[(51, (dT t8)), (4, (dT false)), (2, (dP (blk p1)))], [.var (blk p1) [dN a0.fCol, dN a0.fOp, .val (.string (bs x3)), dT a0.fNot] 64], 74⟩) (fun _ h => h) ?_ ?_
 rotate_left
 · rintro _ rfl
   show T X _ _ _
   rcases ite_some h0 with ⟨c20, h0⟩ | ⟨c20, h0⟩
   · refine T.condT rfl (c20) ?_
     refine aS ?_
     refine aA rfl rfl ?_
     refine aN rfl ?_
     refine T.ret ?_
     obtain rfl := Option.some.inj h0
     exact rP [] [4] [] rfl rfl rfl undef (cT rfl ResL.nil) rfl rfl rfl rfl
   refine T.condF rfl (eq_false_of_ne_true c20) ?_
   refine aK rfl ?_
   refine T.seq ?_
   refine aS ?_
   refine TL.op1 (OpR.loadPtr 0 rfl rfl rfl rfl) rfl ?_
   obtain ⟨x21, hx21, h0⟩ := bS h0
   refine TL.op1 (OpR.call0 fn35 (ref18_Right_c hx21) rfl) rfl ?_
   refine aA rfl rfl ?_
   refine aN rfl ?_
   rcases ite_some h0 with ⟨c22, h0⟩ | ⟨c22, h0⟩
   rotate_left
   · refine T.condT rfl (not_f (eq_false_of_ne_true c22)) ?_
     refine aS ?_
     obtain ⟨x33, hx33, h0⟩ := bS h0
     refine TL.op1 (OpR.call0 fn38 (law18_awake_c hx33) rfl) rfl ?_
     refine aA rfl rfl ?_
     refine aN rfl ?_
     refine T.ret ?_
     obtain rfl := Option.some.inj h0
     exact rP [] [4] [] rfl rfl rfl undef (cT rfl ResL.nil) rfl rfl rfl rfl
   refine T.condF rfl (not_t (c22)) ?_
   refine aK rfl ?_
   refine aS ?_
   refine TL.op1 (OpR.loadPtr 0 rfl rfl rfl rfl) rfl ?_
   obtain ⟨x23, hx23, h0⟩ := bS h0
   refine TL.op1 (OpR.call0 fn34 (law18_mine_c hx23) rfl) rfl ?_
   obtain ⟨x24, hx24, h0⟩ := bS h0
   refine TL.op1 (OpR.call0 fn36 (filter_Print_c hx24) rfl) rfl ?_
   obtain ⟨x25, hx25, h0⟩ := bS h0
   refine TL.op1 (OpR.call0 fn31 (filter_Parse_c hx25) rfl) rfl ?_
   iterate 3 refine aA rfl rfl ?_
   refine TL.op (OpR.alloc rfl rfl (fun _ => rfl)) rfl (fun p26 => ?_)
   refine TL.op0 (OpR.store 1 rfl rfl rfl rfl rfl rfl rfl rfl) ?_
   refine aA rfl rfl ?_
   refine aN rfl ?_
   refine T.seq ?_
   obtain ⟨t27, ht27, h0⟩ := bS h0
   refine T.cutC (fun S' => S' = ⟨[(4, (dT t27))], [], 74⟩) (fun _ h => h) ?_ ?_
   rotate_left
   · rintro _ rfl
     show T X _ _ _
     refine T.ret ?_
     obtain rfl := Option.some.inj h0
     exact rO [] [4] rfl undef (cT rfl ResL.nil) rfl rfl rfl rfl
   rcases ite_some ht27 with ⟨c29, ht27⟩ | ⟨c29, ht27⟩
   rotate_left
   · refine T.drawQ drawsX [dN x25.2, dT (x25.2 == 0), dT (x25.2 == 0), .tup [], .tup [], .tup [], .tup [], dT false, dT false, .tup [], dT false, dT false] [4] (by decide +kernel) rfl ?_ rfl ?_
     rotate_left
     · obtain rfl := Option.some.inj ht27
       exact ⟨_, gP [4] [] rfl rfl rfl, rfl⟩
     iterate 3 refine aB rfl rfl rfl ?_
     refine OpsQ.no (Want.bool rfl rfl rfl rfl (by rw [(beq_eq_false_iff_ne.2 c29)]; rfl)) rfl ?_
     refine OpsQ.no (Want.bool rfl rfl rfl rfl (by rw [(beq_eq_false_iff_ne.2 c29)]; rfl)) rfl ?_
     refine OpsQ.no (Want.bool rfl rfl rfl rfl (by rw [(beq_eq_false_iff_ne.2 c29)]; rfl)) rfl ?_
     refine OpsQ.no (Want.bool rfl rfl rfl rfl (by rw [(beq_eq_false_iff_ne.2 c29)]; rfl)) rfl ?_
     refine OpsQ.yes (Want.plain rfl) rfl (OpR.pickF rfl (beq_eq_false_iff_ne.2 c29) rfl) ?_
     refine aB rfl rfl rfl ?_
     refine OpsQ.no (Want.bool rfl rfl rfl rfl rfl) rfl ?_
     refine OpsQ.yes (Want.plain rfl) rfl (OpR.pickF rfl rfl rfl) ?_
     refine aB rfl rfl rfl ?_
     exact OpsQ.nil
   obtain ⟨x30, hx30, ht27⟩ := bS ht27
   rcases ite_some ht27 with ⟨c31, ht27⟩ | ⟨c31, ht27⟩
   rotate_left
   · refine T.drawQ drawsX [dN x25.2, dT (x25.2 == 0), dT (x25.2 == 0), .agg [dN x25.1.fCol, dN x25.1.fOp, .val (.string (bs x25.1.fArg)), dT x25.1.fNot], .agg [dN a0.fCol, dN a0.fOp, .val (.string (bs x3)), dT a0.fNot], .agg [dN x30.fCol, dN x30.fOp, .val (.string (bs x30.fArg)), dT x30.fNot], dT (x25.1 == x30), dT (x25.1 == x30), dT (x25.1 == x30), .tup [], dT false, dT false] [4] (by decide +kernel) rfl ?_ rfl ?_
     rotate_left
     · obtain rfl := Option.some.inj ht27
       exact ⟨_, gP [4] [] rfl rfl rfl, rfl⟩
     iterate 3 refine aB rfl rfl rfl ?_
     refine OpsQ.yes (Want.bool rfl rfl rfl rfl (by rw [(beq_iff_eq.2 c29)]; rfl)) rfl (OpR.loadPtr 1 rfl rfl rfl rfl) ?_
     refine OpsQ.yes (Want.bool rfl rfl rfl rfl (by rw [(beq_iff_eq.2 c29)]; rfl)) rfl (OpR.loadPtr 0 rfl rfl rfl rfl) ?_
     refine OpsQ.yes (Want.bool rfl rfl rfl rfl (by rw [(beq_iff_eq.2 c29)]; rfl)) rfl (OpR.call0 fn34 (law18_mine_c hx30) rfl) ?_
     refine OpsQ.yes (Want.bool rfl rfl rfl rfl (by rw [(beq_iff_eq.2 c29)]; rfl)) rfl (OpR.cast (OpR.eqStruct rfl rfl rfl rfl rfl (by kernel_rfl) (by kernel_rfl)) (boolE (beq_filter_Test x25.1 x30))) ?_
     refine OpsQ.yes (Want.plain rfl) rfl (OpR.pickT rfl (beq_iff_eq.2 c29) rfl) ?_
     refine aB rfl rfl rfl ?_
     refine OpsQ.no (Want.bool rfl rfl rfl rfl (by rw [(beq_eq_false_iff_ne.2 c31)]; rfl)) rfl ?_
     refine OpsQ.yes (Want.plain rfl) rfl (OpR.pickF rfl (beq_eq_false_iff_ne.2 c31) rfl) ?_
     refine aB rfl rfl rfl ?_
     exact OpsQ.nil
   obtain ⟨x32, hx32, ht27⟩ := bS ht27
   refine T.drawQ drawsX [dN x25.2, dT (x25.2 == 0), dT (x25.2 == 0), .agg [dN x25.1.fCol, dN x25.1.fOp, .val (.string (bs x25.1.fArg)), dT x25.1.fNot], .agg [dN a0.fCol, dN a0.fOp, .val (.string (bs x3)), dT a0.fNot], .agg [dN x30.fCol, dN x30.fOp, .val (.string (bs x30.fArg)), dT x30.fNot], dT (x25.1 == x30), dT (x25.1 == x30), dT (x25.1 == x30), dT x32, dT x32, dT x32] [4] (by decide +kernel) rfl ?_ rfl ?_
   rotate_left
   · obtain rfl := Option.some.inj ht27
     exact ⟨_, gP [4] [] rfl rfl rfl, rfl⟩
   iterate 3 refine aB rfl rfl rfl ?_
   refine OpsQ.yes (Want.bool rfl rfl rfl rfl (by rw [(beq_iff_eq.2 c29)]; rfl)) rfl (OpR.loadPtr 1 rfl rfl rfl rfl) ?_
   refine OpsQ.yes (Want.bool rfl rfl rfl rfl (by rw [(beq_iff_eq.2 c29)]; rfl)) rfl (OpR.loadPtr 0 rfl rfl rfl rfl) ?_
   refine OpsQ.yes (Want.bool rfl rfl rfl rfl (by rw [(beq_iff_eq.2 c29)]; rfl)) rfl (OpR.call0 fn34 (law18_mine_c hx30) rfl) ?_
   refine OpsQ.yes (Want.bool rfl rfl rfl rfl (by rw [(beq_iff_eq.2 c29)]; rfl)) rfl (OpR.cast (OpR.eqStruct rfl rfl rfl rfl rfl (by kernel_rfl) (by kernel_rfl)) (boolE (beq_filter_Test x25.1 x30))) ?_
   refine OpsQ.yes (Want.plain rfl) rfl (OpR.pickT rfl (beq_iff_eq.2 c29) rfl) ?_
   refine aB rfl rfl rfl ?_
   refine OpsQ.yes (Want.bool rfl rfl rfl rfl (by rw [(beq_iff_eq.2 c31)]; rfl)) rfl (OpR.call0 fn38 (law18_awake_c hx32) rfl) ?_
   refine OpsQ.yes (Want.plain rfl) rfl (OpR.pickT rfl (beq_iff_eq.2 c31) rfl) ?_
   refine aB rfl rfl rfl ?_
   exact OpsQ.nil
 obtain ⟨x10, hx10, ht8⟩ := bS ht8
 obtain ⟨x11, hx11, ht8⟩ := bS ht8
 obtain ⟨x12, hx12, ht8⟩ := bS ht8
 rcases ite_some ht8 with ⟨c13, ht8⟩ | ⟨c13, ht8⟩
 rotate_left
 · refine T.drawQ drawsX [.agg [dN a0.fCol, dN a0.fOp, .val (.string (bs x3)), dT a0.fNot], .agg [dN x10.fCol, dN x10.fOp, .val (.string (bs x10.fArg)), dT x10.fNot], dT x11, .agg [dN a0.fCol, dN a0.fOp, .val (.string (bs x3)), dT a0.fNot], dT x12, dT (!(x11 == x12)), dT (!(x11 == x12)), .tup [], .tup [], .tup [], .tup [], .tup [], .tup [], dT true, dT true, .tup [], .tup [], .tup [], .tup [], dT true, dT true, .tup [], .tup [], .tup [], dT true] [2, 4, 51] (by decide +kernel) rfl ?_ rfl ?_
   rotate_left
   · obtain rfl := Option.some.inj ht8
     exact ⟨_, gP [2, 4, 51] [0] rfl rfl rfl, rfl⟩
   refine OpsQ.yes (Want.plain rfl) rfl (OpR.loadPtr 0 rfl rfl rfl rfl) ?_
   refine OpsQ.yes (Want.plain rfl) rfl (OpR.call0 fn34 (law18_mine_c hx10) rfl) ?_
   refine OpsQ.yes (Want.plain rfl) rfl (OpR.call0 fn33 (filter_Right_c hx11) rfl) ?_
   refine OpsQ.yes (Want.plain rfl) rfl (OpR.loadPtr 0 rfl rfl rfl rfl) ?_
   refine OpsQ.yes (Want.plain rfl) rfl (OpR.call0 fn35 (ref18_Right_c hx12) rfl) ?_
   refine OpsQ.yes (Want.plain rfl) rfl (OpR.neBool rfl rfl rfl rfl) ?_
   refine aB rfl rfl rfl ?_
   refine OpsQ.no (Want.bool rfl rfl rfl rfl (by rw [(not_f (eq_false_of_ne_true c13))]; rfl)) rfl ?_
   refine OpsQ.no (Want.bool rfl rfl rfl rfl (by rw [(not_f (eq_false_of_ne_true c13))]; rfl)) rfl ?_
   refine OpsQ.no (Want.bool rfl rfl rfl rfl (by rw [(not_f (eq_false_of_ne_true c13))]; rfl)) rfl ?_
   refine OpsQ.no (Want.bool rfl rfl rfl rfl (by rw [(not_f (eq_false_of_ne_true c13))]; rfl)) rfl ?_
   refine OpsQ.no (Want.bool rfl rfl rfl rfl (by rw [(not_f (eq_false_of_ne_true c13))]; rfl)) rfl ?_
   refine OpsQ.no (Want.bool rfl rfl rfl rfl (by rw [(not_f (eq_false_of_ne_true c13))]; rfl)) rfl ?_
   refine OpsQ.yes (Want.plain rfl) rfl (OpR.pickT rfl (not_f (eq_false_of_ne_true c13)) rfl) ?_
   refine aB rfl rfl rfl ?_
   refine OpsQ.no (Want.bool rfl rfl rfl rfl rfl) rfl ?_
   refine OpsQ.no (Want.bool rfl rfl rfl rfl rfl) rfl ?_
   refine OpsQ.no (Want.bool rfl rfl rfl rfl rfl) rfl ?_
   refine OpsQ.no (Want.bool rfl rfl rfl rfl rfl) rfl ?_
   refine OpsQ.yes (Want.plain rfl) rfl (OpR.pickT rfl rfl rfl) ?_
   refine aB rfl rfl rfl ?_
   refine OpsQ.no (Want.bool rfl rfl rfl rfl rfl) rfl ?_
   refine OpsQ.no (Want.bool rfl rfl rfl rfl rfl) rfl ?_
   refine OpsQ.no (Want.bool rfl rfl rfl rfl rfl) rfl ?_
   refine OpsQ.yes (Want.plain rfl) rfl (OpR.pickT rfl rfl rfl) ?_
   exact OpsQ.nil
 obtain ⟨x14, hx14, ht8⟩ := bS ht8
 obtain ⟨x15, hx15, ht8⟩ := bS ht8
 obtain ⟨x16, hx16, ht8⟩ := bS ht8
 rcases ite_some ht8 with ⟨c17, ht8⟩ | ⟨c17, ht8⟩
 rotate_left
 · refine T.drawQ drawsX [.agg [dN a0.fCol, dN a0.fOp, .val (.string (bs x3)), dT a0.fNot], .agg [dN x10.fCol, dN x10.fOp, .val (.string (bs x10.fArg)), dT x10.fNot], dT x11, .agg [dN a0.fCol, dN a0.fOp, .val (.string (bs x3)), dT a0.fNot], dT x12, dT (!(x11 == x12)), dT (!(x11 == x12)), .agg [dN a0.fCol, dN a0.fOp, .val (.string (bs x3)), dT a0.fNot], .agg [dN x14.fCol, dN x14.fOp, .val (.string (bs x14.fArg)), dT x14.fNot], .val (.string (bs x15)), .agg [dN a0.fCol, dN a0.fOp, .val (.string (bs x3)), dT a0.fNot], .val (.string (bs x16)), dT (!(x15 == x16)), dT (!(x15 == x16)), dT (!(x15 == x16)), .tup [], .tup [], .tup [], .tup [], dT true, dT true, .tup [], .tup [], .tup [], dT true] [2, 4, 51] (by decide +kernel) rfl ?_ rfl ?_
   rotate_left
   · obtain rfl := Option.some.inj ht8
     exact ⟨_, gP [2, 4, 51] [0] rfl rfl rfl, rfl⟩
   refine OpsQ.yes (Want.plain rfl) rfl (OpR.loadPtr 0 rfl rfl rfl rfl) ?_
   refine OpsQ.yes (Want.plain rfl) rfl (OpR.call0 fn34 (law18_mine_c hx10) rfl) ?_
   refine OpsQ.yes (Want.plain rfl) rfl (OpR.call0 fn33 (filter_Right_c hx11) rfl) ?_
   refine OpsQ.yes (Want.plain rfl) rfl (OpR.loadPtr 0 rfl rfl rfl rfl) ?_
   refine OpsQ.yes (Want.plain rfl) rfl (OpR.call0 fn35 (ref18_Right_c hx12) rfl) ?_
   refine OpsQ.yes (Want.plain rfl) rfl (OpR.neBool rfl rfl rfl rfl) ?_
   refine aB rfl rfl rfl ?_
   refine OpsQ.yes (Want.bool rfl rfl rfl rfl (by rw [(not_t (c13))]; rfl)) rfl (OpR.loadPtr 0 rfl rfl rfl rfl) ?_
   refine OpsQ.yes (Want.bool rfl rfl rfl rfl (by rw [(not_t (c13))]; rfl)) rfl (OpR.call0 fn34 (law18_mine_c hx14) rfl) ?_
   refine OpsQ.yes (Want.bool rfl rfl rfl rfl (by rw [(not_t (c13))]; rfl)) rfl (OpR.call0 fn36 (filter_Print_c hx15) rfl) ?_
   refine OpsQ.yes (Want.bool rfl rfl rfl rfl (by rw [(not_t (c13))]; rfl)) rfl (OpR.loadPtr 0 rfl rfl rfl rfl) ?_
   refine OpsQ.yes (Want.bool rfl rfl rfl rfl (by rw [(not_t (c13))]; rfl)) rfl (OpR.call0 fn37 (ref18_Print_c hx16) rfl) ?_
   refine OpsQ.yes (Want.bool rfl rfl rfl rfl (by rw [(not_t (c13))]; rfl)) rfl (OpR.cast (OpR.pure rfl) (boolE (strNe _ _))) ?_
   refine OpsQ.yes (Want.plain rfl) rfl (OpR.pickF rfl (not_t (c13)) rfl) ?_
   refine aB rfl rfl rfl ?_
   refine OpsQ.no (Want.bool rfl rfl rfl rfl (by rw [(not_f (beq_eq_false_iff_ne.2 c17))]; rfl)) rfl ?_
   refine OpsQ.no (Want.bool rfl rfl rfl rfl (by rw [(not_f (beq_eq_false_iff_ne.2 c17))]; rfl)) rfl ?_
   refine OpsQ.no (Want.bool rfl rfl rfl rfl (by rw [(not_f (beq_eq_false_iff_ne.2 c17))]; rfl)) rfl ?_
   refine OpsQ.no (Want.bool rfl rfl rfl rfl (by rw [(not_f (beq_eq_false_iff_ne.2 c17))]; rfl)) rfl ?_
   refine OpsQ.yes (Want.plain rfl) rfl (OpR.pickT rfl (not_f (beq_eq_false_iff_ne.2 c17)) rfl) ?_
   refine aB rfl rfl rfl ?_
   refine OpsQ.no (Want.bool rfl rfl rfl rfl rfl) rfl ?_
   refine OpsQ.no (Want.bool rfl rfl rfl rfl rfl) rfl ?_
   refine OpsQ.no (Want.bool rfl rfl rfl rfl rfl) rfl ?_
   refine OpsQ.yes (Want.plain rfl) rfl (OpR.pickT rfl rfl rfl) ?_
   exact OpsQ.nil
 obtain ⟨x18, hx18, ht8⟩ := bS ht8
 rcases ite_some ht8 with ⟨c19, ht8⟩ | ⟨c19, ht8⟩
 rotate_left
 · refine T.drawQ drawsX [.agg [dN a0.fCol, dN a0.fOp, .val (.string (bs x3)), dT a0.fNot], .agg [dN x10.fCol, dN x10.fOp, .val (.string (bs x10.fArg)), dT x10.fNot], dT x11, .agg [dN a0.fCol, dN a0.fOp, .val (.string (bs x3)), dT a0.fNot], dT x12, dT (!(x11 == x12)), dT (!(x11 == x12)), .agg [dN a0.fCol, dN a0.fOp, .val (.string (bs x3)), dT a0.fNot], .agg [dN x14.fCol, dN x14.fOp, .val (.string (bs x14.fArg)), dT x14.fNot], .val (.string (bs x15)), .agg [dN a0.fCol, dN a0.fOp, .val (.string (bs x3)), dT a0.fNot], .val (.string (bs x16)), dT (!(x15 == x16)), dT (!(x15 == x16)), dT (!(x15 == x16)), .agg [dN x4.1.fCol, dN x4.1.fOp, .val (.string (bs x4.1.fArg)), dT x4.1.fNot], .agg [dN x6.1.fCol, dN x6.1.fOp, .val (.string (bs x6.1.fArg)), dT x6.1.fNot], .agg [dN x18.fCol, dN x18.fOp, .val (.string (bs x18.fArg)), dT x18.fNot], dT (!(x4.1 == x18)), dT (!(x4.1 == x18)), dT (!(x4.1 == x18)), .tup [], .tup [], .tup [], dT true] [2, 4, 51] (by decide +kernel) rfl ?_ rfl ?_
   rotate_left
   · obtain rfl := Option.some.inj ht8
     exact ⟨_, gP [2, 4, 51] [0] rfl rfl rfl, rfl⟩
   refine OpsQ.yes (Want.plain rfl) rfl (OpR.loadPtr 0 rfl rfl rfl rfl) ?_
   refine OpsQ.yes (Want.plain rfl) rfl (OpR.call0 fn34 (law18_mine_c hx10) rfl) ?_
   refine OpsQ.yes (Want.plain rfl) rfl (OpR.call0 fn33 (filter_Right_c hx11) rfl) ?_
   refine OpsQ.yes (Want.plain rfl) rfl (OpR.loadPtr 0 rfl rfl rfl rfl) ?_
   refine OpsQ.yes (Want.plain rfl) rfl (OpR.call0 fn35 (ref18_Right_c hx12) rfl) ?_
   refine OpsQ.yes (Want.plain rfl) rfl (OpR.neBool rfl rfl rfl rfl) ?_
   refine aB rfl rfl rfl ?_
   refine OpsQ.yes (Want.bool rfl rfl rfl rfl (by rw [(not_t (c13))]; rfl)) rfl (OpR.loadPtr 0 rfl rfl rfl rfl) ?_
   refine OpsQ.yes (Want.bool rfl rfl rfl rfl (by rw [(not_t (c13))]; rfl)) rfl (OpR.call0 fn34 (law18_mine_c hx14) rfl) ?_
   refine OpsQ.yes (Want.bool rfl rfl rfl rfl (by rw [(not_t (c13))]; rfl)) rfl (OpR.call0 fn36 (filter_Print_c hx15) rfl) ?_
   refine OpsQ.yes (Want.bool rfl rfl rfl rfl (by rw [(not_t (c13))]; rfl)) rfl (OpR.loadPtr 0 rfl rfl rfl rfl) ?_
   refine OpsQ.yes (Want.bool rfl rfl rfl rfl (by rw [(not_t (c13))]; rfl)) rfl (OpR.call0 fn37 (ref18_Print_c hx16) rfl) ?_
   refine OpsQ.yes (Want.bool rfl rfl rfl rfl (by rw [(not_t (c13))]; rfl)) rfl (OpR.cast (OpR.pure rfl) (boolE (strNe _ _))) ?_
   refine OpsQ.yes (Want.plain rfl) rfl (OpR.pickF rfl (not_t (c13)) rfl) ?_
   refine aB rfl rfl rfl ?_
   refine OpsQ.yes (Want.bool rfl rfl rfl rfl (by rw [(not_t (beq_iff_eq.2 c17))]; rfl)) rfl (OpR.loadPtr 1 rfl rfl rfl rfl) ?_
   refine OpsQ.yes (Want.bool rfl rfl rfl rfl (by rw [(not_t (beq_iff_eq.2 c17))]; rfl)) rfl (OpR.loadPtr 2 rfl rfl rfl rfl) ?_
   refine OpsQ.yes (Want.bool rfl rfl rfl rfl (by rw [(not_t (beq_iff_eq.2 c17))]; rfl)) rfl (OpR.call0 fn34 (law18_mine_c hx18) rfl) ?_
   refine OpsQ.yes (Want.bool rfl rfl rfl rfl (by rw [(not_t (beq_iff_eq.2 c17))]; rfl)) rfl (OpR.cast (OpR.neStruct rfl rfl rfl rfl rfl (by kernel_rfl) (by kernel_rfl)) (boolE (congrArg (fun b => !b) (beq_filter_Test x4.1 x18)))) ?_
   refine OpsQ.yes (Want.plain rfl) rfl (OpR.pickF rfl (not_t (beq_iff_eq.2 c17)) rfl) ?_
   refine aB rfl rfl rfl ?_
   refine OpsQ.no (Want.bool rfl rfl rfl rfl (by rw [(not_f (beq_eq_false_iff_ne.2 c19))]; rfl)) rfl ?_
   refine OpsQ.no (Want.bool rfl rfl rfl rfl (by rw [(not_f (beq_eq_false_iff_ne.2 c19))]; rfl)) rfl ?_
   refine OpsQ.no (Want.bool rfl rfl rfl rfl (by rw [(not_f (beq_eq_false_iff_ne.2 c19))]; rfl)) rfl ?_
   refine OpsQ.yes (Want.plain rfl) rfl (OpR.pickT rfl (not_f (beq_eq_false_iff_ne.2 c19)) rfl) ?_
   exact OpsQ.nil
 refine T.drawQ drawsX [.agg [dN a0.fCol, dN a0.fOp, .val (.string (bs x3)), dT a0.fNot], .agg [dN x10.fCol, dN x10.fOp, .val (.string (bs x10.fArg)), dT x10.fNot], dT x11, .agg [dN a0.fCol, dN a0.fOp, .val (.string (bs x3)), dT a0.fNot], dT x12, dT (!(x11 == x12)), dT (!(x11 == x12)), .agg [dN a0.fCol, dN a0.fOp, .val (.string (bs x3)), dT a0.fNot], .agg [dN x14.fCol, dN x14.fOp, .val (.string (bs x14.fArg)), dT x14.fNot], .val (.string (bs x15)), .agg [dN a0.fCol, dN a0.fOp, .val (.string (bs x3)), dT a0.fNot], .val (.string (bs x16)), dT (!(x15 == x16)), dT (!(x15 == x16)), dT (!(x15 == x16)), .agg [dN x4.1.fCol, dN x4.1.fOp, .val (.string (bs x4.1.fArg)), dT x4.1.fNot], .agg [dN x6.1.fCol, dN x6.1.fOp, .val (.string (bs x6.1.fArg)), dT x6.1.fNot], .agg [dN x18.fCol, dN x18.fOp, .val (.string (bs x18.fArg)), dT x18.fNot], dT (!(x4.1 == x18)), dT (!(x4.1 == x18)), dT (!(x4.1 == x18)), dN x4.2, dN x6.2, dT (!(x4.2 == x6.2)), dT (!(x4.2 == x6.2))] [2, 4, 51] (by decide +kernel) rfl ?_ rfl ?_
 rotate_left
 · obtain rfl := Option.some.inj ht8
   exact ⟨_, gP [2, 4, 51] [0] rfl rfl rfl, rfl⟩
 refine OpsQ.yes (Want.plain rfl) rfl (OpR.loadPtr 0 rfl rfl rfl rfl) ?_
 refine OpsQ.yes (Want.plain rfl) rfl (OpR.call0 fn34 (law18_mine_c hx10) rfl) ?_
 refine OpsQ.yes (Want.plain rfl) rfl (OpR.call0 fn33 (filter_Right_c hx11) rfl) ?_
 refine OpsQ.yes (Want.plain rfl) rfl (OpR.loadPtr 0 rfl rfl rfl rfl) ?_
 refine OpsQ.yes (Want.plain rfl) rfl (OpR.call0 fn35 (ref18_Right_c hx12) rfl) ?_
 refine OpsQ.yes (Want.plain rfl) rfl (OpR.neBool rfl rfl rfl rfl) ?_
 refine aB rfl rfl rfl ?_
 refine OpsQ.yes (Want.bool rfl rfl rfl rfl (by rw [(not_t (c13))]; rfl)) rfl (OpR.loadPtr 0 rfl rfl rfl rfl) ?_
 refine OpsQ.yes (Want.bool rfl rfl rfl rfl (by rw [(not_t (c13))]; rfl)) rfl (OpR.call0 fn34 (law18_mine_c hx14) rfl) ?_
 refine OpsQ.yes (Want.bool rfl rfl rfl rfl (by rw [(not_t (c13))]; rfl)) rfl (OpR.call0 fn36 (filter_Print_c hx15) rfl) ?_
 refine OpsQ.yes (Want.bool rfl rfl rfl rfl (by rw [(not_t (c13))]; rfl)) rfl (OpR.loadPtr 0 rfl rfl rfl rfl) ?_
 refine OpsQ.yes (Want.bool rfl rfl rfl rfl (by rw [(not_t (c13))]; rfl)) rfl (OpR.call0 fn37 (ref18_Print_c hx16) rfl) ?_
 refine OpsQ.yes (Want.bool rfl rfl rfl rfl (by rw [(not_t (c13))]; rfl)) rfl (OpR.cast (OpR.pure rfl) (boolE (strNe _ _))) ?_
 refine OpsQ.yes (Want.plain rfl) rfl (OpR.pickF rfl (not_t (c13)) rfl) ?_
 refine aB rfl rfl rfl ?_
 refine OpsQ.yes (Want.bool rfl rfl rfl rfl (by rw [(not_t (beq_iff_eq.2 c17))]; rfl)) rfl (OpR.loadPtr 1 rfl rfl rfl rfl) ?_
 refine OpsQ.yes (Want.bool rfl rfl rfl rfl (by rw [(not_t (beq_iff_eq.2 c17))]; rfl)) rfl (OpR.loadPtr 2 rfl rfl rfl rfl) ?_
 refine OpsQ.yes (Want.bool rfl rfl rfl rfl (by rw [(not_t (beq_iff_eq.2 c17))]; rfl)) rfl (OpR.call0 fn34 (law18_mine_c hx18) rfl) ?_
 refine OpsQ.yes (Want.bool rfl rfl rfl rfl (by rw [(not_t (beq_iff_eq.2 c17))]; rfl)) rfl (OpR.cast (OpR.neStruct rfl rfl rfl rfl rfl (by kernel_rfl) (by kernel_rfl)) (boolE (congrArg (fun b => !b) (beq_filter_Test x4.1 x18)))) ?_
 refine OpsQ.yes (Want.plain rfl) rfl (OpR.pickF rfl (not_t (beq_iff_eq.2 c17)) rfl) ?_
 refine aB rfl rfl rfl ?_
 refine OpsQ.yes (Want.bool rfl rfl rfl rfl (by rw [(not_t (beq_iff_eq.2 c19))]; rfl)) rfl (OpR.pure rfl) ?_
 refine OpsQ.yes (Want.bool rfl rfl rfl rfl (by rw [(not_t (beq_iff_eq.2 c19))]; rfl)) rfl (OpR.pure rfl) ?_
 refine OpsQ.yes (Want.bool rfl rfl rfl rfl (by rw [(not_t (beq_iff_eq.2 c19))]; rfl)) rfl (OpR.pure rfl) ?_
 refine OpsQ.yes (Want.plain rfl) rfl (OpR.pickF rfl (not_t (beq_iff_eq.2 c19)) rfl) ?_
 exact OpsQ.nil
end Go.Proofs.YtpmhiiemklhbhaaGreat.S
