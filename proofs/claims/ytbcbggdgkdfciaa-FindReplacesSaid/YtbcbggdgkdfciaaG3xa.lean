/- Printed by a program of this session's own (gen.py): Lean functions for Go functions, and the proofs that the Go code comes to their answers. -/
import Derived.Test.YtbcbggdgkdfciaaG1xa
import Derived.Test.YtbcbggdgkdfciaaG1xc
set_option maxHeartbeats 4000000
set_option linter.unusedVariables false
set_option linter.unusedSimpArgs false
set_option maxRecDepth 20000
namespace Go.Proofs.Ytbcbggdgkdfciaa.S
open Go Go.Sm
attribute [local irreducible] T TL OpR CallT iter loop
noncomputable def ref17_Replace.l1 (a0 : List UInt8) (a1 : List UInt8) (a2 : List UInt8) (a3 : Bool) (s2 : (List UInt8) × Int × Int) : Option (Lp ((List UInt8) × Int × Int) ((List UInt8) × Int)) :=
  if s2.2.2 < (a0.length : Int) then
    bnd (bnd (ref17_at a0 a1 s2.2.2) fun x12 =>
    if x12 = true then
      if a3 = true then
        some true
      else
        some (s2.2.1 == 0)
    else
      some false : Option Bool) fun t11 =>
    bnd (if t11 = true then
      bnd (catS s2.1 a2) fun x17 =>
      some (x17, w64 (s2.2.1 + 1), w64 ((w64 (s2.2.2 + (a1.length : Int))) - 1))
    else
      bnd (cut a0 s2.2.2 (w64 (s2.2.2 + 1))) fun x18 =>
      bnd (catS s2.1 x18) fun x19 =>
      some (x19, s2.2.1, s2.2.2) : Option ((List UInt8) × Int × Int)) fun t15 =>
    some (Lp.next (t15.1, t15.2.1, w64 (t15.2.2 + 1)))
  else
    some (Lp.done (s2.1, s2.2.1))
noncomputable def ref17_Replace (a0 : List UInt8) (a1 : List UInt8) (a2 : List UInt8) (a3 : Bool) : Option ((List UInt8) × Int) :=
  bnd (loop (ref17_Replace.l1 a0 a1 a2 a3) ([], 0, 0) : Option ((List UInt8) × Int)) fun t1 =>
  some (t1.1, t1.2)
theorem ref17_Replace_c {a0 : List UInt8} {a1 : List UInt8} {a2 : List UInt8} {a3 : Bool} {res : (List UInt8) × Int} (h0 : ref17_Replace a0 a1 a2 a3 = some res) : CallF X 13 [.val (.string (bs a0)), .val (.string (bs a1)), .val (.string (bs a2)), dT a3] [] (fun x => .tup [.val (.string (bs res.1)), dN res.2]) (fun x => []) := by
 unfold ref17_Replace at h0
 refine CallF.mkG (X := X) rfl Try.func13 rfl rfl Try.ntmps13 rfl rfl ?_
 refine aS ?_
 iterate 2 refine aA rfl rfl ?_
 refine aN rfl ?_
 refine aS ?_
 refine aA rfl rfl ?_
 refine aN rfl ?_
 refine aS ?_
 refine aA rfl rfl ?_
 refine aN rfl ?_
 refine T.seq ?_
 refine aS ?_
 refine aA rfl rfl ?_
 refine aN rfl ?_
 obtain ⟨t1, ht1, h0⟩ := bS h0
 refine T.cutC (fun S' => S' = ⟨[(11, (dN t1.2)), (10, .val (.string (bs t1.1))), (9, (dN 0)), (8, .val (.string (bs [])))], [], 49⟩) (fun _ h => h) ?_ ?_
 rotate_left
 · rintro _ rfl
   show T X _ _ _
   refine aS ?_
   iterate 4 refine aA rfl rfl ?_
   refine aN rfl ?_
   refine T.ret ?_
   obtain rfl := Option.some.inj h0
   exact rO [] [8, 9] rfl undef (cT rfl (cT rfl ResL.nil)) rfl rfl rfl rfl
 refine T.block ?_
 obtain ⟨n3, n8⟩ := loop_some ht1
 refine T.loop (fun n S' => ∃ S'', Gst S' S'' ∧ ∃ s2 : (List UInt8) × Int × Int, S'' = ⟨[(12, (dN s2.2.2)), (11, (dN s2.2.1)), (10, .val (.string (bs s2.1))), (9, (dN 0)), (8, .val (.string (bs []))), (3, (dT a3)), (2, .val (.string (bs a2))), (1, .val (.string (bs a1))), (0, .val (.string (bs a0)))], [], 49⟩ ∧ iter (ref17_Replace.l1 a0 a1 a2 a3) n s2 = some t1) n3 ?_ ?_
 · exact ⟨_, Gst.only [0, 1, 2, 3, 8, 9, 10, 11, 12] rfl, ([], 0, 0), rfl, n8⟩
 rintro n3 _ ⟨_, g, s2, rfl, i7⟩
 refine T.ghost g ?_
 obtain ⟨m4, q5, rfl, q6, i7⟩ := iter_succ i7
 unfold ref17_Replace.l1 at q6
 refine T.seq ?_
 refine aS ?_
 iterate 2 refine aA rfl rfl ?_
 refine TL.op1 (OpR.cast (OpR.pure rfl) (intE (lenS _))) rfl ?_
 refine aA rfl rfl ?_
 refine aN rfl ?_
 rcases ite_some q6 with ⟨c10, q6⟩ | ⟨c10, q6⟩
 rotate_left
 · refine T.condF rfl (decide_eq_false c10) ?_
   refine T.exit ?_
   obtain rfl := Option.some.inj q6
   obtain rfl : _ = _ := i7
   exact ⟨_, Gst.only [8, 9, 10, 11] rfl, rfl⟩
 refine T.condT rfl (decide_eq_true c10) ?_
 refine aK rfl ?_
 refine T.seq ?_
 refine T.block ?_
 refine T.seq ?_
 obtain ⟨t11, ht11, q6⟩ := bS q6
 refine T.cutC (fun S' => S' = ⟨[(29, (dT t11)), (12, (dN s2.2.2)), (11, (dN s2.2.1)), (10, .val (.string (bs s2.1))), (9, (dN 0)), (8, .val (.string (bs []))), (3, (dT a3)), (2, .val (.string (bs a2))), (1, .val (.string (bs a1))), (0, .val (.string (bs a0)))], [], 49⟩) (fun _ h => h) ?_ ?_
 · refine T.region ?_
   iterate 3 refine aA rfl rfl ?_
   obtain ⟨x12, hx12, ht11⟩ := bS ht11
   refine TL.op1 (OpR.call0 fn62 (ref17_at_c hx12) rfl) rfl ?_
   refine aA rfl rfl ?_
   rcases ite_some ht11 with ⟨c13, ht11⟩ | ⟨c13, ht11⟩
   rotate_left
   · refine TL.off rfl rfl rfl rfl (eq_false_of_ne_true c13) rfl rfl ?_
     refine TL.off rfl rfl rfl rfl (eq_false_of_ne_true c13) rfl rfl ?_
     refine TL.offU rfl rfl rfl rfl rfl rfl ?_
     refine TL.offU rfl rfl rfl rfl rfl rfl ?_
     refine TL.off rfl rfl rfl rfl (eq_false_of_ne_true c13) rfl rfl ?_
     refine TL.op1 (OpR.pickF rfl (eq_false_of_ne_true c13) rfl) rfl ?_
     refine TL.nil ?_
     obtain rfl := Option.some.inj ht11
     exact ⟨_, Gst.only [0, 1, 2, 3, 8, 9, 10, 11, 12, 29] rfl, rfl⟩
   refine TL.on rfl rfl rfl rfl (c13) ?_
   refine aA rfl rfl ?_
   refine TL.on rfl rfl rfl rfl (c13) ?_
   refine aA rfl rfl ?_
   rcases ite_some ht11 with ⟨c14, ht11⟩ | ⟨c14, ht11⟩
   · refine TL.off rfl rfl rfl rfl (c14) rfl rfl ?_
     refine TL.off rfl rfl rfl rfl (c14) rfl rfl ?_
     refine TL.on rfl rfl rfl rfl (c13) ?_
     refine TL.op1 (OpR.pickT rfl (c14) rfl) rfl ?_
     refine TL.op1 (OpR.pickT rfl (c13) rfl) rfl ?_
     refine TL.nil ?_
     obtain rfl := Option.some.inj ht11
     exact ⟨_, Gst.only [0, 1, 2, 3, 8, 9, 10, 11, 12, 29] rfl, rfl⟩
   refine TL.on rfl rfl rfl rfl (eq_false_of_ne_true c14) ?_
   refine aA rfl rfl ?_
   refine TL.on rfl rfl rfl rfl (eq_false_of_ne_true c14) ?_
   refine aA rfl rfl ?_
   refine TL.on rfl rfl rfl rfl (c13) ?_
   refine TL.op1 (OpR.pickF rfl (eq_false_of_ne_true c14) rfl) rfl ?_
   refine TL.op1 (OpR.pickT rfl (c13) rfl) rfl ?_
   refine TL.nil ?_
   obtain rfl := Option.some.inj ht11
   exact ⟨_, Gst.only [0, 1, 2, 3, 8, 9, 10, 11, 12, 29] rfl, rfl⟩
 rintro _ rfl
 show T X _ _ _
 obtain ⟨t15, ht15, q6⟩ := bS q6
 refine T.cutC (fun S' => S' = ⟨[(12, (dN t15.2.2)), (11, (dN t15.2.1)), (10, .val (.string (bs t15.1))), (9, (dN 0)), (8, .val (.string (bs []))), (3, (dT a3)), (2, .val (.string (bs a2))), (1, .val (.string (bs a1))), (0, .val (.string (bs a0)))], [], 49⟩) (fun _ h => h) ?_ ?_
 rotate_left
 · rintro _ rfl
   show T X _ _ _
   refine T.region ?_
   iterate 3 refine aA rfl rfl ?_
   refine TL.nil ?_
   obtain rfl := Option.some.inj q6
   exact ⟨m4, Nat.lt_succ_self _, _, Gst.only [0, 1, 2, 3, 8, 9, 10, 11, 12] rfl, (t15.1, t15.2.1, w64 (t15.2.2 + 1)), rfl, i7⟩
 rcases ite_some ht15 with ⟨c16, ht15⟩ | ⟨c16, ht15⟩
 rotate_left
 · refine T.condF rfl (eq_false_of_ne_true c16) ?_
   refine T.region ?_
   iterate 5 refine aA rfl rfl ?_
   obtain ⟨x18, hx18, ht15⟩ := bS ht15
   refine TL.op1 (OpR.sliceS hx18 rfl rfl rfl (BdM.some rfl) (BdM.some rfl)) rfl ?_
   obtain ⟨x19, hx19, ht15⟩ := bS ht15
   refine TL.op1 (OpR.concatM hx19 rfl rfl) rfl ?_
   refine aA rfl rfl ?_
   refine TL.nil ?_
   obtain rfl := Option.some.inj ht15
   exact ⟨_, Gst.only [0, 1, 2, 3, 8, 9, 10, 11, 12] rfl, rfl⟩
 refine T.condT rfl (c16) ?_
 refine aS ?_
 iterate 2 refine aA rfl rfl ?_
 obtain ⟨x17, hx17, ht15⟩ := bS ht15
 refine TL.op1 (OpR.concatM hx17 rfl rfl) rfl ?_
 refine aA rfl rfl ?_
 refine aN rfl ?_
 refine aS ?_
 iterate 2 refine aA rfl rfl ?_
 refine TL.op1 (OpR.cast (OpR.pure rfl) (intE (lenS _))) rfl ?_
 iterate 3 refine aA rfl rfl ?_
 refine aN rfl ?_
 refine T.region ?_
 iterate 3 refine aA rfl rfl ?_
 refine TL.nil ?_
 obtain rfl := Option.some.inj ht15
 exact ⟨_, Gst.only [0, 1, 2, 3, 8, 9, 10, 11, 12] rfl, rfl⟩
noncomputable def law17_FindReplaces (a0 : List UInt8) (a1 : law17_Swap) : Option Bool :=
  bnd (law11_Cut a0 300) fun x2 =>
  bnd (law11_Cut a1.fP 30) fun x3 =>
  bnd (law11_Cut a1.fWith 30) fun x4 =>
  bnd (find_Replace x2 x3 x4 a1.fAll) fun x5 =>
  bnd (ref17_Replace x2 x3 x4 a1.fAll) fun x6 =>
  bnd (find_Replace x2 x3 x3 a1.fAll) fun x7 =>
  bnd (if x5.1 = x6.1 then
    if x5.2 = x6.2 then
      if x7.1 = x2 then
        if x7.2 = x5.2 then
          bnd (law17_awake) fun x13 =>
          some x13
        else
          some false
      else
        some false
    else
      some false
  else
    some false : Option Bool) fun t8 =>
  some t8
theorem law17_FindReplaces_c {a0 : List UInt8} {a1 : law17_Swap} {res : Bool} (h0 : law17_FindReplaces a0 a1 = some res) : CallF X 3 [.val (.string (bs a0)), .agg [.val (.string (bs a1.fP)), .val (.string (bs a1.fWith)), dT a1.fAll]] [] (fun x => (dT res)) (fun x => []) := by
 unfold law17_FindReplaces at h0
 refine CallF.mkG (X := X) rfl Try.func3 rfl rfl Try.ntmps3 rfl rfl ?_
 refine aS ?_
 refine TL.op1 (OpR.boxImm rfl rfl) rfl ?_
 refine aA rfl rfl ?_
 refine aN rfl ?_
 refine T.seq ?_
 obtain ⟨x2, hx2, h0⟩ := bS h0
 obtain ⟨x3, hx3, h0⟩ := bS h0
 obtain ⟨x4, hx4, h0⟩ := bS h0
 refine T.drawQ drawsX [.val (.string (bs a0)), .val (.string (bs x2)), .nod [.val (.string (bs a1.fP)), .val (.string (bs a1.fWith)), dT a1.fAll], .val (.string (bs a1.fP)), .val (.string (bs x3)), .nod [.val (.string (bs a1.fWith)), dT a1.fAll], .val (.string (bs a1.fWith)), .val (.string (bs x4)), .val (.string (bs x2)), .val (.string (bs x3)), .val (.string (bs x4))] [0, 3, 4, 5, 6] (by decide +kernel) rfl ?_ rfl ?_
 · refine aB rfl rfl rfl ?_
   refine OpsQ.yes (Want.plain rfl) rfl (OpR.call0 fn11 (law11_Cut_c hx2) rfl) ?_
   iterate 2 refine aB rfl rfl rfl ?_
   refine OpsQ.yes (Want.plain rfl) rfl (OpR.call0 fn11 (law11_Cut_c hx3) rfl) ?_
   iterate 2 refine aB rfl rfl rfl ?_
   refine OpsQ.yes (Want.plain rfl) rfl (OpR.call0 fn11 (law11_Cut_c hx4) rfl) ?_
   iterate 3 refine aB rfl rfl rfl ?_
   exact OpsQ.nil
 show T X _ _ _
 refine aS ?_
 refine aA rfl rfl ?_
 refine TL.op1 (OpR.toBytesM rfl rfl rfl rfl rfl rfl rfl) rfl ?_
 refine aA rfl rfl ?_
 refine TL.op1 (OpR.toBytesM rfl rfl rfl rfl rfl rfl rfl) rfl ?_
 refine aA rfl rfl ?_
 refine TL.op1 (OpR.toBytesM rfl rfl rfl rfl rfl rfl rfl) rfl ?_
 iterate 2 refine aA rfl rfl ?_
 obtain ⟨x5, hx5, h0⟩ := bS h0
 refine TL.op1 (OpR.call0 fn12 (find_Replace_c hx5) rfl) rfl ?_
 iterate 5 refine aA rfl rfl ?_
 refine aN rfl ?_
 refine aS ?_
 iterate 5 refine aA rfl rfl ?_
 obtain ⟨x6, hx6, h0⟩ := bS h0
 refine TL.op1 (OpR.call0 fn13 (ref17_Replace_c hx6) rfl) rfl ?_
 iterate 5 refine aA rfl rfl ?_
 refine aN rfl ?_
 refine aS ?_
 refine aA rfl rfl ?_
 refine TL.op1 (OpR.toBytesM rfl rfl rfl rfl rfl rfl rfl) rfl ?_
 refine aA rfl rfl ?_
 refine TL.op1 (OpR.toBytesM rfl rfl rfl rfl rfl rfl rfl) rfl ?_
 refine aA rfl rfl ?_
 refine TL.op1 (OpR.toBytesM rfl rfl rfl rfl rfl rfl rfl) rfl ?_
 iterate 2 refine aA rfl rfl ?_
 obtain ⟨x7, hx7, h0⟩ := bS h0
 refine TL.op1 (OpR.call0 fn12 (find_Replace_c hx7) rfl) rfl ?_
 iterate 5 refine aA rfl rfl ?_
 refine aN rfl ?_
 refine T.seq ?_
 obtain ⟨t8, ht8, h0⟩ := bS h0
 refine T.cutC (fun S' => S' = ⟨[(4, (dT t8))], [], 77⟩) (fun _ h => h) ?_ ?_
 rotate_left
 · rintro _ rfl
   show T X _ _ _
   refine T.ret ?_
   obtain rfl := Option.some.inj h0
   exact rO [] [4] rfl undef (cT rfl ResL.nil) rfl rfl rfl rfl
 refine T.region ?_
 refine aA rfl rfl ?_
 refine TL.op1 (OpR.toStr (bs := x5.1) rfl rfl rfl rfl rfl rfl rfl) rfl ?_
 refine aA rfl rfl ?_
 refine TL.op1 (OpR.cast (OpR.pure rfl) (boolE (strEq _ _))) rfl ?_
 refine aA rfl rfl ?_
 rcases ite_some ht8 with ⟨c9, ht8⟩ | ⟨c9, ht8⟩
 rotate_left
 · refine TL.off rfl rfl rfl rfl (beq_eq_false_iff_ne.2 c9) rfl rfl ?_
   refine TL.off rfl rfl rfl rfl (beq_eq_false_iff_ne.2 c9) rfl rfl ?_
   refine TL.off rfl rfl rfl rfl (beq_eq_false_iff_ne.2 c9) rfl rfl ?_
   refine TL.op1 (OpR.pickF rfl (beq_eq_false_iff_ne.2 c9) rfl) rfl ?_
   refine aA rfl rfl ?_
   refine TL.off rfl rfl rfl rfl rfl rfl rfl ?_
   refine TL.off rfl rfl rfl rfl rfl rfl rfl ?_
   refine TL.off rfl rfl rfl rfl rfl rfl rfl ?_
   refine TL.off rfl rfl rfl rfl rfl rfl rfl ?_
   refine TL.op1 (OpR.pickF rfl rfl rfl) rfl ?_
   refine aA rfl rfl ?_
   refine TL.off rfl rfl rfl rfl rfl rfl rfl ?_
   refine TL.off rfl rfl rfl rfl rfl rfl rfl ?_
   refine TL.off rfl rfl rfl rfl rfl rfl rfl ?_
   refine TL.op1 (OpR.pickF rfl rfl rfl) rfl ?_
   refine aA rfl rfl ?_
   refine TL.off rfl rfl rfl rfl rfl rfl rfl ?_
   refine TL.op1 (OpR.pickF rfl rfl rfl) rfl ?_
   refine aA rfl rfl ?_
   refine TL.nil ?_
   obtain rfl := Option.some.inj ht8
   exact ⟨_, Gst.only [4] rfl, rfl⟩
 refine TL.on rfl rfl rfl rfl (beq_iff_eq.2 c9) ?_
 refine aA rfl rfl ?_
 refine TL.on rfl rfl rfl rfl (beq_iff_eq.2 c9) ?_
 refine aA rfl rfl ?_
 refine TL.on rfl rfl rfl rfl (beq_iff_eq.2 c9) ?_
 refine aA rfl rfl ?_
 refine TL.op1 (OpR.pickT rfl (beq_iff_eq.2 c9) rfl) rfl ?_
 refine aA rfl rfl ?_
 rcases ite_some ht8 with ⟨c10, ht8⟩ | ⟨c10, ht8⟩
 rotate_left
 · refine TL.off rfl rfl rfl rfl (beq_eq_false_iff_ne.2 c10) rfl rfl ?_
   refine TL.off rfl rfl rfl rfl (beq_eq_false_iff_ne.2 c10) rfl rfl ?_
   refine TL.off rfl rfl rfl rfl (beq_eq_false_iff_ne.2 c10) rfl rfl ?_
   refine TL.off rfl rfl rfl rfl (beq_eq_false_iff_ne.2 c10) rfl rfl ?_
   refine TL.op1 (OpR.pickF rfl (beq_eq_false_iff_ne.2 c10) rfl) rfl ?_
   refine aA rfl rfl ?_
   refine TL.off rfl rfl rfl rfl rfl rfl rfl ?_
   refine TL.off rfl rfl rfl rfl rfl rfl rfl ?_
   refine TL.off rfl rfl rfl rfl rfl rfl rfl ?_
   refine TL.op1 (OpR.pickF rfl rfl rfl) rfl ?_
   refine aA rfl rfl ?_
   refine TL.off rfl rfl rfl rfl rfl rfl rfl ?_
   refine TL.op1 (OpR.pickF rfl rfl rfl) rfl ?_
   refine aA rfl rfl ?_
   refine TL.nil ?_
   obtain rfl := Option.some.inj ht8
   exact ⟨_, Gst.only [4] rfl, rfl⟩
 refine TL.on rfl rfl rfl rfl (beq_iff_eq.2 c10) ?_
 refine aA rfl rfl ?_
 refine TL.on rfl rfl rfl rfl (beq_iff_eq.2 c10) ?_
 refine TL.op1 (OpR.toStr (bs := x7.1) rfl rfl rfl rfl rfl rfl rfl) rfl ?_
 refine TL.on rfl rfl rfl rfl (beq_iff_eq.2 c10) ?_
 refine aA rfl rfl ?_
 refine TL.on rfl rfl rfl rfl (beq_iff_eq.2 c10) ?_
 refine TL.op1 (OpR.cast (OpR.pure rfl) (boolE (strEq _ _))) rfl ?_
 refine TL.op1 (OpR.pickT rfl (beq_iff_eq.2 c10) rfl) rfl ?_
 refine aA rfl rfl ?_
 rcases ite_some ht8 with ⟨c11, ht8⟩ | ⟨c11, ht8⟩
 rotate_left
 · refine TL.off rfl rfl rfl rfl (beq_eq_false_iff_ne.2 c11) rfl rfl ?_
   refine TL.off rfl rfl rfl rfl (beq_eq_false_iff_ne.2 c11) rfl rfl ?_
   refine TL.off rfl rfl rfl rfl (beq_eq_false_iff_ne.2 c11) rfl rfl ?_
   refine TL.op1 (OpR.pickF rfl (beq_eq_false_iff_ne.2 c11) rfl) rfl ?_
   refine aA rfl rfl ?_
   refine TL.off rfl rfl rfl rfl rfl rfl rfl ?_
   refine TL.op1 (OpR.pickF rfl rfl rfl) rfl ?_
   refine aA rfl rfl ?_
   refine TL.nil ?_
   obtain rfl := Option.some.inj ht8
   exact ⟨_, Gst.only [4] rfl, rfl⟩
 refine TL.on rfl rfl rfl rfl (beq_iff_eq.2 c11) ?_
 refine aA rfl rfl ?_
 refine TL.on rfl rfl rfl rfl (beq_iff_eq.2 c11) ?_
 refine aA rfl rfl ?_
 refine TL.on rfl rfl rfl rfl (beq_iff_eq.2 c11) ?_
 refine aA rfl rfl ?_
 refine TL.op1 (OpR.pickT rfl (beq_iff_eq.2 c11) rfl) rfl ?_
 refine aA rfl rfl ?_
 rcases ite_some ht8 with ⟨c12, ht8⟩ | ⟨c12, ht8⟩
 rotate_left
 · refine TL.off rfl rfl rfl rfl (beq_eq_false_iff_ne.2 c12) rfl rfl ?_
   refine TL.op1 (OpR.pickF rfl (beq_eq_false_iff_ne.2 c12) rfl) rfl ?_
   refine aA rfl rfl ?_
   refine TL.nil ?_
   obtain rfl := Option.some.inj ht8
   exact ⟨_, Gst.only [4] rfl, rfl⟩
 refine TL.on rfl rfl rfl rfl (beq_iff_eq.2 c12) ?_
 obtain ⟨x13, hx13, ht8⟩ := bS ht8
 refine TL.op1 (OpR.call0 fn14 (law17_awake_c hx13) rfl) rfl ?_
 refine TL.op1 (OpR.pickT rfl (beq_iff_eq.2 c12) rfl) rfl ?_
 refine aA rfl rfl ?_
 refine TL.nil ?_
 obtain rfl := Option.some.inj ht8
 exact ⟨_, Gst.only [4] rfl, rfl⟩
end Go.Proofs.Ytbcbggdgkdfciaa.S
