/- Printed by a program of this session's own (gen.py): Lean functions for Go functions, and the proofs that the Go code comes to their answers. -/
import Derived.Test.YtlginjmkmfodmaaDoorG3xa
import Derived.Test.YtlginjmkmfodmaaDoorG1xa
set_option maxHeartbeats 4000000
set_option linter.unusedVariables false
set_option linter.unusedSimpArgs false
set_option maxRecDepth 20000
namespace Go.Proofs.YtlginjmkmfodmaaDoor.S
open Go Go.Sm
attribute [local irreducible] T TL OpR CallT iter loop
noncomputable def ref22_Print.l1 (a0 : List Int) (s2 : (List UInt8) × Int) : Option (Lp ((List UInt8) × Int) (List UInt8)) :=
  if s2.2 < (a0.length : Int) then
    bnd (idx a0 s2.2) fun x11 =>
    bnd (ref22_Text x11) fun x12 =>
    bnd (catS s2.1 x12) fun x13 =>
    some (Lp.next (x13, w64 (s2.2 + 1)))
  else
    some (Lp.done s2.1)
noncomputable def ref22_Print (a0 : List Int) : Option (List UInt8) :=
  bnd (loop (ref22_Print.l1 a0) ([], 0) : Option (List UInt8)) fun t1 =>
  some t1
theorem ref22_Print_c {a0 : List Int} {res : (List UInt8)} (h0 : ref22_Print a0 = some res) : CallF X 14 [.sl 1 (List.map (eI .i64) a0)] [] (fun x => .val (.string (bs res))) (fun x => []) := by
 unfold ref22_Print at h0
 refine CallF.mkG (X := X) rfl Tryd.func14 rfl rfl Tryd.ntmps14 rfl rfl ?_
 refine aS ?_
 refine aA rfl rfl ?_
 refine aN rfl ?_
 refine aS ?_
 refine aA rfl rfl ?_
 refine aN rfl ?_
 refine T.seq ?_
 refine aS ?_
 refine aA rfl rfl ?_
 refine TL.op1 (OpR.cast (OpR.pure rfl) (intE (lenM _ _))) rfl ?_
 refine aA rfl rfl ?_
 refine aN rfl ?_
 obtain ⟨t1, ht1, h0⟩ := bS h0
 refine T.cutC (fun S' => S' = ⟨[(3, .val (.string (bs t1))), (2, .val (.string (bs [])))], [], 18⟩) (fun _ h => h) ?_ ?_
 rotate_left
 · rintro _ rfl
   show T X _ _ _
   refine aS ?_
   iterate 2 refine aA rfl rfl ?_
   refine aN rfl ?_
   refine T.ret ?_
   obtain rfl := Option.some.inj h0
   exact rO [] [2] rfl undef (cT rfl ResL.nil) rfl rfl rfl rfl
 refine T.block ?_
 obtain ⟨n3, n8⟩ := loop_some ht1
 refine T.loop (fun n S' => ∃ S'', Gst S' S'' ∧ ∃ s2 : (List UInt8) × Int, S'' = ⟨[(8, (dN s2.2)), (7, (dN (a0.length : Int))), (6, .sl 1 (List.map (eI .i64) a0)), (3, .val (.string (bs s2.1))), (2, .val (.string (bs [])))], [], 18⟩ ∧ iter (ref22_Print.l1 a0) n s2 = some t1) n3 ?_ ?_
 · exact ⟨_, Gst.only [2, 3, 6, 7, 8] rfl, ([], 0), rfl, n8⟩
 rintro n3 _ ⟨_, g, s2, rfl, i7⟩
 refine T.ghost g ?_
 obtain ⟨m4, q5, rfl, q6, i7⟩ := iter_succ i7
 unfold ref22_Print.l1 at q6
 refine aS ?_
 refine aA rfl rfl ?_
 refine aN rfl ?_
 refine T.seq ?_
 rcases ite_some q6 with ⟨c10, q6⟩ | ⟨c10, q6⟩
 rotate_left
 · refine T.condF rfl (decide_eq_false c10) ?_
   refine T.exit ?_
   obtain rfl := Option.some.inj q6
   obtain rfl : _ = _ := i7
   exact ⟨_, Gst.only [2, 3] rfl, rfl⟩
 refine T.condT rfl (decide_eq_true c10) ?_
 refine aK rfl ?_
 refine T.seq ?_
 refine T.block ?_
 refine aS ?_
 obtain ⟨x11, hx11, q6⟩ := bS q6
 refine TL.op1 (OpR.indexM (eI .i64) hx11 rfl rfl rfl rfl rfl) rfl ?_
 iterate 2 refine aA rfl rfl ?_
 refine aN rfl ?_
 refine T.region ?_
 iterate 2 refine aA rfl rfl ?_
 obtain ⟨x12, hx12, q6⟩ := bS q6
 refine TL.op1 (OpR.call0 fn19 (ref22_Text_c hx12) rfl) rfl ?_
 obtain ⟨x13, hx13, q6⟩ := bS q6
 refine TL.op1 (OpR.concatM hx13 rfl rfl) rfl ?_
 refine aA rfl rfl ?_
 refine aN rfl ?_
 refine T.region ?_
 iterate 2 refine aA rfl rfl ?_
 refine TL.nil ?_
 obtain rfl := Option.some.inj q6
 exact ⟨m4, Nat.lt_succ_self _, _, Gst.only [2, 3, 6, 7, 8] rfl, (x13, w64 (s2.2 + 1)), rfl, i7⟩
theorem ref09_Same_c_2 {a0 : List Int} {a1 : List Int} {v0 : Value} {res : Bool} (h0 : ref09_Same a0 a1 = some res) : CallF X 10 [.sl 1 (List.map (eI .i64) a0), .val v0] [.row v0 (List.map (eI .i64) a1) 1 3] (fun x => (dT res)) (fun x => [.row v0 (List.map (eI .i64) a1) 1 3]) := by
 unfold ref09_Same at h0
 refine CallF.mkG (X := X) rfl Tryd.func10 rfl rfl Tryd.ntmps10 rfl rfl ?_
 refine aS ?_
 refine aA rfl rfl ?_
 refine aN rfl ?_
 refine T.seq ?_
 refine aS ?_
 refine aA rfl rfl ?_
 refine TL.op1 (OpR.cast (OpR.pure rfl) (intE (lenM _ _))) rfl ?_
 refine aA rfl rfl ?_
 refine TL.op1 (OpR.rowLenM (eI .i64) 0 rfl rfl rfl rfl) rfl ?_
 refine aA rfl rfl ?_
 refine aN rfl ?_
 rcases ite_some h0 with ⟨c1, h0⟩ | ⟨c1, h0⟩
 rotate_left
 · refine T.condT rfl (not_f (beq_eq_false_iff_ne.2 c1)) ?_
   refine aS ?_
   refine aA rfl rfl ?_
   refine aN rfl ?_
   refine T.ret ?_
   obtain rfl := Option.some.inj h0
   exact rO [0] [4] rfl undef (cT rfl ResL.nil) rfl rfl rfl rfl
 refine T.condF rfl (not_t (beq_iff_eq.2 c1)) ?_
 refine aK rfl ?_
 refine T.seq ?_
 refine aS ?_
 refine aA rfl rfl ?_
 refine TL.op1 (OpR.cast (OpR.pure rfl) (intE (lenM _ _))) rfl ?_
 refine aA rfl rfl ?_
 refine aN rfl ?_
 obtain ⟨t2, ht2, h0⟩ := bS h0
 refine T.cutC (fun S' => ∃ u3, t2 = Ex.brk u3 ∧ S' = ⟨[(4, (dT false))], [.row v0 (List.map (eI .i64) a1) 1 3], 26⟩) (fun _ h => h) ?_ ?_
 rotate_left
 · rintro _ ⟨u3, rfl, rfl⟩
   show T X _ _ _
   refine aS ?_
   refine aA rfl rfl ?_
   refine aN rfl ?_
   refine T.ret ?_
   obtain rfl := Option.some.inj h0
   exact rO [0] [4] rfl undef (cT rfl ResL.nil) rfl rfl rfl rfl
 refine T.block ?_
 obtain ⟨n5, n10⟩ := loop_some ht2
 refine T.loop (fun n S' => ∃ S'', Gst S' S'' ∧ ∃ s4 : Int, S'' = ⟨[(13, (dN s4)), (12, (dN (a0.length : Int))), (4, (dT false)), (1, .val v0), (0, .sl 1 (List.map (eI .i64) a0))], [.row v0 (List.map (eI .i64) a1) 1 3], 26⟩ ∧ iter (ref09_Same.l1 a0 a1) n s4 = some t2) n5 ?_ ?_
 · exact ⟨_, Gst.only [0, 1, 4, 12, 13] rfl, 0, rfl, n10⟩
 rintro n5 _ ⟨_, g, s4, rfl, i9⟩
 refine T.ghost g ?_
 obtain ⟨m6, q7, rfl, q8, i9⟩ := iter_succ i9
 unfold ref09_Same.l1 at q8
 refine aS ?_
 refine aA rfl rfl ?_
 refine aN rfl ?_
 refine T.seq ?_
 rcases ite_some q8 with ⟨c12, q8⟩ | ⟨c12, q8⟩
 rotate_left
 · refine T.condF rfl (decide_eq_false c12) ?_
   refine T.exit ?_
   obtain rfl := Option.some.inj q8
   obtain rfl : _ = _ := i9
   exact ⟨_, Gst.only [4] rfl, _, rfl, rfl⟩
 refine T.condT rfl (decide_eq_true c12) ?_
 refine aK rfl ?_
 refine T.seq ?_
 refine T.block ?_
 refine aS ?_
 iterate 2 refine aA rfl rfl ?_
 refine aN rfl ?_
 refine T.seq ?_
 obtain ⟨x14, hx14, q8⟩ := bS q8
 obtain ⟨x15, hx15, q8⟩ := bS q8
 refine T.drawQ drawsX [.sl 1 (List.map (eI .i64) a0), dN s4, .nod [dN x14], dN x14, .val v0, dN s4, .val (.pointer (some ⟨blk v0, s4.toNat * 1, none⟩)), dN x15, dT (!(x14 == x15))] [0, 1, 4, 12, 13, 24] (by decide +kernel) rfl ?_ rfl ?_
 · iterate 2 refine aB rfl rfl rfl ?_
   refine OpsQ.yes (Want.plain rfl) rfl (OpR.indexM (eI .i64) hx14 rfl rfl rfl rfl rfl) ?_
   iterate 3 refine aB rfl rfl rfl ?_
   refine OpsQ.yes (Want.plain rfl) rfl (OpR.rowIndexM (eI .i64) 0 hx15 rfl rfl rfl rfl rfl rfl rfl) ?_
   refine OpsQ.yes (Want.plain rfl) rfl (OpR.rowLoad0M (j := s4) (eI .i64) 0 hx15 rfl rfl rfl rfl) ?_
   refine aB rfl rfl rfl ?_
   exact OpsQ.nil
 show T X _ _ _
 rcases ite_some q8 with ⟨c16, q8⟩ | ⟨c16, q8⟩
 · refine T.condF rfl (not_t (beq_iff_eq.2 c16)) ?_
   refine aK rfl ?_
   refine T.region ?_
   iterate 2 refine aA rfl rfl ?_
   refine TL.nil ?_
   obtain rfl := Option.some.inj q8
   exact ⟨m6, Nat.lt_succ_self _, _, Gst.only [0, 1, 4, 12, 13] rfl, w64 (s4 + 1), rfl, i9⟩
 refine T.condT rfl (not_f (beq_eq_false_iff_ne.2 c16)) ?_
 refine aS ?_
 refine aA rfl rfl ?_
 refine aN rfl ?_
 refine T.ret ?_
 obtain rfl := Option.some.inj q8
 obtain rfl : _ = _ := i9
 obtain rfl := Option.some.inj h0
 exact rO [0] [4] rfl undef (cT rfl ResL.nil) rfl rfl rfl rfl
noncomputable def law22_KeysBack.l1 (t1 : (List Int)) (s7 : Int × (List Int)) : Option (Lp (Int × (List Int)) (List Int)) :=
  if s7.1 < (t1.length : Int) then
    bnd (idx t1 s7.1) fun x16 =>
    bnd (ref22_Is x16) fun x17 =>
    bnd (if x17 = true then
      bnd (app 8 s7.2 [x16]) fun x21 =>
      some x21
    else
      some s7.2 : Option (List Int)) fun t18 =>
    some (Lp.next (w64 (s7.1 + 1), t18))
  else
    some (Lp.done s7.2)
noncomputable def law22_KeysBack (a0 : List Int) : Option Bool :=
  bnd (if (a0.length : Int) > 200 then
    bnd (cut a0 0 200) fun x3 =>
    some x3
  else
    some a0 : Option (List Int)) fun t1 =>
  bnd (loop (law22_KeysBack.l1 t1) (0, []) : Option (List Int)) fun t4 =>
  bnd (keys_Print t1) fun x23 =>
  bnd (keys_Parse x23) fun x24 =>
  bnd (bnd (ref22_Print t1) fun x26 =>
  if x23 = x26 then
    if x24.2 = 0 then
      bnd (ref09_Same x24.1 t4) fun x29 =>
      if x29 = true then
        bnd (law22_awake) fun x31 =>
        some x31
      else
        some false
    else
      some false
  else
    some false : Option Bool) fun t25 =>
  some t25
theorem law22_KeysBack_c {a0 : List Int} {res : Bool} (h0 : law22_KeysBack a0 = some res) : CallF X 4 [.sl 1 (List.map (eI .i64) a0)] [] (fun x => (dT res)) (fun x => []) := by
 unfold law22_KeysBack at h0
 refine CallF.mkG (X := X) rfl Tryd.func4 rfl rfl Tryd.ntmps4 rfl rfl ?_
 refine aS ?_
 refine aA rfl rfl ?_
 refine aN rfl ?_
 refine T.seq ?_
 refine aS ?_
 refine aA rfl rfl ?_
 refine TL.op1 (OpR.cast (OpR.pure rfl) (intE (lenM _ _))) rfl ?_
 refine aA rfl rfl ?_
 refine aN rfl ?_
 obtain ⟨t1, ht1, h0⟩ := bS h0
 refine T.cutC (fun S' => S' = ⟨[(2, (dT false)), (0, .sl 1 (List.map (eI .i64) t1))], [], 50⟩) (fun _ h => h) ?_ ?_
 · rcases ite_some ht1 with ⟨c2, ht1⟩ | ⟨c2, ht1⟩
   rotate_left
   · refine T.condF rfl (decide_eq_false c2) ?_
     refine T.skip ?_
     obtain rfl := Option.some.inj ht1
     exact ⟨_, Gst.only [0, 2] rfl, rfl⟩
   refine T.condT rfl (decide_eq_true c2) ?_
   refine T.region ?_
   refine aA rfl rfl ?_
   obtain ⟨x3, hx3, ht1⟩ := bS ht1
   refine TL.op1 (OpR.sliceM (sz := 1) (eI .i64) hx3 rfl rfl rfl rfl BdM.none (BdM.some rfl) rfl) rfl ?_
   refine aA rfl rfl ?_
   refine TL.nil ?_
   obtain rfl := Option.some.inj ht1
   exact ⟨_, Gst.only [0, 2] rfl, rfl⟩
 rintro _ rfl
 show T X _ _ _
 refine aS ?_
 refine aA rfl rfl ?_
 refine aN rfl ?_
 refine T.seq ?_
 refine aS ?_
 refine aA rfl rfl ?_
 refine TL.op1 (OpR.cast (OpR.pure rfl) (intE (lenM _ _))) rfl ?_
 refine aA rfl rfl ?_
 refine aN rfl ?_
 obtain ⟨t4, ht4, h0⟩ := bS h0
 refine T.cutC (fun S' => ∃ y5 : Value, S' = ⟨[(3, .val y5), (2, (dT false)), (0, .sl 1 (List.map (eI .i64) t1))], [.row y5 (List.map (eI .i64) t4) 1 3], 50⟩) (fun _ h => h) ?_ ?_
 · refine T.block ?_
   obtain ⟨n8, n13⟩ := loop_some ht4
   refine T.loop (fun n S' => ∃ S'', Gst S' S'' ∧ ∃ y6 : Value, ∃ s7 : Int × (List Int), S'' = ⟨[(16, (dN s7.1)), (15, (dN (t1.length : Int))), (14, .sl 1 (List.map (eI .i64) t1)), (3, .val y6), (2, (dT false)), (0, .sl 1 (List.map (eI .i64) t1))], [.row y6 (List.map (eI .i64) s7.2) 1 3], 50⟩ ∧ iter (law22_KeysBack.l1 t1) n s7 = some t4) n8 ?_ ?_
   · exact ⟨_, Gst.trans (Gst.only [0, 2, 3, 14, 15, 16] rfl) (Gst.nilRow (ow := []) 1 3 rfl), (.slice none 0 0), (0, []), rfl, n13⟩
   rintro n8 _ ⟨_, g, y6, s7, rfl, i12⟩
   refine T.ghost g ?_
   obtain ⟨m9, q10, rfl, q11, i12⟩ := iter_succ i12
   unfold law22_KeysBack.l1 at q11
   refine aS ?_
   refine aA rfl rfl ?_
   refine aN rfl ?_
   refine T.seq ?_
   rcases ite_some q11 with ⟨c15, q11⟩ | ⟨c15, q11⟩
   rotate_left
   · refine T.condF rfl (decide_eq_false c15) ?_
     refine T.exit ?_
     obtain rfl := Option.some.inj q11
     obtain rfl : _ = _ := i12
     exact ⟨_, Gst.only [0, 2, 3] rfl, y6, rfl⟩
   refine T.condT rfl (decide_eq_true c15) ?_
   refine aK rfl ?_
   refine T.seq ?_
   refine T.block ?_
   refine aS ?_
   obtain ⟨x16, hx16, q11⟩ := bS q11
   refine TL.op1 (OpR.indexM (eI .i64) hx16 rfl rfl rfl rfl rfl) rfl ?_
   iterate 2 refine aA rfl rfl ?_
   refine aN rfl ?_
   refine aS ?_
   refine aA rfl rfl ?_
   obtain ⟨x17, hx17, q11⟩ := bS q11
   refine TL.op1 (OpR.call0 fn13 (ref22_Is_c hx17) rfl) rfl ?_
   refine aN rfl ?_
   obtain ⟨t18, ht18, q11⟩ := bS q11
   refine T.cutC (fun S' => ∃ y19 : Value, S' = ⟨[(16, (dN s7.1)), (15, (dN (t1.length : Int))), (14, .sl 1 (List.map (eI .i64) t1)), (3, .val y19), (2, (dT false)), (0, .sl 1 (List.map (eI .i64) t1))], [.row y19 (List.map (eI .i64) t18) 1 3], 50⟩) (fun _ h => h) ?_ ?_
   rotate_left
   · rintro _ ⟨y19, rfl⟩
     show T X _ _ _
     refine T.region ?_
     iterate 2 refine aA rfl rfl ?_
     refine TL.nil ?_
     obtain rfl := Option.some.inj q11
     exact ⟨m9, Nat.lt_succ_self _, _, Gst.only [0, 2, 3, 14, 15, 16] rfl, y19, (w64 (s7.1 + 1), t18), rfl, i12⟩
   rcases ite_some ht18 with ⟨c20, ht18⟩ | ⟨c20, ht18⟩
   rotate_left
   · refine T.condF rfl (eq_false_of_ne_true c20) ?_
     refine T.skip ?_
     obtain rfl := Option.some.inj ht18
     exact ⟨_, Gst.only [0, 2, 3, 14, 15, 16] rfl, y6, rfl⟩
   refine T.condT rfl (c20) ?_
   refine T.region ?_
   iterate 2 refine aA rfl rfl ?_
   refine TL.op1 (OpR.lit rfl rfl rfl rfl rfl rfl rfl) rfl ?_
   obtain ⟨x21, hx21, ht18⟩ := bS ht18
   refine TL.op (OpR.appendM (m := [x16]) (eI .i64) 0 hx21 rfl rfl rfl rfl rfl rfl rfl rfl rfl (fun _ => rfl)) rfl (fun v22 => ?_)
   refine aA rfl rfl ?_
   refine TL.nil ?_
   obtain rfl := Option.some.inj ht18
   exact ⟨_, Gst.only [0, 2, 3, 14, 15, 16] rfl, v22, rfl⟩
 rintro _ ⟨y5, rfl⟩
 show T X _ _ _
 refine aS ?_
 refine aA rfl rfl ?_
 obtain ⟨x23, hx23, h0⟩ := bS h0
 refine TL.op1 (OpR.call0 fn11 (keys_Print_c hx23) rfl) rfl ?_
 refine aA rfl rfl ?_
 refine aN rfl ?_
 refine aS ?_
 refine aA rfl rfl ?_
 obtain ⟨x24, hx24, h0⟩ := bS h0
 refine TL.op1 (OpR.call0 fn8 (keys_Parse_c hx24) rfl) rfl ?_
 iterate 5 refine aA rfl rfl ?_
 refine aN rfl ?_
 refine T.seq ?_
 obtain ⟨t25, ht25, h0⟩ := bS h0
 refine T.cutC (fun S' => S' = ⟨[(2, (dT t25))], [], 50⟩) (fun _ h => h) ?_ ?_
 rotate_left
 · rintro _ rfl
   show T X _ _ _
   refine T.ret ?_
   obtain rfl := Option.some.inj h0
   exact rO [] [2] rfl undef (cT rfl ResL.nil) rfl rfl rfl rfl
 refine T.region ?_
 iterate 2 refine aA rfl rfl ?_
 obtain ⟨x26, hx26, ht25⟩ := bS ht25
 refine TL.op1 (OpR.call0 fn14 (ref22_Print_c hx26) rfl) rfl ?_
 refine TL.op1 (OpR.cast (OpR.pure rfl) (boolE (strEq _ _))) rfl ?_
 refine aA rfl rfl ?_
 rcases ite_some ht25 with ⟨c27, ht25⟩ | ⟨c27, ht25⟩
 rotate_left
 · refine TL.off rfl rfl rfl rfl (beq_eq_false_iff_ne.2 c27) rfl rfl ?_
   refine TL.off rfl rfl rfl rfl (beq_eq_false_iff_ne.2 c27) rfl rfl ?_
   refine TL.op1 (OpR.pickF rfl (beq_eq_false_iff_ne.2 c27) rfl) rfl ?_
   refine aA rfl rfl ?_
   refine TL.off rfl rfl rfl rfl rfl rfl rfl ?_
   refine TL.off rfl rfl rfl rfl rfl rfl rfl ?_
   refine TL.off rfl rfl rfl rfl rfl rfl rfl ?_
   refine TL.op1 (OpR.pickF rfl rfl rfl) rfl ?_
   refine aA rfl rfl ?_
   refine TL.off rfl rfl rfl rfl rfl rfl rfl ?_
   refine TL.op1 (OpR.pickF rfl rfl rfl) rfl ?_
   refine aA rfl rfl ?_
   refine TL.nil ?_
   obtain rfl := Option.some.inj ht25
   exact ⟨_, gP [2] [] rfl rfl rfl, rfl⟩
 refine TL.on rfl rfl rfl rfl (beq_iff_eq.2 c27) ?_
 refine aA rfl rfl ?_
 refine TL.on rfl rfl rfl rfl (beq_iff_eq.2 c27) ?_
 refine aA rfl rfl ?_
 refine TL.op1 (OpR.pickT rfl (beq_iff_eq.2 c27) rfl) rfl ?_
 refine aA rfl rfl ?_
 rcases ite_some ht25 with ⟨c28, ht25⟩ | ⟨c28, ht25⟩
 rotate_left
 · refine TL.off rfl rfl rfl rfl (beq_eq_false_iff_ne.2 c28) rfl rfl ?_
   refine TL.off rfl rfl rfl rfl (beq_eq_false_iff_ne.2 c28) rfl rfl ?_
   refine TL.off rfl rfl rfl rfl (beq_eq_false_iff_ne.2 c28) rfl rfl ?_
   refine TL.op1 (OpR.pickF rfl (beq_eq_false_iff_ne.2 c28) rfl) rfl ?_
   refine aA rfl rfl ?_
   refine TL.off rfl rfl rfl rfl rfl rfl rfl ?_
   refine TL.op1 (OpR.pickF rfl rfl rfl) rfl ?_
   refine aA rfl rfl ?_
   refine TL.nil ?_
   obtain rfl := Option.some.inj ht25
   exact ⟨_, gP [2] [] rfl rfl rfl, rfl⟩
 refine TL.on rfl rfl rfl rfl (beq_iff_eq.2 c28) ?_
 refine aA rfl rfl ?_
 refine TL.on rfl rfl rfl rfl (beq_iff_eq.2 c28) ?_
 refine aA rfl rfl ?_
 refine TL.on rfl rfl rfl rfl (beq_iff_eq.2 c28) ?_
 obtain ⟨x29, hx29, ht25⟩ := bS ht25
 refine TL.op1 (OpR.call [0] fn10 (ref09_Same_c_2 hx29) rfl rfl rfl (fun _ => rfl)) rfl ?_
 refine TL.op1 (OpR.pickT rfl (beq_iff_eq.2 c28) rfl) rfl ?_
 refine aA rfl rfl ?_
 rcases ite_some ht25 with ⟨c30, ht25⟩ | ⟨c30, ht25⟩
 rotate_left
 · refine TL.off rfl rfl rfl rfl (eq_false_of_ne_true c30) rfl rfl ?_
   refine TL.op1 (OpR.pickF rfl (eq_false_of_ne_true c30) rfl) rfl ?_
   refine aA rfl rfl ?_
   refine TL.nil ?_
   obtain rfl := Option.some.inj ht25
   exact ⟨_, gP [2] [] rfl rfl rfl, rfl⟩
 refine TL.on rfl rfl rfl rfl (c30) ?_
 obtain ⟨x31, hx31, ht25⟩ := bS ht25
 refine TL.op1 (OpR.call0 fn12 (law22_awake_c hx31) rfl) rfl ?_
 refine TL.op1 (OpR.pickT rfl (c30) rfl) rfl ?_
 refine aA rfl rfl ?_
 refine TL.nil ?_
 obtain rfl := Option.some.inj ht25
 exact ⟨_, gP [2] [] rfl rfl rfl, rfl⟩
end Go.Proofs.YtlginjmkmfodmaaDoor.S
