/- Printed by a program of this session's own (gen.py): Lean functions for Go functions, and the proofs that the Go code comes to their answers. -/
import Derived.Test.YtpmhiiemklhbhaaGreatG2xb
import Derived.Test.YtpmhiiemklhbhaaGreatG2xa
set_option maxHeartbeats 4000000
set_option linter.unusedVariables false
set_option linter.unusedSimpArgs false
set_option maxRecDepth 20000
namespace Go.Proofs.YtpmhiiemklhbhaaGreat.S
open Go Go.Sm
attribute [local irreducible] T TL OpR CallT iter loop
noncomputable def ref08_Insert.l1 (a0 : ref08_Row) (a1 : Int) (a2 : ref07_Cell) (s10 : Int × (List ref07_Cell)) : Option (Lp (Int × (List ref07_Cell)) (List ref07_Cell)) :=
  if s10.1 ≤ (a0.fCells.length : Int) then
    bnd (if s10.1 = a1 then
      bnd (app 40 s10.2 [a2]) fun x22 =>
      some x22
    else
      some s10.2 : Option (List ref07_Cell)) fun t19 =>
    bnd (if s10.1 < (a0.fCells.length : Int) then
      bnd (idx a0.fCells s10.1) fun x28 =>
      bnd (app 40 t19 [x28]) fun x29 =>
      some x29
    else
      some t19 : Option (List ref07_Cell)) fun t24 =>
    some (Lp.next (w64 (s10.1 + 1), t24))
  else
    some (Lp.done s10.2)
noncomputable def ref08_Insert (a0 : ref08_Row) (a1 : Int) (a2 : ref07_Cell) : Option (ref08_Row × Int) :=
  bnd (if a1 < 0 then
    some true
  else
    some (decide (a1 > (a0.fCells.length : Int))) : Option Bool) fun t2 =>
  if t2 = true then
    some ((⟨[], 0, false⟩ : ref08_Row), 5)
  else
    if (a0.fCells.length : Int) > 39 then
      some ((⟨[], 0, false⟩ : ref08_Row), 6)
    else
      bnd (loop (ref08_Insert.l1 a0 a1 a2) (0, []) : Option (List ref07_Cell)) fun t7 =>
      some ((⟨t7, a0.fEnd, a0.fHidden⟩ : ref08_Row), 0)
theorem ref08_Insert_c {a0 : ref08_Row} {a1 : Int} {a2 : ref07_Cell} {res : ref08_Row × Int} (h0 : ref08_Insert a0 a1 a2 = some res) : CallF X 139 [.agg [.sl 3 (List.map e_ref07_Cell a0.fCells), dN a0.fEnd, dT a0.fHidden], dN a1, .agg [.val (.string (bs a2.fS)), .val (.string (bs a2.fRaw)), dT a2.fKept]] [] (fun x => .tup [.agg [.sl 3 (List.map e_ref07_Cell res.1.fCells), dN res.1.fEnd, dT res.1.fHidden], dN res.2]) (fun x => []) := by
 unfold ref08_Insert at h0
 refine CallF.mkG (X := X) rfl Tryz.func139 rfl rfl Tryz.ntmps139 rfl rfl ?_
 refine aS ?_
 refine TL.op1 (OpR.boxImm rfl rfl) rfl ?_
 refine TL.op1 (OpR.boxImm rfl rfl) rfl ?_
 refine TL.op (OpR.alloc rfl rfl (fun _ => rfl)) rfl (fun p1 => ?_)
 refine aA rfl rfl ?_
 refine aN rfl ?_
 refine T.seq ?_
 refine T.seq ?_
 obtain ⟨t2, ht2, h0⟩ := bS h0
 refine T.cutC (fun S' => S' = ⟨[(18, (dT t2)), (7, (dN 0)), (6, (dP (blk p1))), (5, .nod [.val (.string (bs a2.fS)), .val (.string (bs a2.fRaw)), dT a2.fKept]), (3, .nod [.sl 3 (List.map e_ref07_Cell a0.fCells), dN a0.fEnd, dT a0.fHidden]), (1, (dN a1))], [.var (blk p1) [.val (.slice none 0 0), dN 0, dT false] 60], 62⟩) (fun _ h => h) ?_ ?_
 · refine T.region ?_
   iterate 3 refine aA rfl rfl ?_
   rcases ite_some ht2 with ⟨c3, ht2⟩ | ⟨c3, ht2⟩
   · refine TL.off rfl rfl rfl rfl (eT c3) rfl rfl ?_
     refine TL.off rfl rfl rfl rfl (eT c3) rfl rfl ?_
     refine TL.off rfl rfl rfl rfl (eT c3) rfl rfl ?_
     refine TL.off rfl rfl rfl rfl (eT c3) rfl rfl ?_
     refine TL.off rfl rfl rfl rfl (eT c3) rfl rfl ?_
     refine TL.op1 (OpR.pickT rfl (eT c3) rfl) rfl ?_
     refine TL.nil ?_
     obtain rfl := osi ht2
     exact ⟨_, Gst.only [1, 3, 5, 6, 7, 18] rfl, rfl⟩
   refine TL.on rfl rfl rfl rfl (eF c3) ?_
   refine aA rfl rfl ?_
   refine TL.on rfl rfl rfl rfl (eF c3) ?_
   refine aA rfl rfl ?_
   refine TL.on rfl rfl rfl rfl (eF c3) ?_
   refine aA rfl rfl ?_
   refine TL.on rfl rfl rfl rfl (eF c3) ?_
   refine TL.op1 (OpR.cast (OpR.pure rfl) (intE (lenM _ _))) rfl ?_
   refine TL.on rfl rfl rfl rfl (eF c3) ?_
   refine aA rfl rfl ?_
   refine TL.op1 (OpR.pickF rfl (eF c3) rfl) rfl ?_
   refine TL.nil ?_
   obtain rfl := osi ht2
   exact ⟨_, Gst.only [1, 3, 5, 6, 7, 18] rfl, rfl⟩
 rintro _ rfl
 show T X _ _ _
 rcases ite_some h0 with ⟨c4, h0⟩ | ⟨c4, h0⟩
 · refine T.condT rfl (c4) ?_
   refine aS ?_
   refine TL.op1 (OpR.build rfl rfl rfl rfl rfl) rfl ?_
   refine TL.op0 (OpR.store 0 rfl rfl rfl rfl rfl rfl rfl rfl) ?_
   refine aA rfl rfl ?_
   refine aN rfl ?_
   refine T.ret ?_
   obtain rfl := osi h0
   exact PostG.retP (ks := []) (Gst.trans (Gst.only [6, 7] rfl) (Gst.denil (ReS.cons Re.refl (ReS.cons Re.refl ReS.nil)) (ReO.var (ReL.cons (Re.base .nil) (ReL.cons Re.refl (ReL.cons Re.refl ReL.nil))) ReO.nil))) undef (cV 0 rfl rfl rfl rfl (cT rfl ResL.nil)) rfl rfl rfl rfl
 refine T.condF rfl (eq_false_of_ne_true c4) ?_
 refine aK rfl ?_
 refine T.seq ?_
 refine aS ?_
 iterate 2 refine aA rfl rfl ?_
 refine TL.op1 (OpR.cast (OpR.pure rfl) (intE (lenM _ _))) rfl ?_
 refine aA rfl rfl ?_
 refine aN rfl ?_
 rcases ite_some h0 with ⟨c5, h0⟩ | ⟨c5, h0⟩
 · refine T.condT rfl (eT c5) ?_
   refine aS ?_
   refine TL.op1 (OpR.build rfl rfl rfl rfl rfl) rfl ?_
   refine TL.op0 (OpR.store 0 rfl rfl rfl rfl rfl rfl rfl rfl) ?_
   refine aA rfl rfl ?_
   refine aN rfl ?_
   refine T.ret ?_
   obtain rfl := osi h0
   exact PostG.retP (ks := []) (Gst.trans (Gst.only [6, 7] rfl) (Gst.denil (ReS.cons Re.refl (ReS.cons Re.refl ReS.nil)) (ReO.var (ReL.cons (Re.base .nil) (ReL.cons Re.refl (ReL.cons Re.refl ReL.nil))) ReO.nil))) undef (cV 0 rfl rfl rfl rfl (cT rfl ResL.nil)) rfl rfl rfl rfl
 refine T.condF rfl (eF c5) ?_
 refine aK rfl ?_
 refine aS ?_
 iterate 4 refine aA rfl rfl ?_
 refine TL.op1 (OpR.build rfl rfl rfl rfl rfl) rfl ?_
 refine TL.op (OpR.alloc rfl rfl (fun _ => rfl)) rfl (fun p6 => ?_)
 refine TL.op0 (OpR.store 1 rfl rfl rfl rfl rfl rfl rfl rfl) ?_
 refine aN rfl ?_
 refine T.seq ?_
 refine aS ?_
 refine aA rfl rfl ?_
 refine aN rfl ?_
 obtain ⟨t7, ht7, h0⟩ := bS h0
 refine T.cutC (fun S' => ∃ y8 : Value, S' = ⟨[(8, (dP (blk p6))), (7, (dN 0)), (6, (dP (blk p1)))], [.var (blk p1) [.val (.slice none 0 0), dN 0, dT false] 60, .var (blk p6) [.val y8, dN a0.fEnd, dT a0.fHidden] 60, .row y8 (List.map e_ref07_Cell t7) 3 151], 62⟩) (fun _ h => h) ?_ ?_
 rotate_left
 · rintro _ ⟨y8, rfl⟩
   show T X _ _ _
   refine aS ?_
   refine TL.op1 (OpR.loadPtr 1 rfl rfl rfl rfl) rfl ?_
   refine TL.op0 (OpR.store 0 rfl rfl rfl rfl rfl rfl rfl rfl) ?_
   refine aA rfl rfl ?_
   refine aN rfl ?_
   refine T.ret ?_
   obtain rfl := osi h0
   exact PostG.retP (ks := []) (Gst.trans (Gst.only [6, 7] rfl) (Gst.trans (Gst.freezeRow 2 rfl rfl (ReS.cons Re.refl (ReS.cons Re.refl ReS.nil)) (ReO.var (ReL.cons (Re.base .all) (ReL.cons Re.refl (ReL.cons Re.refl ReL.nil))) (ReO.var (ReL.cons (Re.base .all) (ReL.cons Re.refl (ReL.cons Re.refl ReL.nil))) (ReO.same ReO.nil)))) (Gst.pick [0] rfl rfl))) undef (cV 0 rfl rfl rfl rfl (cT rfl ResL.nil)) rfl rfl rfl rfl
 refine T.block ?_
 obtain ⟨n11, n16⟩ := loop_some ht7
 refine T.loop (fun n S' => ∃ S'', Gst S' S'' ∧ ∃ y9 : Value, ∃ s10 : Int × (List ref07_Cell), S'' = ⟨[(9, (dN s10.1)), (8, (dP (blk p6))), (7, (dN 0)), (6, (dP (blk p1))), (5, .nod [.val (.string (bs a2.fS)), .val (.string (bs a2.fRaw)), dT a2.fKept]), (3, .nod [.sl 3 (List.map e_ref07_Cell a0.fCells), dN a0.fEnd, dT a0.fHidden]), (1, (dN a1))], [.var (blk p1) [.val (.slice none 0 0), dN 0, dT false] 60, .var (blk p6) [.val y9, dN a0.fEnd, dT a0.fHidden] 60, .row y9 (List.map e_ref07_Cell s10.2) 3 151], 62⟩ ∧ iter (ref08_Insert.l1 a0 a1 a2) n s10 = some t7) n11 ?_ ?_
 · exact ⟨_, Gst.trans (Gst.only [1, 3, 5, 6, 7, 8, 9] rfl) (Gst.nilRow (ow := [.var (blk p1) [.val (.slice none 0 0), dN 0, dT false] 60, .var (blk p6) [.val (.slice none 0 0), dN a0.fEnd, dT a0.fHidden] 60]) 3 151 rfl), (.slice none 0 0), (0, []), rfl, n16⟩
 rintro n11 _ ⟨_, g, y9, s10, rfl, i15⟩
 refine T.ghost g ?_
 obtain ⟨m12, q13, rfl, q14, i15⟩ := iter_succ i15
 unfold ref08_Insert.l1 at q14
 refine T.seq ?_
 refine aS ?_
 iterate 3 refine aA rfl rfl ?_
 refine TL.op1 (OpR.cast (OpR.pure rfl) (intE (lenM _ _))) rfl ?_
 refine aA rfl rfl ?_
 refine aN rfl ?_
 rcases ite_some q14 with ⟨c18, q14⟩ | ⟨c18, q14⟩
 rotate_left
 · refine T.condF rfl (eF c18) ?_
   refine T.exit ?_
   obtain rfl := osi q14
   obtain rfl : _ = _ := i15
   exact ⟨_, Gst.only [6, 7, 8] rfl, y9, rfl⟩
 refine T.condT rfl (eT c18) ?_
 refine aK rfl ?_
 refine T.seq ?_
 refine T.block ?_
 refine T.seq ?_
 refine aS ?_
 iterate 3 refine aA rfl rfl ?_
 refine aN rfl ?_
 obtain ⟨t19, ht19, q14⟩ := bS q14
 refine T.cutC (fun S' => ∃ y20 : Value, S' = ⟨[(9, (dN s10.1)), (8, (dP (blk p6))), (7, (dN 0)), (6, (dP (blk p1))), (5, .nod [.val (.string (bs a2.fS)), .val (.string (bs a2.fRaw)), dT a2.fKept]), (3, .nod [.sl 3 (List.map e_ref07_Cell a0.fCells), dN a0.fEnd, dT a0.fHidden]), (1, (dN a1))], [.var (blk p1) [.val (.slice none 0 0), dN 0, dT false] 60, .var (blk p6) [.val y20, dN a0.fEnd, dT a0.fHidden] 60, .row y20 (List.map e_ref07_Cell t19) 3 151], 62⟩) (fun _ h => h) ?_ ?_
 · rcases ite_some ht19 with ⟨c21, ht19⟩ | ⟨c21, ht19⟩
   rotate_left
   · refine T.condF rfl (beq_eq_false_iff_ne.2 c21) ?_
     refine T.skip ?_
     obtain rfl := osi ht19
     exact ⟨_, Gst.only [1, 3, 5, 6, 7, 8, 9] rfl, y9, rfl⟩
   refine T.condT rfl (beq_iff_eq.2 c21) ?_
   refine T.region ?_
   refine aA rfl rfl ?_
   refine TL.op1 (OpR.loadPtr 1 rfl rfl rfl rfl) rfl ?_
   refine aA rfl rfl ?_
   refine TL.op1 (OpR.lit rfl rfl rfl rfl rfl rfl rfl) rfl ?_
   obtain ⟨x22, hx22, ht19⟩ := bS ht19
   refine TL.op (OpR.appendM (m := [a2]) e_ref07_Cell 2 hx22 rfl rfl rfl rfl rfl rfl rfl rfl rfl (fun _ => rfl)) rfl (fun v23 => ?_)
   refine aA rfl rfl ?_
   refine TL.op0 (OpR.store 1 rfl rfl rfl rfl rfl rfl rfl rfl) ?_
   refine TL.nil ?_
   obtain rfl := osi ht19
   exact ⟨_, Gst.only [1, 3, 5, 6, 7, 8, 9] rfl, v23, rfl⟩
 rintro _ ⟨y20, rfl⟩
 show T X _ _ _
 refine aS ?_
 iterate 3 refine aA rfl rfl ?_
 refine TL.op1 (OpR.cast (OpR.pure rfl) (intE (lenM _ _))) rfl ?_
 refine aA rfl rfl ?_
 refine aN rfl ?_
 obtain ⟨t24, ht24, q14⟩ := bS q14
 refine T.cutC (fun S' => ∃ y25 : Value, S' = ⟨[(9, (dN s10.1)), (8, (dP (blk p6))), (7, (dN 0)), (6, (dP (blk p1))), (5, .nod [.val (.string (bs a2.fS)), .val (.string (bs a2.fRaw)), dT a2.fKept]), (3, .nod [.sl 3 (List.map e_ref07_Cell a0.fCells), dN a0.fEnd, dT a0.fHidden]), (1, (dN a1))], [.var (blk p1) [.val (.slice none 0 0), dN 0, dT false] 60, .var (blk p6) [.val y25, dN a0.fEnd, dT a0.fHidden] 60, .row y25 (List.map e_ref07_Cell t24) 3 151], 62⟩) (fun _ h => h) ?_ ?_
 rotate_left
 · rintro _ ⟨y25, rfl⟩
   show T X _ _ _
   refine T.region ?_
   iterate 3 refine aA rfl rfl ?_
   refine TL.nil ?_
   obtain rfl := osi q14
   exact ⟨m12, Nat.lt_succ_self _, _, Gst.only [1, 3, 5, 6, 7, 8, 9] rfl, y25, (w64 (s10.1 + 1), t24), rfl, i15⟩
 rcases ite_some ht24 with ⟨c26, ht24⟩ | ⟨c26, ht24⟩
 rotate_left
 · refine T.condF rfl (eF c26) ?_
   refine T.skip ?_
   obtain rfl := osi ht24
   exact ⟨_, Gst.only [1, 3, 5, 6, 7, 8, 9] rfl, y20, rfl⟩
 refine T.condT rfl (eT c26) ?_
 obtain ⟨x28, hx28, ht24⟩ := bS ht24
 obtain ⟨x29, hx29, ht24⟩ := bS ht24
 refine T.drawS drawsX (fun env27 => [dP (blk p6), .val y20, .nod [.sl 3 (List.map e_ref07_Cell a0.fCells), dN a0.fEnd, dT a0.fHidden], .sl 3 (List.map e_ref07_Cell a0.fCells), dN s10.1, .nod [.val (.string (bs x28.fS)), .val (.string (bs x28.fRaw)), dT x28.fKept], .agg [.val (.string (bs x28.fS)), .val (.string (bs x28.fRaw)), dT x28.fKept], .sl 3 (List.map e_ref07_Cell [x28]), .val (env27 8), dP (blk p6), .dead]) (fun D env27 => [.var (blk p1) [.val (.slice none 0 0), dN 0, dT false] 60, (bif D 10 then .var (blk p6) [.val (env27 8), dN a0.fEnd, dT a0.fHidden] 60 else .var (blk p6) [.val y20, dN a0.fEnd, dT a0.fHidden] 60), (bif D 8 then .row (env27 8) (List.map e_ref07_Cell x29) 3 151 else .row y20 (List.map e_ref07_Cell t19) 3 151)]) [0, 1, 0, 4, 0, 28, 60, 124, 255, 511, 1023] [1, 3, 5, 6, 7, 8, 9] _ (by decide +kernel) (by decide +kernel) (fun _ => rfl) (fun _ => rfl) ?_ (fun _ => rfl) (fun _ => rfl) ?_
 rotate_left
 · intro env27
   obtain rfl := osi ht24
   exact ⟨_, Gst.only [1, 3, 5, 6, 7, 8, 9] rfl, (env27 8), rfl⟩
 refine aC ?_
 refine OpsS.cons' true ?_ (fun _ _ _ _ _ _ _ => rfl) ?_
 · intro D env27 hA
   have e8 : D 8 = false := hA.no 8 _ rfl rfl
   have e10 : D 10 = false := hA.no 10 _ rfl rfl
   exact OpS.yp [(8, false), (10, false)] ⟨e8, e10, trivial⟩ (Want.plain rfl) (OpR.loadPtr 1 rfl rfl rfl rfl) (fun x => rfl) (fun x => rfl)
 iterate 3 refine aC ?_
 refine oT (.nod [.val (.string (bs x28.fS)), .val (.string (bs x28.fRaw)), dT x28.fKept]) (fun _ _ => OpR.indexM e_ref07_Cell hx28 rfl rfl rfl rfl rfl) ?_
 refine aC ?_
 refine oT (.sl 3 (List.map e_ref07_Cell [x28])) (fun _ _ => OpR.lit rfl rfl rfl rfl rfl rfl rfl) ?_
 refine OpsS.cons' true ?_ (fun D hA env27 x j hj hD => match j, hj, hD with | 0, _, _ => rfl | 1, _, _ => rfl | 2, _, _ => rfl | 3, _, _ => rfl | 4, _, _ => rfl | 5, _, _ => rfl | 6, _, _ => rfl | 7, _, _ => rfl | 8, hj, _ => absurd rfl hj | 9, _, _ => rfl | 10, _, _ => rfl | _ + 11, _, _ => rfl) ?_
 · intro D env27 hA
   have e10 : D 10 = false := hA.no 10 _ rfl rfl
   exact OpS.yp [(10, false), (8, false)] ⟨e10, hA.me, trivial⟩ (Want.plain rfl) (OpR.appendM (m := [x28]) e_ref07_Cell 2 hx29 rfl rfl rfl rfl rfl rfl rfl rfl rfl (fun _ => rfl)) (fun x => rfl) (fun x => rfl)
 refine aC ?_
 refine OpsS.cons' true ?_ (fun _ _ _ _ _ _ _ => rfl) ?_
 · intro D env27 hA
   have e8 : D 8 = true := hA.yes 8 _ rfl rfl
   exact OpS.yp [(8, true), (10, false)] ⟨e8, hA.me, trivial⟩ (Want.plain rfl) (OpR.store 1 rfl rfl rfl rfl rfl rfl rfl rfl) (fun x => rfl) (fun x => rfl)
 exact trivial
noncomputable def ref11_With (a0 : ref11_Grid) (a1 : List ref08_Row) : Option (Bool × Int) :=
  some (a0.fTail, a0.fEnd)
theorem ref11_With_c {a0 : ref11_Grid} {a1 : List ref08_Row} {v0 : Value} {res : Bool × Int} (h0 : ref11_With a0 a1 = some res) : CallF X 122 [.agg [.sl 3 (List.map e_ref08_Row a0.fRows), dT a0.fTail, dN a0.fEnd], .val v0] [.row v0 (List.map e_ref08_Row a1) 3 60] (fun x => .agg [.val v0, dT res.1, dN res.2]) (fun x => [.row v0 (List.map e_ref08_Row a1) 3 60]) := by
 unfold ref11_With at h0
 refine CallF.mkG (X := X) rfl Tryz.func122 rfl rfl Tryz.ntmps122 rfl rfl ?_
 refine aS ?_
 refine TL.op1 (OpR.boxImm rfl rfl) rfl ?_
 refine TL.op (OpR.alloc rfl rfl (fun _ => rfl)) rfl (fun p1 => ?_)
 refine aN rfl ?_
 refine aS ?_
 iterate 5 refine aA rfl rfl ?_
 refine TL.op1 (OpR.build rfl rfl rfl rfl rfl) rfl ?_
 refine TL.op0 (OpR.store 1 rfl rfl rfl rfl rfl rfl rfl rfl) ?_
 refine aN rfl ?_
 refine T.ret ?_
 obtain rfl := osi h0
 exact rO [0] [4] rfl undef (cV 1 rfl rfl rfl rfl ResL.nil) rfl rfl rfl rfl
noncomputable def ref12_Insert.l1 (a0 : ref11_Grid) (a1 : Int) (s11 : Int × (List ref08_Row)) : Option (Lp (Int × (List ref08_Row)) (List ref08_Row)) :=
  if s11.1 < (a0.fRows.length : Int) then
    bnd (idx a0.fRows s11.1) fun x20 =>
    bnd (if (x20.fCells.length : Int) ≥ a1 then
      bnd (ref08_Insert x20 a1 (⟨[], [], false⟩ : ref07_Cell)) fun x24 =>
      some (x24.1.fCells, x24.1.fEnd, x24.1.fHidden)
    else
      some (x20.fCells, x20.fEnd, x20.fHidden) : Option ((List ref07_Cell) × Int × Bool)) fun t22 =>
    bnd (app 40 s11.2 [(⟨t22.1, t22.2.1, t22.2.2⟩ : ref08_Row)]) fun x25 =>
    some (Lp.next (w64 (s11.1 + 1), x25))
  else
    some (Lp.done s11.2)
noncomputable def ref12_Insert (a0 : ref11_Grid) (a1 : Int) : Option (ref11_Grid × Int) :=
  bnd (ref11_Width a0) fun x2 =>
  if (a0.fRows.length : Int) = 0 then
    some ((⟨[], false, 0⟩ : ref11_Grid), 9)
  else
    bnd (if a1 < 0 then
      some true
    else
      some (decide (a1 > x2)) : Option Bool) fun t4 =>
    if t4 = true then
      some ((⟨[], false, 0⟩ : ref11_Grid), 5)
    else
      if x2 > 39 then
        some ((⟨[], false, 0⟩ : ref11_Grid), 6)
      else
        bnd (loop (ref12_Insert.l1 a0 a1) (0, []) : Option (List ref08_Row)) fun t8 =>
        bnd (ref11_With a0 t8) fun x27 =>
        some ((⟨t8, x27.1, x27.2⟩ : ref11_Grid), 0)
theorem ref12_Insert_c {a0 : ref11_Grid} {a1 : Int} {res : ref11_Grid × Int} (h0 : ref12_Insert a0 a1 = some res) : CallF X 71 [.agg [.sl 3 (List.map e_ref08_Row a0.fRows), dT a0.fTail, dN a0.fEnd], dN a1] [] (fun x => .tup [.agg [.sl 3 (List.map e_ref08_Row res.1.fRows), dT res.1.fTail, dN res.1.fEnd], dN res.2]) (fun x => []) := by
 unfold ref12_Insert at h0
 refine CallF.mkG (X := X) rfl Tryz.func71 rfl rfl Tryz.ntmps71 rfl rfl ?_
 refine aS ?_
 refine TL.op1 (OpR.boxImm rfl rfl) rfl ?_
 refine TL.op (OpR.alloc rfl rfl (fun _ => rfl)) rfl (fun p1 => ?_)
 refine aA rfl rfl ?_
 refine aN rfl ?_
 refine aS ?_
 refine aA rfl rfl ?_
 obtain ⟨x2, hx2, h0⟩ := bS h0
 refine TL.op1 (OpR.call0 fn78 (ref11_Width_c hx2) rfl) rfl ?_
 refine aA rfl rfl ?_
 refine aN rfl ?_
 refine T.seq ?_
 refine aS ?_
 iterate 2 refine aA rfl rfl ?_
 refine TL.op1 (OpR.cast (OpR.pure rfl) (intE (lenM _ _))) rfl ?_
 refine aA rfl rfl ?_
 refine aN rfl ?_
 rcases ite_some h0 with ⟨c3, h0⟩ | ⟨c3, h0⟩
 · refine T.condT rfl (beq_iff_eq.2 c3) ?_
   refine aS ?_
   refine TL.op1 (OpR.build rfl rfl rfl rfl rfl) rfl ?_
   refine TL.op0 (OpR.store 0 rfl rfl rfl rfl rfl rfl rfl rfl) ?_
   refine aA rfl rfl ?_
   refine aN rfl ?_
   refine T.ret ?_
   obtain rfl := osi h0
   exact PostG.retP (ks := []) (Gst.trans (Gst.only [4, 5] rfl) (Gst.denil (ReS.cons Re.refl (ReS.cons Re.refl ReS.nil)) (ReO.var (ReL.cons (Re.base .nil) (ReL.cons Re.refl (ReL.cons Re.refl ReL.nil))) ReO.nil))) undef (cV 0 rfl rfl rfl rfl (cT rfl ResL.nil)) rfl rfl rfl rfl
 refine T.condF rfl (beq_eq_false_iff_ne.2 c3) ?_
 refine aK rfl ?_
 refine T.seq ?_
 refine T.seq ?_
 obtain ⟨t4, ht4, h0⟩ := bS h0
 refine T.cutC (fun S' => S' = ⟨[(23, (dT t4)), (6, (dN x2)), (5, (dN 0)), (4, (dP (blk p1))), (2, .nod [.sl 3 (List.map e_ref08_Row a0.fRows), dT a0.fTail, dN a0.fEnd]), (1, (dN a1))], [.var (blk p1) [.val (.slice none 0 0), dT false, dN 0] 31], 55⟩) (fun _ h => h) ?_ ?_
 · refine T.region ?_
   iterate 3 refine aA rfl rfl ?_
   rcases ite_some ht4 with ⟨c5, ht4⟩ | ⟨c5, ht4⟩
   · refine TL.off rfl rfl rfl rfl (eT c5) rfl rfl ?_
     refine TL.off rfl rfl rfl rfl (eT c5) rfl rfl ?_
     refine TL.off rfl rfl rfl rfl (eT c5) rfl rfl ?_
     refine TL.op1 (OpR.pickT rfl (eT c5) rfl) rfl ?_
     refine TL.nil ?_
     obtain rfl := osi ht4
     exact ⟨_, Gst.only [1, 2, 4, 5, 6, 23] rfl, rfl⟩
   refine TL.on rfl rfl rfl rfl (eF c5) ?_
   refine aA rfl rfl ?_
   refine TL.on rfl rfl rfl rfl (eF c5) ?_
   refine aA rfl rfl ?_
   refine TL.on rfl rfl rfl rfl (eF c5) ?_
   refine aA rfl rfl ?_
   refine TL.op1 (OpR.pickF rfl (eF c5) rfl) rfl ?_
   refine TL.nil ?_
   obtain rfl := osi ht4
   exact ⟨_, Gst.only [1, 2, 4, 5, 6, 23] rfl, rfl⟩
 rintro _ rfl
 show T X _ _ _
 rcases ite_some h0 with ⟨c6, h0⟩ | ⟨c6, h0⟩
 · refine T.condT rfl (c6) ?_
   refine aS ?_
   refine TL.op1 (OpR.build rfl rfl rfl rfl rfl) rfl ?_
   refine TL.op0 (OpR.store 0 rfl rfl rfl rfl rfl rfl rfl rfl) ?_
   refine aA rfl rfl ?_
   refine aN rfl ?_
   refine T.ret ?_
   obtain rfl := osi h0
   exact PostG.retP (ks := []) (Gst.trans (Gst.only [4, 5] rfl) (Gst.denil (ReS.cons Re.refl (ReS.cons Re.refl ReS.nil)) (ReO.var (ReL.cons (Re.base .nil) (ReL.cons Re.refl (ReL.cons Re.refl ReL.nil))) ReO.nil))) undef (cV 0 rfl rfl rfl rfl (cT rfl ResL.nil)) rfl rfl rfl rfl
 refine T.condF rfl (eq_false_of_ne_true c6) ?_
 refine aK rfl ?_
 refine T.seq ?_
 refine aS ?_
 iterate 2 refine aA rfl rfl ?_
 refine aN rfl ?_
 rcases ite_some h0 with ⟨c7, h0⟩ | ⟨c7, h0⟩
 · refine T.condT rfl (eT c7) ?_
   refine aS ?_
   refine TL.op1 (OpR.build rfl rfl rfl rfl rfl) rfl ?_
   refine TL.op0 (OpR.store 0 rfl rfl rfl rfl rfl rfl rfl rfl) ?_
   refine aA rfl rfl ?_
   refine aN rfl ?_
   refine T.ret ?_
   obtain rfl := osi h0
   exact PostG.retP (ks := []) (Gst.trans (Gst.only [4, 5] rfl) (Gst.denil (ReS.cons Re.refl (ReS.cons Re.refl ReS.nil)) (ReO.var (ReL.cons (Re.base .nil) (ReL.cons Re.refl (ReL.cons Re.refl ReL.nil))) ReO.nil))) undef (cV 0 rfl rfl rfl rfl (cT rfl ResL.nil)) rfl rfl rfl rfl
 refine T.condF rfl (eF c7) ?_
 refine aK rfl ?_
 refine aS ?_
 refine aA rfl rfl ?_
 refine aN rfl ?_
 refine T.seq ?_
 refine aS ?_
 iterate 2 refine aA rfl rfl ?_
 refine TL.op1 (OpR.cast (OpR.pure rfl) (intE (lenM _ _))) rfl ?_
 refine aA rfl rfl ?_
 refine aN rfl ?_
 obtain ⟨t8, ht8, h0⟩ := bS h0
 refine T.cutC (fun S' => ∃ y9 : Value, S' = ⟨[(7, .val y9), (5, (dN 0)), (4, (dP (blk p1))), (2, .nod [.sl 3 (List.map e_ref08_Row a0.fRows), dT a0.fTail, dN a0.fEnd])], [.var (blk p1) [.val (.slice none 0 0), dT false, dN 0] 31, .row y9 (List.map e_ref08_Row t8) 3 60], 55⟩) (fun _ h => h) ?_ ?_
 rotate_left
 · rintro _ ⟨y9, rfl⟩
   show T X _ _ _
   refine aS ?_
   iterate 2 refine aA rfl rfl ?_
   obtain ⟨x27, hx27, h0⟩ := bS h0
   refine TL.op1 (OpR.call [1] fn122 (ref11_With_c hx27) rfl rfl rfl (fun _ => rfl)) rfl ?_
   refine TL.op0 (OpR.store 0 rfl rfl rfl rfl rfl rfl rfl rfl) ?_
   refine aA rfl rfl ?_
   refine aN rfl ?_
   refine T.ret ?_
   obtain rfl := osi h0
   exact PostG.retP (ks := []) (Gst.trans (Gst.only [4, 5] rfl) (Gst.trans (Gst.freezeRow 1 rfl rfl (ReS.cons Re.refl (ReS.cons Re.refl ReS.nil)) (ReO.var (ReL.cons (Re.base .all) (ReL.cons Re.refl (ReL.cons Re.refl ReL.nil))) (ReO.same ReO.nil))) (Gst.pick [0] rfl rfl))) undef (cV 0 rfl rfl rfl rfl (cT rfl ResL.nil)) rfl rfl rfl rfl
 refine T.block ?_
 obtain ⟨n12, n17⟩ := loop_some ht8
 refine T.loop (fun n S' => ∃ S'', Gst S' S'' ∧ ∃ y10 : Value, ∃ s11 : Int × (List ref08_Row), S'' = ⟨[(31, (dN s11.1)), (30, (dN (a0.fRows.length : Int))), (29, .sl 3 (List.map e_ref08_Row a0.fRows)), (7, .val y10), (5, (dN 0)), (4, (dP (blk p1))), (2, .nod [.sl 3 (List.map e_ref08_Row a0.fRows), dT a0.fTail, dN a0.fEnd]), (1, (dN a1))], [.var (blk p1) [.val (.slice none 0 0), dT false, dN 0] 31, .row y10 (List.map e_ref08_Row s11.2) 3 60], 55⟩ ∧ iter (ref12_Insert.l1 a0 a1) n s11 = some t8) n12 ?_ ?_
 · exact ⟨_, Gst.trans (Gst.only [1, 2, 4, 5, 7, 29, 30, 31] rfl) (Gst.nilRow (ow := [.var (blk p1) [.val (.slice none 0 0), dT false, dN 0] 31]) 3 60 rfl), (.slice none 0 0), (0, []), rfl, n17⟩
 rintro n12 _ ⟨_, g, y10, s11, rfl, i16⟩
 refine T.ghost g ?_
 obtain ⟨m13, q14, rfl, q15, i16⟩ := iter_succ i16
 unfold ref12_Insert.l1 at q15
 refine aS ?_
 refine aA rfl rfl ?_
 refine aN rfl ?_
 refine T.seq ?_
 rcases ite_some q15 with ⟨c19, q15⟩ | ⟨c19, q15⟩
 rotate_left
 · refine T.condF rfl (eF c19) ?_
   refine T.exit ?_
   obtain rfl := osi q15
   obtain rfl : _ = _ := i16
   exact ⟨_, Gst.only [2, 4, 5, 7] rfl, y10, rfl⟩
 refine T.condT rfl (eT c19) ?_
 refine aK rfl ?_
 refine T.seq ?_
 refine T.block ?_
 refine aS ?_
 obtain ⟨x20, hx20, q15⟩ := bS q15
 refine TL.op1 (OpR.indexM e_ref08_Row hx20 rfl rfl rfl rfl rfl) rfl ?_
 refine aA rfl rfl ?_
 refine TL.op (OpR.alloc rfl rfl (fun _ => rfl)) rfl (fun p21 => ?_)
 refine TL.op0 (OpR.store 2 rfl rfl rfl rfl rfl rfl rfl rfl) ?_
 refine aN rfl ?_
 refine T.seq ?_
 refine aS ?_
 refine aA rfl rfl ?_
 refine TL.op1 (OpR.loadPtr 2 rfl rfl rfl rfl) rfl ?_
 refine TL.op1 (OpR.cast (OpR.pure rfl) (intE (lenM _ _))) rfl ?_
 iterate 2 refine aA rfl rfl ?_
 refine aN rfl ?_
 obtain ⟨t22, ht22, q15⟩ := bS q15
 refine T.cutC (fun S' => S' = ⟨[(31, (dN s11.1)), (30, (dN (a0.fRows.length : Int))), (29, .sl 3 (List.map e_ref08_Row a0.fRows)), (9, (dP (blk p21))), (7, .val y10), (5, (dN 0)), (4, (dP (blk p1))), (2, .nod [.sl 3 (List.map e_ref08_Row a0.fRows), dT a0.fTail, dN a0.fEnd]), (1, (dN a1))], [.var (blk p1) [.val (.slice none 0 0), dT false, dN 0] 31, .row y10 (List.map e_ref08_Row s11.2) 3 60, .var (blk p21) [.sl 3 (List.map e_ref07_Cell t22.1), dN t22.2.1, dT t22.2.2] 60], 55⟩) (fun _ h => h) ?_ ?_
 rotate_left
 · rintro _ rfl
   show T X _ _ _
   refine T.region ?_
   refine aA rfl rfl ?_
   refine TL.op1 (OpR.loadPtr 2 rfl rfl rfl rfl) rfl ?_
   refine TL.op1 (OpR.lit rfl rfl rfl rfl rfl rfl rfl) rfl ?_
   obtain ⟨x25, hx25, q15⟩ := bS q15
   refine TL.op (OpR.appendM (m := [(⟨t22.1, t22.2.1, t22.2.2⟩ : ref08_Row)]) e_ref08_Row 1 hx25 rfl rfl rfl rfl rfl rfl rfl rfl rfl (fun _ => rfl)) rfl (fun v26 => ?_)
   refine aA rfl rfl ?_
   refine aN rfl ?_
   refine T.region ?_
   iterate 2 refine aA rfl rfl ?_
   refine TL.nil ?_
   obtain rfl := osi q15
   exact ⟨m13, Nat.lt_succ_self _, _, gP [1, 2, 4, 5, 7, 29, 30, 31] [0, 1] rfl rfl rfl, v26, (w64 (s11.1 + 1), x25), rfl, i16⟩
 rcases ite_some ht22 with ⟨c23, ht22⟩ | ⟨c23, ht22⟩
 rotate_left
 · refine T.condF rfl (eF c23) ?_
   refine T.skip ?_
   obtain rfl := osi ht22
   exact ⟨_, Gst.only [1, 2, 4, 5, 7, 9, 29, 30, 31] rfl, rfl⟩
 refine T.condT rfl (eT c23) ?_
 refine T.region ?_
 refine TL.op1 (OpR.loadPtr 2 rfl rfl rfl rfl) rfl ?_
 refine aA rfl rfl ?_
 refine TL.op1 (OpR.build rfl rfl rfl rfl rfl) rfl ?_
 obtain ⟨x24, hx24, ht22⟩ := bS ht22
 refine TL.op1 (OpR.call0 fn139 (ref08_Insert_c hx24) rfl) rfl ?_
 iterate 3 refine aA rfl rfl ?_
 refine TL.op0 (OpR.store 2 rfl rfl rfl rfl rfl rfl rfl rfl) ?_
 refine TL.nil ?_
 obtain rfl := osi ht22
 exact ⟨_, Gst.only [1, 2, 4, 5, 7, 9, 29, 30, 31] rfl, rfl⟩
noncomputable def slices_Clone_cell_Cell_cell_Cell (a0 : List cell_Cell) : Option (List cell_Cell) :=
  bnd (app 56 [] a0) fun x5 =>
  some x5
theorem slices_Clone_cell_Cell_cell_Cell_c {a0 : List cell_Cell} {res : (List cell_Cell)} (h0 : slices_Clone_cell_Cell_cell_Cell a0 = some res) : CallF X 163 [.sl 5 (List.map e_cell_Cell a0)] [] (fun x => .val (vn x 0)) (fun x => [.row (vn x 0) (List.map e_cell_Cell res) 5 144]) := by
 unfold slices_Clone_cell_Cell_cell_Cell at h0
 refine CallF.mkG (X := X) rfl Tryz.func163 rfl rfl Tryz.ntmps163 rfl rfl ?_
 refine aS ?_
 refine aA rfl rfl ?_
 refine aN rfl ?_
 refine T.seq ?_
 refine aS ?_
 refine aA rfl rfl ?_
 refine TL.isNil rfl rfl rfl rfl (fun b1 e2 => ?_)
 refine aN rfl ?_
 rcases Bool.eq_false_or_eq_true b1 with c3 | c3
 · obtain rfl := map_nil_of (e2 c3)
   rw [app_nil] at h0
   refine T.condT rfl (c3) ?_
   refine aS ?_
   refine aA rfl rfl ?_
   refine aN rfl ?_
   refine T.ret ?_
   obtain rfl := osi h0
   exact PostG.retP (ks := [0]) (Gst.trans (Gst.only [2] rfl) (Gst.nilRow (ow := []) 5 144 rfl)) (.tuple #[(.slice none 0 0)]) (cT rfl ResL.nil) rfl rfl rfl rfl
 refine T.condF rfl (c3) ?_
 refine aK rfl ?_
 refine aS ?_
 refine TL.op (OpR.litRow rfl rfl rfl rfl rfl rfl rfl rfl (fun _ => rfl)) rfl (fun v4 => ?_)
 refine aA rfl rfl ?_
 obtain ⟨x5, hx5, h0⟩ := bS h0
 refine TL.op (OpR.appendM (m := a0) e_cell_Cell 0 hx5 rfl rfl rfl rfl rfl rfl rfl rfl rfl (fun _ => rfl)) rfl (fun v6 => ?_)
 refine aA rfl rfl ?_
 refine aN rfl ?_
 refine T.ret ?_
 obtain rfl := osi h0
 exact rO [0] [2] rfl (.tuple #[v6]) (cT rfl ResL.nil) rfl rfl rfl rfl
noncomputable def row_Row_Pad_2.l1 (a1 : Int) (s7 : (List cell_Cell)) : Option (Lp (List cell_Cell) (List cell_Cell)) :=
  if (s7.length : Int) < (if 40 < a1 then 40 else a1) then
    bnd (app 56 s7 [(⟨(⟨[], 0⟩ : piece_Text), (⟨0, 0⟩ : arena_Span), false⟩ : cell_Cell)]) fun x16 =>
    some (Lp.next x16)
  else
    some (Lp.done s7)
noncomputable def row_Row_Pad_2 (a0 : row_Row) (a1 : Int) : Option (Int × Bool × (List cell_Cell)) :=
  bnd (slices_Clone_cell_Cell_cell_Cell a0.fCells) fun x2 =>
  bnd (loop (row_Row_Pad_2.l1 a1) x2 : Option (List cell_Cell)) fun t4 =>
  bnd (row_Row_with a0 t4) fun x18 =>
  some (x18.1, x18.2, t4)
theorem row_Row_Pad_2_c {a0 : row_Row} {a1 : Int} {res : Int × Bool × (List cell_Cell)} (h0 : row_Row_Pad_2 a0 a1 = some res) : CallF X 90 [.agg [.sl 5 (List.map e_cell_Cell a0.fCells), dN a0.fEnd, dT a0.fHidden], dN a1] [] (fun x => .agg [.val (vn x 0), dN res.1, dT res.2.1]) (fun x => [.row (vn x 0) (List.map e_cell_Cell res.2.2) 5 144]) := by
 unfold row_Row_Pad_2 at h0
 refine CallF.mkG (X := X) rfl Tryz.func90 rfl rfl Tryz.ntmps90 rfl rfl ?_
 refine aS ?_
 refine TL.op1 (OpR.boxImm rfl rfl) rfl ?_
 refine TL.op (OpR.alloc rfl rfl (fun _ => rfl)) rfl (fun p1 => ?_)
 refine aN rfl ?_
 refine aS ?_
 iterate 3 refine aA rfl rfl ?_
 refine aN rfl ?_
 refine aS ?_
 iterate 2 refine aA rfl rfl ?_
 obtain ⟨x2, hx2, h0⟩ := bS h0
 refine TL.op (OpR.call [] fn163 (slices_Clone_cell_Cell_cell_Cell_c hx2) rfl rfl rfl (fun _ => rfl)) rfl (fun w3 => ?_)
 refine aA rfl rfl ?_
 refine aN rfl ?_
 refine T.seq ?_
 obtain ⟨t4, ht4, h0⟩ := bS h0
 refine T.cutC (fun S' => ∃ y5 : Value, S' = ⟨[(5, .val y5), (4, (dP (blk p1))), (2, .nod [.sl 5 (List.map e_cell_Cell a0.fCells), dN a0.fEnd, dT a0.fHidden])], [.var (blk p1) [.val (.slice none 0 0), dN 0, dT false] 49, .row y5 (List.map e_cell_Cell t4) 5 144], 22⟩) (fun _ h => h) ?_ ?_
 rotate_left
 · rintro _ ⟨y5, rfl⟩
   show T X _ _ _
   refine aS ?_
   iterate 2 refine aA rfl rfl ?_
   obtain ⟨x18, hx18, h0⟩ := bS h0
   refine TL.op1 (OpR.call [1] fn155 (row_Row_with_c hx18) rfl rfl rfl (fun _ => rfl)) rfl ?_
   refine TL.op0 (OpR.store 0 rfl rfl rfl rfl rfl rfl rfl rfl) ?_
   refine aN rfl ?_
   refine T.ret ?_
   obtain rfl := osi h0
   exact rO [1] [4] rfl (.tuple #[y5]) (cV 0 rfl rfl rfl rfl ResL.nil) rfl rfl rfl rfl
 refine T.block ?_
 obtain ⟨n8, n13⟩ := loop_some ht4
 refine T.loop (fun n S' => ∃ S'', Gst S' S'' ∧ ∃ y6 : Value, ∃ s7 : (List cell_Cell), S'' = ⟨[(5, .val y6), (4, (dP (blk p1))), (2, .nod [.sl 5 (List.map e_cell_Cell a0.fCells), dN a0.fEnd, dT a0.fHidden]), (1, (dN (if 40 < a1 then 40 else a1)))], [.var (blk p1) [.val (.slice none 0 0), dN 0, dT false] 49, .row y6 (List.map e_cell_Cell s7) 5 144], 22⟩ ∧ iter (row_Row_Pad_2.l1 a1) n s7 = some t4) n8 ?_ ?_
 · exact ⟨_, Gst.only [1, 2, 4, 5] rfl, (vn w3 0), x2, rfl, n13⟩
 rintro n8 _ ⟨_, g, y6, s7, rfl, i12⟩
 refine T.ghost g ?_
 obtain ⟨m9, q10, rfl, q11, i12⟩ := iter_succ i12
 unfold row_Row_Pad_2.l1 at q11
 refine T.seq ?_
 refine aS ?_
 refine aA rfl rfl ?_
 refine TL.op1 (OpR.rowLenM e_cell_Cell 1 rfl rfl rfl rfl) rfl ?_
 iterate 2 refine aA rfl rfl ?_
 refine aN rfl ?_
 rcases ite_some q11 with ⟨c15, q11⟩ | ⟨c15, q11⟩
 rotate_left
 · refine T.condF rfl (eF c15) ?_
   refine T.exit ?_
   obtain rfl := osi q11
   obtain rfl : _ = _ := i12
   exact ⟨_, Gst.only [2, 4, 5] rfl, y6, rfl⟩
 refine T.condT rfl (eT c15) ?_
 refine aK rfl ?_
 refine T.block ?_
 refine T.region ?_
 refine aA rfl rfl ?_
 refine TL.op1 (OpR.wk (d' := fun _ => .agg [.sl 2 (List.map e_arena_Span []), dN 0, dN 0, dN 0, dT false]) (OpR.build rfl rfl rfl rfl rfl) (fun _ => Re.agg (ReL.cons (Re.base .nil) (ReL.cons Re.refl (ReL.cons Re.refl (ReL.cons Re.refl (ReL.cons Re.refl ReL.nil))))) (fun _ _ h => by cases h; exact ⟨_, rfl⟩))) rfl ?_
 refine TL.op1 (OpR.lit rfl rfl rfl rfl rfl rfl rfl) rfl ?_
 obtain ⟨x16, hx16, q11⟩ := bS q11
 refine TL.op (OpR.appendM (m := [(⟨(⟨[], 0⟩ : piece_Text), (⟨0, 0⟩ : arena_Span), false⟩ : cell_Cell)]) e_cell_Cell 1 hx16 rfl rfl rfl rfl rfl rfl rfl rfl rfl (fun _ => rfl)) rfl (fun v17 => ?_)
 refine aA rfl rfl ?_
 refine TL.nil ?_
 obtain rfl := osi q11
 exact ⟨m9, Nat.lt_succ_self _, _, Gst.only [1, 2, 4, 5] rfl, v17, x16, rfl, i12⟩
noncomputable def row_Row_Set (a0 : row_Row) (a1 : Int) (a2 : cell_Cell) : Option (row_Row × Int) :=
  bnd (if a1 < 0 then
    some true
  else
    some (decide (a1 ≥ 40)) : Option Bool) fun t2 =>
  if t2 = true then
    some ((⟨[], 0, false⟩ : row_Row), 5)
  else
    bnd (row_Row_Pad_2 a0 (w64 (a1 + 1))) fun x5 =>
    bnd (idx x5.2.2 a1) fun x8 =>
    some ((⟨(x5.2.2.set a1.toNat a2), x5.1, x5.2.1⟩ : row_Row), 0)
theorem row_Row_Set_c {a0 : row_Row} {a1 : Int} {a2 : cell_Cell} {res : row_Row × Int} (h0 : row_Row_Set a0 a1 a2 = some res) : CallF X 86 [.agg [.sl 5 (List.map e_cell_Cell a0.fCells), dN a0.fEnd, dT a0.fHidden], dN a1, .agg [.sl 2 (List.map e_arena_Span a2.fText.fL), dN a2.fText.fN, dN a2.fRaw.fAt, dN a2.fRaw.fN, dT a2.fKept]] [] (fun x => .tup [.agg [.sl 5 (List.map e_cell_Cell res.1.fCells), dN res.1.fEnd, dT res.1.fHidden], dN res.2]) (fun x => []) := by
 unfold row_Row_Set at h0
 refine CallF.mkG (X := X) rfl Tryz.func86 rfl rfl Tryz.ntmps86 rfl rfl ?_
 refine aS ?_
 refine TL.op1 (OpR.boxImm rfl rfl) rfl ?_
 refine TL.op1 (OpR.boxImm rfl rfl) rfl ?_
 refine TL.op (OpR.alloc rfl rfl (fun _ => rfl)) rfl (fun p1 => ?_)
 refine aA rfl rfl ?_
 refine aN rfl ?_
 refine T.seq ?_
 refine T.seq ?_
 obtain ⟨t2, ht2, h0⟩ := bS h0
 refine T.cutC (fun S' => S' = ⟨[(14, (dT t2)), (7, (dN 0)), (6, (dP (blk p1))), (5, .nod [.sl 2 (List.map e_arena_Span a2.fText.fL), dN a2.fText.fN, dN a2.fRaw.fAt, dN a2.fRaw.fN, dT a2.fKept]), (3, .nod [.sl 5 (List.map e_cell_Cell a0.fCells), dN a0.fEnd, dT a0.fHidden]), (1, (dN a1))], [.var (blk p1) [.val (.slice none 0 0), dN 0, dT false] 49], 26⟩) (fun _ h => h) ?_ ?_
 · refine T.region ?_
   iterate 3 refine aA rfl rfl ?_
   rcases ite_some ht2 with ⟨c3, ht2⟩ | ⟨c3, ht2⟩
   · refine TL.off rfl rfl rfl rfl (eT c3) rfl rfl ?_
     refine TL.off rfl rfl rfl rfl (eT c3) rfl rfl ?_
     refine TL.op1 (OpR.pickT rfl (eT c3) rfl) rfl ?_
     refine TL.nil ?_
     obtain rfl := osi ht2
     exact ⟨_, Gst.only [1, 3, 5, 6, 7, 14] rfl, rfl⟩
   refine TL.on rfl rfl rfl rfl (eF c3) ?_
   refine aA rfl rfl ?_
   refine TL.on rfl rfl rfl rfl (eF c3) ?_
   refine aA rfl rfl ?_
   refine TL.op1 (OpR.pickF rfl (eF c3) rfl) rfl ?_
   refine TL.nil ?_
   obtain rfl := osi ht2
   exact ⟨_, Gst.only [1, 3, 5, 6, 7, 14] rfl, rfl⟩
 rintro _ rfl
 show T X _ _ _
 rcases ite_some h0 with ⟨c4, h0⟩ | ⟨c4, h0⟩
 · refine T.condT rfl (c4) ?_
   refine aS ?_
   refine TL.op1 (OpR.build rfl rfl rfl rfl rfl) rfl ?_
   refine TL.op0 (OpR.store 0 rfl rfl rfl rfl rfl rfl rfl rfl) ?_
   refine aA rfl rfl ?_
   refine aN rfl ?_
   refine T.ret ?_
   obtain rfl := osi h0
   exact PostG.retP (ks := []) (Gst.trans (Gst.only [6, 7] rfl) (Gst.denil (ReS.cons Re.refl (ReS.cons Re.refl ReS.nil)) (ReO.var (ReL.cons (Re.base .nil) (ReL.cons Re.refl (ReL.cons Re.refl ReL.nil))) ReO.nil))) undef (cV 0 rfl rfl rfl rfl (cT rfl ResL.nil)) rfl rfl rfl rfl
 refine T.condF rfl (eq_false_of_ne_true c4) ?_
 refine aK rfl ?_
 refine aS ?_
 iterate 3 refine aA rfl rfl ?_
 obtain ⟨x5, hx5, h0⟩ := bS h0
 refine TL.op (OpR.call [] fn90 (row_Row_Pad_2_c hx5) rfl rfl rfl (fun _ => rfl)) rfl (fun w6 => ?_)
 refine TL.op (OpR.alloc rfl rfl (fun _ => rfl)) rfl (fun p7 => ?_)
 refine TL.op0 (OpR.store 2 rfl rfl rfl rfl rfl rfl rfl rfl) ?_
 refine aN rfl ?_
 refine aS ?_
 refine aA rfl rfl ?_
 refine TL.op1 (OpR.loadPtr 2 rfl rfl rfl rfl) rfl ?_
 iterate 2 refine aA rfl rfl ?_
 obtain ⟨x8, hx8, h0⟩ := bS h0
 refine TL.op1 (OpR.rowIndexM e_cell_Cell 1 hx8 rfl rfl rfl rfl rfl rfl rfl) rfl ?_
 refine TL.op0 (OpR.rowStore0M (j := a1) e_cell_Cell a2 1 hx8 rfl rfl rfl rfl rfl rfl rfl rfl rfl) ?_
 refine aN rfl ?_
 refine aS ?_
 refine TL.op1 (OpR.loadPtr 2 rfl rfl rfl rfl) rfl ?_
 refine TL.op0 (OpR.store 0 rfl rfl rfl rfl rfl rfl rfl rfl) ?_
 refine aA rfl rfl ?_
 refine aN rfl ?_
 refine T.ret ?_
 obtain rfl := osi h0
 exact PostG.retP (ks := []) (Gst.trans (Gst.only [6, 7] rfl) (Gst.trans (Gst.freezeRow 1 rfl rfl (ReS.cons Re.refl (ReS.cons Re.refl ReS.nil)) (ReO.var (ReL.cons (Re.base .all) (ReL.cons Re.refl (ReL.cons Re.refl ReL.nil))) (ReO.same (ReO.var (ReL.cons (Re.base .all) (ReL.cons Re.refl (ReL.cons Re.refl ReL.nil))) ReO.nil)))) (Gst.pick [0] rfl rfl))) undef (cV 0 rfl rfl rfl rfl (cT rfl ResL.nil)) rfl rfl rfl rfl
noncomputable def row_Row_has (a0 : row_Row) (a1 : Int) : Option Bool :=
  bnd (if a1 ≥ 0 then
    some (decide (a1 < (a0.fCells.length : Int)))
  else
    some false : Option Bool) fun t1 =>
  some t1
theorem row_Row_has_c {a0 : row_Row} {a1 : Int} {res : Bool} (h0 : row_Row_has a0 a1 = some res) : CallF X 158 [.agg [.sl 5 (List.map e_cell_Cell a0.fCells), dN a0.fEnd, dT a0.fHidden], dN a1] [] (fun x => (dT res)) (fun x => []) := by
 unfold row_Row_has at h0
 refine CallF.mkG (X := X) rfl Tryz.func158 rfl rfl Tryz.ntmps158 rfl rfl ?_
 refine aS ?_
 refine TL.op1 (OpR.boxImm rfl rfl) rfl ?_
 refine aA rfl rfl ?_
 refine aN rfl ?_
 refine T.seq ?_
 obtain ⟨t1, ht1, h0⟩ := bS h0
 refine T.cutC (fun S' => S' = ⟨[(4, (dT t1))], [], 14⟩) (fun _ h => h) ?_ ?_
 rotate_left
 · rintro _ rfl
   show T X _ _ _
   refine T.ret ?_
   obtain rfl := osi h0
   exact rO [] [4] rfl undef (cT rfl ResL.nil) rfl rfl rfl rfl
 refine T.region ?_
 iterate 3 refine aA rfl rfl ?_
 rcases ite_some ht1 with ⟨c2, ht1⟩ | ⟨c2, ht1⟩
 rotate_left
 · refine TL.off rfl rfl rfl rfl (eF c2) rfl rfl ?_
   refine TL.off rfl rfl rfl rfl (eF c2) rfl rfl ?_
   refine TL.off rfl rfl rfl rfl (eF c2) rfl rfl ?_
   refine TL.off rfl rfl rfl rfl (eF c2) rfl rfl ?_
   refine TL.off rfl rfl rfl rfl (eF c2) rfl rfl ?_
   refine TL.op1 (OpR.pickF rfl (eF c2) rfl) rfl ?_
   refine aA rfl rfl ?_
   refine TL.nil ?_
   obtain rfl := osi ht1
   exact ⟨_, Gst.only [4] rfl, rfl⟩
 refine TL.on rfl rfl rfl rfl (eT c2) ?_
 refine aA rfl rfl ?_
 refine TL.on rfl rfl rfl rfl (eT c2) ?_
 refine aA rfl rfl ?_
 refine TL.on rfl rfl rfl rfl (eT c2) ?_
 refine aA rfl rfl ?_
 refine TL.on rfl rfl rfl rfl (eT c2) ?_
 refine TL.op1 (OpR.cast (OpR.pure rfl) (intE (lenM _ _))) rfl ?_
 refine TL.on rfl rfl rfl rfl (eT c2) ?_
 refine aA rfl rfl ?_
 refine TL.op1 (OpR.pickT rfl (eT c2) rfl) rfl ?_
 refine aA rfl rfl ?_
 refine TL.nil ?_
 obtain rfl := osi ht1
 exact ⟨_, Gst.only [4] rfl, rfl⟩
theorem row_Row_ahead_c_2 {a0 : row_Row} {a1 : Int} {res : (List cell_Cell)} (h0 : row_Row_ahead a0 a1 = some res) : CallF X 156 [.agg [.sl 5 (List.map e_cell_Cell a0.fCells), dN a0.fEnd, dT a0.fHidden], dN a1] [] (fun x => .slx 5 (List.map e_cell_Cell res)) (fun x => []) := by
 unfold row_Row_ahead at h0
 refine CallF.mkG (X := X) rfl Tryz.func156 rfl rfl Tryz.ntmps156 rfl rfl ?_
 refine aS ?_
 refine TL.op1 (OpR.boxImm rfl rfl) rfl ?_
 refine aA rfl rfl ?_
 refine aN rfl ?_
 refine aS ?_
 iterate 4 refine aA rfl rfl ?_
 obtain ⟨x1, hx1, h0⟩ := bS h0
 refine TL.op1 (OpR.slice3M (sz := 5) e_cell_Cell hx1 rfl rfl rfl rfl (BdM.some rfl) rfl rfl rfl) rfl ?_
 refine aA rfl rfl ?_
 refine aN rfl ?_
 refine T.ret ?_
 obtain rfl := osi h0
 exact rO [] [4] rfl undef (cT rfl ResL.nil) rfl rfl rfl rfl
noncomputable def slices_Grow_cell_Cell_cell_Cell (a0 : Int) : Option (List cell_Cell) :=
  if a0 < 0 then
    none
  else
    bnd (if (w64 (a0 - 0)) > 0 then
      bnd (mkg 56 (w64 (a0 - 0))) fun x5 =>
      some []
    else
      some [] : Option (List cell_Cell)) fun t2 =>
    some t2
theorem slices_Grow_cell_Cell_cell_Cell_c {a0 : Int} {res : (List cell_Cell)} (h0 : slices_Grow_cell_Cell_cell_Cell a0 = some res) : CallF X 202 [.val (.slice none 0 0), dN a0] [] (fun x => .val (vn x 0)) (fun x => [.row (vn x 0) (List.map e_cell_Cell res) 5 144]) := by
 unfold slices_Grow_cell_Cell_cell_Cell at h0
 refine CallF.mkG (X := X) rfl Tryz.func202 rfl rfl Tryz.ntmps202 rfl rfl ?_
 refine aS ?_
 refine aA rfl rfl ?_
 refine aN rfl ?_
 refine T.seq ?_
 refine aS ?_
 iterate 2 refine aA rfl rfl ?_
 refine aN rfl ?_
 rcases ite_some h0 with ⟨c1, h0⟩ | ⟨c1, h0⟩
 · refine T.condT rfl (eT c1) ?_
   cases h0
 refine T.condF rfl (eF c1) ?_
 refine aK rfl ?_
 refine T.seq ?_
 refine aS ?_
 iterate 2 refine aA rfl rfl ?_
 refine TL.op1 (OpR.capNil rfl rfl rfl) rfl ?_
 iterate 2 refine aA rfl rfl ?_
 refine TL.op1 (OpR.cast (OpR.pure rfl) (intE (show w64 (0 - 0) = 0 by decide))) rfl ?_
 iterate 2 refine aA rfl rfl ?_
 refine aN rfl ?_
 refine aS ?_
 iterate 2 refine aA rfl rfl ?_
 refine aN rfl ?_
 obtain ⟨t2, ht2, h0⟩ := bS h0
 refine T.cutC (fun S' => ∃ y3 : Value, S' = ⟨[(4, .val (.slice none 0 0)), (0, .val y3)], [.row y3 (List.map e_cell_Cell t2) 5 144], 27⟩) (fun _ h => h) ?_ ?_
 rotate_left
 · rintro _ ⟨y3, rfl⟩
   show T X _ _ _
   refine aS ?_
   iterate 2 refine aA rfl rfl ?_
   refine aN rfl ?_
   refine T.ret ?_
   obtain rfl := osi h0
   exact rO [0] [4] rfl (.tuple #[y3]) (cT rfl ResL.nil) rfl rfl rfl rfl
 rcases ite_some ht2 with ⟨c4, ht2⟩ | ⟨c4, ht2⟩
 rotate_left
 · refine T.condF rfl (eF c4) ?_
   refine T.skip ?_
   obtain rfl := osi ht2
   exact ⟨_, Gst.trans (Gst.only [0, 4] rfl) (Gst.nilRow (ow := []) 5 144 rfl), (.slice none 0 0), rfl⟩
 refine T.condT rfl (eT c4) ?_
 refine T.region ?_
 iterate 2 refine aA rfl rfl ?_
 refine TL.op1 (OpR.capNil rfl rfl rfl) rfl ?_
 refine TL.op1 (OpR.sliceNil rfl rfl rfl rfl rfl) rfl ?_
 refine aA rfl rfl ?_
 obtain ⟨x5, hx5, ht2⟩ := bS ht2
 refine TL.op (OpR.appendZ hx5 rfl rfl rfl rfl rfl rfl rfl rfl rfl rfl (fun _ => rfl)) rfl (fun v6 => ?_)
 iterate 2 refine aA rfl rfl ?_
 refine TL.op1 (OpR.slice0 0 rfl rfl rfl rfl rfl rfl) rfl ?_
 refine aA rfl rfl ?_
 refine TL.nil ?_
 obtain rfl := osi ht2
 exact ⟨_, Gst.only [0, 4] rfl, (cut0 v6), rfl⟩
noncomputable def slices_Concat_cell_Cell_cell_Cell.l1 (a0 : List (List cell_Cell)) (s2 : Int × Int) : Option (Lp (Int × Int) Int) :=
  if s2.2 < (a0.length : Int) then
    bnd (idx a0 s2.2) fun x11 =>
    if (w64 (s2.1 + (x11.length : Int))) < 0 then
      none
    else
      some (Lp.next (w64 (s2.1 + (x11.length : Int)), w64 (s2.2 + 1)))
  else
    some (Lp.done s2.1)
noncomputable def slices_Concat_cell_Cell_cell_Cell.l2 (a0 : List (List cell_Cell)) (s18 : Int × (List cell_Cell)) : Option (Lp (Int × (List cell_Cell)) (List cell_Cell)) :=
  if s18.1 < (a0.length : Int) then
    bnd (idx a0 s18.1) fun x27 =>
    bnd (app 56 s18.2 x27) fun x28 =>
    some (Lp.next (w64 (s18.1 + 1), x28))
  else
    some (Lp.done s18.2)
noncomputable def slices_Concat_cell_Cell_cell_Cell (a0 : List (List cell_Cell)) : Option (List cell_Cell) :=
  bnd (loop (slices_Concat_cell_Cell_cell_Cell.l1 a0) (0, 0) : Option Int) fun t1 =>
  bnd (slices_Grow_cell_Cell_cell_Cell t1) fun x13 =>
  bnd (loop (slices_Concat_cell_Cell_cell_Cell.l2 a0) (0, x13) : Option (List cell_Cell)) fun t15 =>
  some t15
theorem slices_Concat_cell_Cell_cell_Cell_c {a0 : List (List cell_Cell)} {res : (List cell_Cell)} (h0 : slices_Concat_cell_Cell_cell_Cell a0 = some res) : CallF X 159 [.sl 1 (List.map e_sl47 a0)] [] (fun x => .sl 5 (List.map e_cell_Cell res)) (fun x => []) := by
 unfold slices_Concat_cell_Cell_cell_Cell at h0
 refine CallF.mkG (X := X) rfl Tryz.func159 rfl rfl Tryz.ntmps159 rfl rfl ?_
 refine aS ?_
 refine aA rfl rfl ?_
 refine aN rfl ?_
 refine aS ?_
 refine aA rfl rfl ?_
 refine aN rfl ?_
 refine T.seq ?_
 refine aS ?_
 refine aA rfl rfl ?_
 refine TL.op1 (OpR.cast (OpR.pure rfl) (intE (lenM _ _))) rfl ?_
 refine aA rfl rfl ?_
 refine aN rfl ?_
 obtain ⟨t1, ht1, h0⟩ := bS h0
 refine T.cutC (fun S' => S' = ⟨[(3, (dN t1)), (2, .val (.slice none 0 0)), (0, .sl 1 (List.map e_sl47 a0))], [], 36⟩) (fun _ h => h) ?_ ?_
 · refine T.block ?_
   obtain ⟨n3, n8⟩ := loop_some ht1
   refine T.loop (fun n S' => ∃ S'', Gst S' S'' ∧ ∃ s2 : Int × Int, S'' = ⟨[(11, (dN s2.2)), (10, (dN (a0.length : Int))), (9, .sl 1 (List.map e_sl47 a0)), (3, (dN s2.1)), (2, .val (.slice none 0 0)), (0, .sl 1 (List.map e_sl47 a0))], [], 36⟩ ∧ iter (slices_Concat_cell_Cell_cell_Cell.l1 a0) n s2 = some t1) n3 ?_ ?_
   · exact ⟨_, Gst.only [0, 2, 3, 9, 10, 11] rfl, (0, 0), rfl, n8⟩
   rintro n3 _ ⟨_, g, s2, rfl, i7⟩
   refine T.ghost g ?_
   obtain ⟨m4, q5, rfl, q6, i7⟩ := iter_succ i7
   unfold slices_Concat_cell_Cell_cell_Cell.l1 at q6
   refine aS ?_
   refine aA rfl rfl ?_
   refine aN rfl ?_
   refine T.seq ?_
   rcases ite_some q6 with ⟨c10, q6⟩ | ⟨c10, q6⟩
   rotate_left
   · refine T.condF rfl (eF c10) ?_
     refine T.exit ?_
     obtain rfl := osi q6
     obtain rfl : _ = _ := i7
     exact ⟨_, Gst.only [0, 2, 3] rfl, rfl⟩
   refine T.condT rfl (eT c10) ?_
   refine aK rfl ?_
   refine T.seq ?_
   refine T.block ?_
   refine aS ?_
   obtain ⟨x11, hx11, q6⟩ := bS q6
   refine TL.op1 (OpR.indexM e_sl47 hx11 rfl rfl rfl rfl rfl) rfl ?_
   iterate 2 refine aA rfl rfl ?_
   refine aN rfl ?_
   refine aS ?_
   iterate 2 refine aA rfl rfl ?_
   refine TL.op1 (OpR.cast (OpR.pure rfl) (intE (lenM _ _))) rfl ?_
   iterate 2 refine aA rfl rfl ?_
   refine aN rfl ?_
   refine aS ?_
   iterate 2 refine aA rfl rfl ?_
   refine aN rfl ?_
   rcases ite_some q6 with ⟨c12, q6⟩ | ⟨c12, q6⟩
   · refine T.condT rfl (eT c12) ?_
     cases q6
   refine T.condF rfl (eF c12) ?_
   refine aK rfl ?_
   refine T.region ?_
   iterate 2 refine aA rfl rfl ?_
   refine TL.nil ?_
   obtain rfl := osi q6
   exact ⟨m4, Nat.lt_succ_self _, _, Gst.only [0, 2, 3, 9, 10, 11] rfl, (w64 (s2.1 + (x11.length : Int)), w64 (s2.2 + 1)), rfl, i7⟩
 rintro _ rfl
 show T X _ _ _
 refine aS ?_
 refine aA rfl rfl ?_
 obtain ⟨x13, hx13, h0⟩ := bS h0
 refine TL.op (OpR.call [] fn202 (slices_Grow_cell_Cell_cell_Cell_c hx13) rfl rfl rfl (fun _ => rfl)) rfl (fun w14 => ?_)
 refine aA rfl rfl ?_
 refine aN rfl ?_
 refine T.seq ?_
 refine aS ?_
 refine aA rfl rfl ?_
 refine TL.op1 (OpR.cast (OpR.pure rfl) (intE (lenM _ _))) rfl ?_
 refine aA rfl rfl ?_
 refine aN rfl ?_
 obtain ⟨t15, ht15, h0⟩ := bS h0
 refine T.cutC (fun S' => ∃ y16 : Value, S' = ⟨[(6, .val y16), (2, .val (.slice none 0 0))], [.row y16 (List.map e_cell_Cell t15) 5 144], 36⟩) (fun _ h => h) ?_ ?_
 rotate_left
 · rintro _ ⟨y16, rfl⟩
   show T X _ _ _
   refine aS ?_
   iterate 2 refine aA rfl rfl ?_
   refine aN rfl ?_
   refine T.ret ?_
   obtain rfl := osi h0
   exact PostG.retP (ks := []) (Gst.trans (Gst.only [2] rfl) (Gst.trans (Gst.freezeRow 0 rfl rfl (ReS.cons (Re.base .all) ReS.nil) (ReO.same ReO.nil)) (Gst.pick [] rfl rfl))) undef (cT rfl ResL.nil) rfl rfl rfl rfl
 refine T.block ?_
 obtain ⟨n19, n24⟩ := loop_some ht15
 refine T.loop (fun n S' => ∃ S'', Gst S' S'' ∧ ∃ y17 : Value, ∃ s18 : Int × (List cell_Cell), S'' = ⟨[(27, (dN s18.1)), (26, (dN (a0.length : Int))), (25, .sl 1 (List.map e_sl47 a0)), (6, .val y17), (2, .val (.slice none 0 0))], [.row y17 (List.map e_cell_Cell s18.2) 5 144], 36⟩ ∧ iter (slices_Concat_cell_Cell_cell_Cell.l2 a0) n s18 = some t15) n19 ?_ ?_
 · exact ⟨_, Gst.only [2, 6, 25, 26, 27] rfl, (vn w14 0), (0, x13), rfl, n24⟩
 rintro n19 _ ⟨_, g, y17, s18, rfl, i23⟩
 refine T.ghost g ?_
 obtain ⟨m20, q21, rfl, q22, i23⟩ := iter_succ i23
 unfold slices_Concat_cell_Cell_cell_Cell.l2 at q22
 refine aS ?_
 refine aA rfl rfl ?_
 refine aN rfl ?_
 refine T.seq ?_
 rcases ite_some q22 with ⟨c26, q22⟩ | ⟨c26, q22⟩
 rotate_left
 · refine T.condF rfl (eF c26) ?_
   refine T.exit ?_
   obtain rfl := osi q22
   obtain rfl : _ = _ := i23
   exact ⟨_, Gst.only [2, 6] rfl, y17, rfl⟩
 refine T.condT rfl (eT c26) ?_
 refine aK rfl ?_
 refine T.seq ?_
 refine T.block ?_
 refine aS ?_
 obtain ⟨x27, hx27, q22⟩ := bS q22
 refine TL.op1 (OpR.indexM e_sl47 hx27 rfl rfl rfl rfl rfl) rfl ?_
 iterate 2 refine aA rfl rfl ?_
 refine aN rfl ?_
 refine T.region ?_
 iterate 2 refine aA rfl rfl ?_
 obtain ⟨x28, hx28, q22⟩ := bS q22
 refine TL.op (OpR.appendM (m := x27) e_cell_Cell 0 hx28 rfl rfl rfl rfl rfl rfl rfl rfl rfl (fun _ => rfl)) rfl (fun v29 => ?_)
 refine aA rfl rfl ?_
 refine aN rfl ?_
 refine T.region ?_
 iterate 2 refine aA rfl rfl ?_
 refine TL.nil ?_
 obtain rfl := osi q22
 exact ⟨m20, Nat.lt_succ_self _, _, Gst.only [2, 6, 25, 26, 27] rfl, v29, (w64 (s18.1 + 1), x28), rfl, i23⟩
noncomputable def row_Row_with_2 (a0 : row_Row) (a1 : List cell_Cell) : Option row_Row :=
  some (⟨a1, a0.fEnd, a0.fHidden⟩ : row_Row)
theorem row_Row_with_2_c {a0 : row_Row} {a1 : List cell_Cell} {res : row_Row} (h0 : row_Row_with_2 a0 a1 = some res) : CallF X 155 [.agg [.sl 5 (List.map e_cell_Cell a0.fCells), dN a0.fEnd, dT a0.fHidden], .sl 5 (List.map e_cell_Cell a1)] [] (fun x => .agg [.sl 5 (List.map e_cell_Cell res.fCells), dN res.fEnd, dT res.fHidden]) (fun x => []) := by
 unfold row_Row_with_2 at h0
 refine CallF.mkG (X := X) rfl Tryz.func155 rfl rfl Tryz.ntmps155 rfl rfl ?_
 refine aS ?_
 refine TL.op (OpR.boxVar rfl rfl (fun _ => rfl)) rfl (fun p1 => ?_)
 refine TL.op (OpR.alloc rfl rfl (fun _ => rfl)) rfl (fun p2 => ?_)
 refine aN rfl ?_
 refine aS ?_
 iterate 2 refine aA rfl rfl ?_
 refine TL.op0 (OpR.store 0 rfl rfl rfl rfl rfl rfl rfl rfl) ?_
 refine aN rfl ?_
 refine aS ?_
 refine TL.op1 (OpR.loadPtr 0 rfl rfl rfl rfl) rfl ?_
 refine TL.op0 (OpR.store 1 rfl rfl rfl rfl rfl rfl rfl rfl) ?_
 refine aN rfl ?_
 refine T.ret ?_
 obtain rfl := osi h0
 exact rP [] [4] [1] rfl rfl rfl undef (cV 0 rfl rfl rfl rfl ResL.nil) rfl rfl rfl rfl
noncomputable def row_Row_Delete (a0 : row_Row) (a1 : Int) : Option (row_Row × Int) :=
  bnd (row_Row_has a0 a1) fun x2 =>
  if x2 = true then
    if (a0.fCells.length : Int) = 1 then
      some ((⟨[], 0, false⟩ : row_Row), 9)
    else
      bnd (row_Row_ahead a0 a1) fun x6 =>
      bnd (row_Row_behind a0 (w64 (a1 + 1))) fun x7 =>
      bnd (slices_Concat_cell_Cell_cell_Cell [x6, x7]) fun x8 =>
      bnd (row_Row_with_2 a0 x8) fun x9 =>
      some (x9, 0)
  else
    some ((⟨[], 0, false⟩ : row_Row), 5)
theorem row_Row_Delete_c {a0 : row_Row} {a1 : Int} {res : row_Row × Int} (h0 : row_Row_Delete a0 a1 = some res) : CallF X 87 [.agg [.sl 5 (List.map e_cell_Cell a0.fCells), dN a0.fEnd, dT a0.fHidden], dN a1] [] (fun x => .tup [.agg [.sl 5 (List.map e_cell_Cell res.1.fCells), dN res.1.fEnd, dT res.1.fHidden], dN res.2]) (fun x => []) := by
 unfold row_Row_Delete at h0
 refine CallF.mkG (X := X) rfl Tryz.func87 rfl rfl Tryz.ntmps87 rfl rfl ?_
 refine aS ?_
 refine TL.op1 (OpR.boxImm rfl rfl) rfl ?_
 refine TL.op (OpR.alloc rfl rfl (fun _ => rfl)) rfl (fun p1 => ?_)
 refine aA rfl rfl ?_
 refine aN rfl ?_
 refine T.seq ?_
 refine T.block ?_
 refine aS ?_
 iterate 2 refine aA rfl rfl ?_
 obtain ⟨x2, hx2, h0⟩ := bS h0
 refine TL.op1 (OpR.call0 fn158 (row_Row_has_c hx2) rfl) rfl ?_
 iterate 2 refine aA rfl rfl ?_
 refine aN rfl ?_
 rcases ite_some h0 with ⟨c3, h0⟩ | ⟨c3, h0⟩
 rotate_left
 · refine T.condT rfl (not_f (eq_false_of_ne_true c3)) ?_
   refine aS ?_
   refine TL.op1 (OpR.build rfl rfl rfl rfl rfl) rfl ?_
   refine TL.op0 (OpR.store 0 rfl rfl rfl rfl rfl rfl rfl rfl) ?_
   refine aA rfl rfl ?_
   refine aN rfl ?_
   refine T.ret ?_
   obtain rfl := osi h0
   exact PostG.retP (ks := []) (Gst.trans (Gst.only [4, 5] rfl) (Gst.denil (ReS.cons Re.refl (ReS.cons Re.refl ReS.nil)) (ReO.var (ReL.cons (Re.base .nil) (ReL.cons Re.refl (ReL.cons Re.refl ReL.nil))) ReO.nil))) undef (cV 0 rfl rfl rfl rfl (cT rfl ResL.nil)) rfl rfl rfl rfl
 refine T.condF rfl (not_t (c3)) ?_
 refine aS ?_
 iterate 2 refine aA rfl rfl ?_
 refine TL.op1 (OpR.cast (OpR.pure rfl) (intE (lenM _ _))) rfl ?_
 iterate 2 refine aA rfl rfl ?_
 refine aN rfl ?_
 rcases ite_some h0 with ⟨c4, h0⟩ | ⟨c4, h0⟩
 · refine T.condT rfl (beq_iff_eq.2 c4) ?_
   refine aS ?_
   refine TL.op1 (OpR.build rfl rfl rfl rfl rfl) rfl ?_
   refine TL.op0 (OpR.store 0 rfl rfl rfl rfl rfl rfl rfl rfl) ?_
   refine aA rfl rfl ?_
   refine aN rfl ?_
   refine T.ret ?_
   obtain rfl := osi h0
   exact PostG.retP (ks := []) (Gst.trans (Gst.only [4, 5] rfl) (Gst.denil (ReS.cons Re.refl (ReS.cons Re.refl ReS.nil)) (ReO.var (ReL.cons (Re.base .nil) (ReL.cons Re.refl (ReL.cons Re.refl ReL.nil))) ReO.nil))) undef (cV 0 rfl rfl rfl rfl (cT rfl ResL.nil)) rfl rfl rfl rfl
 refine T.condF rfl (beq_eq_false_iff_ne.2 c4) ?_
 refine aK rfl ?_
 refine T.seq ?_
 obtain ⟨x6, hx6, h0⟩ := bS h0
 obtain ⟨x7, hx7, h0⟩ := bS h0
 obtain ⟨x8, hx8, h0⟩ := bS h0
 obtain ⟨x9, hx9, h0⟩ := bS h0
 refine T.drawS drawsX (fun env5 => [.agg [.sl 5 (List.map e_cell_Cell a0.fCells), dN a0.fEnd, dT a0.fHidden], .agg [.sl 5 (List.map e_cell_Cell a0.fCells), dN a0.fEnd, dT a0.fHidden], dN a1, .sl 5 (List.map e_cell_Cell x6), .agg [.sl 5 (List.map e_cell_Cell a0.fCells), dN a0.fEnd, dT a0.fHidden], dN a1, dN (w64 (a1 + 1)), .sl 5 (List.map e_cell_Cell x7), .sl 1 (List.map e_sl47 [x6, x7]), .sl 5 (List.map e_cell_Cell x8), .agg [.sl 5 (List.map e_cell_Cell x9.fCells), dN x9.fEnd, dT x9.fHidden], .dead, dN 0]) (fun D env5 => [(bif D 11 then .var (blk p1) [.sl 5 (List.map e_cell_Cell x9.fCells), dN x9.fEnd, dT x9.fHidden] 49 else .var (blk p1) [.val (.slice none 0 0), dN 0, dT false] 49)]) [0, 0, 0, 6, 0, 0, 32, 126, 254, 510, 1023, 2047, 4095] [4, 5] _ (by decide +kernel) (by decide +kernel) (fun _ => rfl) (fun _ => rfl) ?_ (fun _ => rfl) (fun _ => rfl) ?_
 rotate_left
 · intro env5
   show T X _ _ _
   refine T.ret ?_
   obtain rfl := osi h0
   exact rO [] [4, 5] rfl undef (cV 0 rfl rfl rfl rfl (cT rfl ResL.nil)) rfl rfl rfl rfl
 iterate 3 refine aC ?_
 refine oT (.sl 5 (List.map e_cell_Cell x6)) (fun _ _ => OpR.unx (OpR.call0 fn156 (row_Row_ahead_c_2 hx6) rfl)) ?_
 iterate 3 refine aC ?_
 refine oT (.sl 5 (List.map e_cell_Cell x7)) (fun _ _ => OpR.unx (OpR.call0 fn157 (row_Row_behind_c hx7) rfl)) ?_
 refine oT (.sl 1 (List.map e_sl47 [x6, x7])) (fun _ _ => OpR.lit rfl rfl rfl rfl rfl rfl rfl) ?_
 refine oT (.sl 5 (List.map e_cell_Cell x8)) (fun _ _ => OpR.call0 fn159 (slices_Concat_cell_Cell_cell_Cell_c hx8) rfl) ?_
 refine oT (.agg [.sl 5 (List.map e_cell_Cell x9.fCells), dN x9.fEnd, dT x9.fHidden]) (fun _ _ => OpR.call0 fn155 (row_Row_with_2_c hx9) rfl) ?_
 refine OpsS.cons' true ?_ (fun _ _ _ _ _ _ _ => rfl) ?_
 · intro D env5 hA
   exact OpS.yp [(11, false)] ⟨hA.me, trivial⟩ (Want.plain rfl) (OpR.store 0 rfl rfl rfl rfl rfl rfl rfl rfl) (fun x => rfl) (fun x => rfl)
 refine aC ?_
 exact trivial
noncomputable def cols_Delete_1 (a0 : row_Row) (a1 : Int) : Option (row_Row × Int) :=
  bnd (row_Row_Len a0) fun x3 =>
  if x3 ≤ a1 then
    some (a0, 0)
  else
    bnd (row_Row_Len a0) fun x5 =>
    if x5 = 1 then
      bnd (row_Row_Set a0 a1 (⟨(⟨[], 0⟩ : piece_Text), (⟨0, 0⟩ : arena_Span), false⟩ : cell_Cell)) fun x7 =>
      some (x7.1, x7.2)
    else
      bnd (row_Row_Delete a0 a1) fun x8 =>
      some (x8.1, x8.2)
theorem cols_Delete_1_c {a0 : row_Row} {a1 : Int} {b0 : Nat} {res : row_Row × Int} (h0 : cols_Delete_1 a0 a1 = some res) : CallF X 85 [.agg [.sl 5 (List.map e_cell_Cell a0.fCells), dN a0.fEnd, dT a0.fHidden], dP b0] [.var b0 [dN a1] 3] (fun x => .tup [.agg [.sl 5 (List.map e_cell_Cell res.1.fCells), dN res.1.fEnd, dT res.1.fHidden], dN res.2]) (fun x => [.var b0 [dN a1] 3]) := by
 unfold cols_Delete_1 at h0
 refine CallF.mkG (X := X) rfl Tryz.func85 rfl rfl Tryz.ntmps85 rfl rfl ?_
 refine aS ?_
 refine TL.op1 (OpR.boxImm rfl rfl) rfl ?_
 refine TL.op (OpR.alloc rfl rfl (fun _ => rfl)) rfl (fun p1 => ?_)
 refine aA rfl rfl ?_
 refine aN rfl ?_
 refine T.seq ?_
 refine T.block ?_
 refine T.seq ?_
 obtain ⟨x3, hx3, h0⟩ := bS h0
 refine T.drawQ drawsX [.agg [.sl 5 (List.map e_cell_Cell a0.fCells), dN a0.fEnd, dT a0.fHidden], dN x3, dN a1, dT (decide (x3 ≤ a1)), dT (decide (x3 ≤ a1))] [1, 2, 3, 4, 5] (by decide +kernel) rfl ?_ rfl ?_
 · refine aB rfl rfl rfl ?_
   refine OpsQ.yes (Want.plain rfl) rfl (OpR.call0 fn25 (row_Row_Len_c hx3) rfl) ?_
   refine OpsQ.yes (Want.plain rfl) rfl (OpR.loadPtr 0 rfl rfl rfl rfl) ?_
   iterate 2 refine aB rfl rfl rfl ?_
   exact OpsQ.nil
 show T X _ _ _
 rcases ite_some h0 with ⟨c4, h0⟩ | ⟨c4, h0⟩
 · refine T.condT rfl (eT c4) ?_
   refine aS ?_
   refine aA rfl rfl ?_
   refine TL.op0 (OpR.store 1 rfl rfl rfl rfl rfl rfl rfl rfl) ?_
   refine aA rfl rfl ?_
   refine aN rfl ?_
   refine T.ret ?_
   obtain rfl := osi h0
   exact rO [0] [3, 4] rfl undef (cV 1 rfl rfl rfl rfl (cT rfl ResL.nil)) rfl rfl rfl rfl
 refine T.condF rfl (eF c4) ?_
 refine aS ?_
 refine aA rfl rfl ?_
 obtain ⟨x5, hx5, h0⟩ := bS h0
 refine TL.op1 (OpR.call0 fn25 (row_Row_Len_c hx5) rfl) rfl ?_
 iterate 2 refine aA rfl rfl ?_
 refine aN rfl ?_
 rcases ite_some h0 with ⟨c6, h0⟩ | ⟨c6, h0⟩
 rotate_left
 · refine T.condF rfl (beq_eq_false_iff_ne.2 c6) ?_
   refine aK rfl ?_
   refine aS ?_
   refine aA rfl rfl ?_
   refine TL.op1 (OpR.loadPtr 0 rfl rfl rfl rfl) rfl ?_
   obtain ⟨x8, hx8, h0⟩ := bS h0
   refine TL.op1 (OpR.call0 fn87 (row_Row_Delete_c hx8) rfl) rfl ?_
   iterate 2 refine aA rfl rfl ?_
   refine TL.op0 (OpR.store 1 rfl rfl rfl rfl rfl rfl rfl rfl) ?_
   refine aA rfl rfl ?_
   refine aN rfl ?_
   refine T.ret ?_
   obtain rfl := osi h0
   exact rO [0] [3, 4] rfl undef (cV 1 rfl rfl rfl rfl (cT rfl ResL.nil)) rfl rfl rfl rfl
 refine T.condT rfl (beq_iff_eq.2 c6) ?_
 refine aS ?_
 refine aA rfl rfl ?_
 refine TL.op1 (OpR.loadPtr 0 rfl rfl rfl rfl) rfl ?_
 refine TL.op1 (OpR.wk (d' := fun _ => .agg [.sl 2 (List.map e_arena_Span []), dN 0, dN 0, dN 0, dT false]) (OpR.build rfl rfl rfl rfl rfl) (fun _ => Re.agg (ReL.cons (Re.base .nil) (ReL.cons Re.refl (ReL.cons Re.refl (ReL.cons Re.refl (ReL.cons Re.refl ReL.nil))))) (fun _ _ h => by cases h; exact ⟨_, rfl⟩))) rfl ?_
 obtain ⟨x7, hx7, h0⟩ := bS h0
 refine TL.op1 (OpR.call0 fn86 (row_Row_Set_c hx7) rfl) rfl ?_
 iterate 2 refine aA rfl rfl ?_
 refine TL.op0 (OpR.store 1 rfl rfl rfl rfl rfl rfl rfl rfl) ?_
 refine aA rfl rfl ?_
 refine aN rfl ?_
 refine T.ret ?_
 obtain rfl := osi h0
 exact rO [0] [3, 4] rfl undef (cV 1 rfl rfl rfl rfl (cT rfl ResL.nil)) rfl rfl rfl rfl
noncomputable def cols_each_1_2 (a0 : Int) (a1 : row_Row) (a2 : Int) (a3 : Int) : Option (row_Row × Int) :=
  bnd (cols_Delete_1 a1 a3) fun x2 =>
  bnd (if x2.2 = 0 then
    some false
  else
    some (a2 == 0) : Option Bool) fun t4 =>
  bnd (if t4 = true then
    some x2.2
  else
    some a2 : Option Int) fun t6 =>
  some (x2.1, t6)
theorem cols_each_1_2_c {a0 : Int} {a1 : row_Row} {a2 : Int} {a3 : Int} {b0 : Nat} {b1 : Nat} {b2 : Nat} {res : row_Row × Int} (h0 : cols_each_1_2 a0 a1 a2 a3 = some res) : CallF X 154 [dN a0, .agg [.sl 5 (List.map e_cell_Cell a1.fCells), dN a1.fEnd, dT a1.fHidden], dP b0, dP b1] [.var b0 [.fn (.func 85) [] [dP b2]] 145, .var b1 [dN a2] 53, .var b2 [dN a3] 3] (fun x => .agg [.sl 5 (List.map e_cell_Cell res.1.fCells), dN res.1.fEnd, dT res.1.fHidden]) (fun x => [.var b0 [.fn (.func 85) [] [dP b2]] 145, .var b1 [dN res.2] 53, .var b2 [dN a3] 3]) := by
 unfold cols_each_1_2 at h0
 refine CallF.mkG (X := X) rfl Tryz.func154 rfl rfl Tryz.ntmps154 rfl rfl ?_
 refine aS ?_
 refine TL.op1 (OpR.boxImm rfl rfl) rfl ?_
 refine TL.op (OpR.alloc rfl rfl (fun _ => rfl)) rfl (fun p1 => ?_)
 refine aN rfl ?_
 refine aS ?_
 refine TL.op1 (OpR.loadPtr 0 rfl rfl rfl rfl) rfl ?_
 refine aA rfl rfl ?_
 obtain ⟨x2, hx2, h0⟩ := bS h0
 refine TL.op1 (OpR.callV [2] rfl fn85 (cols_Delete_1_c hx2) rfl rfl rfl (fun _ => rfl)) rfl ?_
 iterate 3 refine aA rfl rfl ?_
 refine TL.op (OpR.alloc rfl rfl (fun _ => rfl)) rfl (fun p3 => ?_)
 refine TL.op0 (OpR.store 4 rfl rfl rfl rfl rfl rfl rfl rfl) ?_
 refine aA rfl rfl ?_
 refine aN rfl ?_
 refine T.seq ?_
 refine T.seq ?_
 obtain ⟨t4, ht4, h0⟩ := bS h0
 refine T.cutC (fun S' => S' = ⟨[(20, (dT t4)), (8, (dN x2.2)), (7, (dP (blk p3))), (6, (dP (blk p1))), (3, (dP b1))], [.var b0 [.fn (.func 85) [] [dP b2]] 145, .var b1 [dN a2] 53, .var b2 [dN a3] 3, .var (blk p1) [.val (.slice none 0 0), dN 0, dT false] 49, .var (blk p3) [.sl 5 (List.map e_cell_Cell x2.1.fCells), dN x2.1.fEnd, dT x2.1.fHidden] 49], 23⟩) (fun _ h => h) ?_ ?_
 · refine T.region ?_
   iterate 3 refine aA rfl rfl ?_
   rcases ite_some ht4 with ⟨c5, ht4⟩ | ⟨c5, ht4⟩
   · refine TL.off rfl rfl rfl rfl (not_t (beq_iff_eq.2 c5)) rfl rfl ?_
     refine TL.off rfl rfl rfl rfl (not_t (beq_iff_eq.2 c5)) rfl rfl ?_
     refine TL.op1 (OpR.pickF rfl (not_t (beq_iff_eq.2 c5)) rfl) rfl ?_
     refine TL.nil ?_
     obtain rfl := osi ht4
     exact ⟨_, Gst.only [3, 6, 7, 8, 20] rfl, rfl⟩
   refine TL.on rfl rfl rfl rfl (not_f (beq_eq_false_iff_ne.2 c5)) ?_
   refine TL.op1 (OpR.loadPtr 1 rfl rfl rfl rfl) rfl ?_
   refine TL.on rfl rfl rfl rfl (not_f (beq_eq_false_iff_ne.2 c5)) ?_
   refine aA rfl rfl ?_
   refine TL.op1 (OpR.pickT rfl (not_f (beq_eq_false_iff_ne.2 c5)) rfl) rfl ?_
   refine TL.nil ?_
   obtain rfl := osi ht4
   exact ⟨_, Gst.only [3, 6, 7, 8, 20] rfl, rfl⟩
 rintro _ rfl
 show T X _ _ _
 obtain ⟨t6, ht6, h0⟩ := bS h0
 refine T.cutC (fun S' => S' = ⟨[(7, (dP (blk p3))), (6, (dP (blk p1)))], [.var b0 [.fn (.func 85) [] [dP b2]] 145, .var b1 [dN t6] 53, .var b2 [dN a3] 3, .var (blk p1) [.val (.slice none 0 0), dN 0, dT false] 49, .var (blk p3) [.sl 5 (List.map e_cell_Cell x2.1.fCells), dN x2.1.fEnd, dT x2.1.fHidden] 49], 23⟩) (fun _ h => h) ?_ ?_
 rotate_left
 · rintro _ rfl
   show T X _ _ _
   refine aS ?_
   refine TL.op1 (OpR.loadPtr 4 rfl rfl rfl rfl) rfl ?_
   refine TL.op0 (OpR.store 3 rfl rfl rfl rfl rfl rfl rfl rfl) ?_
   refine aN rfl ?_
   refine T.ret ?_
   obtain rfl := osi h0
   exact rP [0, 1, 2] [6] [0, 1, 2, 3] rfl rfl rfl undef (cV 3 rfl rfl rfl rfl ResL.nil) rfl rfl rfl rfl
 rcases ite_some ht6 with ⟨c7, ht6⟩ | ⟨c7, ht6⟩
 rotate_left
 · refine T.condF rfl (eq_false_of_ne_true c7) ?_
   refine T.skip ?_
   obtain rfl := osi ht6
   exact ⟨_, Gst.only [6, 7] rfl, rfl⟩
 refine T.condT rfl (c7) ?_
 refine T.region ?_
 refine aA rfl rfl ?_
 refine TL.op0 (OpR.store 1 rfl rfl rfl rfl rfl rfl rfl rfl) ?_
 refine TL.nil ?_
 obtain rfl := osi ht6
 exact ⟨_, Gst.only [6, 7] rfl, rfl⟩
noncomputable def walk_Map_row_Row_3.l1 (a2 : Int) (x3 : (List row_Row)) (s6 : Int × Int × (List row_Row)) : Option (Lp (Int × Int × (List row_Row)) (Int × (List row_Row))) :=
  if s6.1 < (x3.length : Int) then
    bnd (idx s6.2.2 s6.1) fun x15 =>
    bnd (cols_each_1_2 s6.1 x15 s6.2.1 a2) fun x17 =>
    some (Lp.next (w64 (s6.1 + 1), x17.2, (s6.2.2.set s6.1.toNat x17.1)))
  else
    some (Lp.done (s6.2.1, s6.2.2))
noncomputable def walk_Map_row_Row_3 (a0 : tTr) (a1 : Int) (a2 : Int) : Option (tTr × Int) :=
  bnd (walk_All_row_Row a0) fun x2 =>
  bnd (slices_Clone_row_Row_row_Row x2) fun x3 =>
  bnd (loop (walk_Map_row_Row_3.l1 a2 x3) (0, a1, x3) : Option (Int × (List row_Row))) fun t5 =>
  bnd (tree_Of_row_Row t5.2) fun x18 =>
  some (x18, t5.1)
theorem walk_Map_row_Row_3_c {a0 : tTr} {a1 : Int} {a2 : Int} {b0 : Nat} {b1 : Nat} {b2 : Nat} {res : tTr × Int} (h0 : walk_Map_row_Row_3 a0 a1 a2 = some res) : CallF X 137 [.agg [(eOP a0.fRoot)], .fn (.func 154) [] [dP b0, dP b1]] [.var b0 [.fn (.func 85) [] [dP b2]] 145, .var b1 [dN a1] 53, .var b2 [dN a2] 3] (fun x => .agg [(eOP res.1.fRoot)]) (fun x => [.var b0 [.fn (.func 85) [] [dP b2]] 145, .var b1 [dN res.2] 53, .var b2 [dN a2] 3]) := by
 unfold walk_Map_row_Row_3 at h0
 refine CallF.mkG (X := X) rfl Tryz.func137 rfl rfl Tryz.ntmps137 rfl rfl ?_
 refine aS ?_
 refine TL.op1 (OpR.boxImm rfl rfl) rfl ?_
 refine TL.op (OpR.alloc rfl rfl (fun _ => rfl)) rfl (fun p1 => ?_)
 refine aN rfl ?_
 refine aS ?_
 refine aA rfl rfl ?_
 obtain ⟨x2, hx2, h0⟩ := bS h0
 refine TL.op1 (OpR.call0 fn100 (walk_All_row_Row_c hx2) rfl) rfl ?_
 obtain ⟨x3, hx3, h0⟩ := bS h0
 refine TL.op (OpR.call [] fn191 (slices_Clone_row_Row_row_Row_c hx3) rfl rfl rfl (fun _ => rfl)) rfl (fun w4 => ?_)
 refine aA rfl rfl ?_
 refine aN rfl ?_
 refine T.seq ?_
 refine aS ?_
 refine aA rfl rfl ?_
 refine TL.op1 (OpR.rowLenM e_row_Row 4 rfl rfl rfl rfl) rfl ?_
 refine aA rfl rfl ?_
 refine aN rfl ?_
 obtain ⟨t5, ht5, h0⟩ := bS h0
 refine T.cutC (fun S' => S' = ⟨[(5, .val (vn w4 0)), (4, (dP (blk p1)))], [.var b0 [.fn (.func 85) [] [dP b2]] 145, .var b1 [dN t5.1] 53, .var b2 [dN a2] 3, .var (blk p1) [(eOP none)] 25, .row (vn w4 0) (List.map e_row_Row t5.2) 3 49], 28⟩) (fun _ h => h) ?_ ?_
 rotate_left
 · rintro _ rfl
   show T X _ _ _
   refine aS ?_
   refine aA rfl rfl ?_
   refine TL.ghost (Gst.freezeRow 4 rfl rfl (ReS.cons (Re.base .all) (ReS.refl _)) (ReO.same (ReO.same (ReO.same (ReO.same (ReO.same ReO.nil)))))) ?_
   obtain ⟨x18, hx18, h0⟩ := bS h0
   refine TL.op1 (OpR.call0 fn101 (tree_Of_row_Row_c hx18) rfl) rfl ?_
   refine TL.op0 (OpR.store 3 rfl rfl rfl rfl rfl rfl rfl rfl) ?_
   refine aN rfl ?_
   refine T.ret ?_
   obtain rfl := osi h0
   exact rP [0, 1, 2] [4] [0, 1, 2, 3] rfl rfl rfl undef (cV 3 rfl rfl rfl rfl ResL.nil) rfl rfl rfl rfl
 refine T.block ?_
 obtain ⟨n7, n12⟩ := loop_some ht5
 refine T.loop (fun n S' => ∃ S'', Gst S' S'' ∧ ∃ s6 : Int × Int × (List row_Row), S'' = ⟨[(13, (dN s6.1)), (12, (dN (x3.length : Int))), (11, .val (vn w4 0)), (5, .val (vn w4 0)), (4, (dP (blk p1))), (1, .fn (.func 154) [] [dP b0, dP b1])], [.var b0 [.fn (.func 85) [] [dP b2]] 145, .var b1 [dN s6.2.1] 53, .var b2 [dN a2] 3, .var (blk p1) [(eOP none)] 25, .row (vn w4 0) (List.map e_row_Row s6.2.2) 3 49], 28⟩ ∧ iter (walk_Map_row_Row_3.l1 a2 x3) n s6 = some t5) n7 ?_ ?_
 · exact ⟨_, Gst.only [1, 4, 5, 11, 12, 13] rfl, (0, a1, x3), rfl, n12⟩
 rintro n7 _ ⟨_, g, s6, rfl, i11⟩
 refine T.ghost g ?_
 obtain ⟨m8, q9, rfl, q10, i11⟩ := iter_succ i11
 unfold walk_Map_row_Row_3.l1 at q10
 refine aS ?_
 refine aA rfl rfl ?_
 refine aN rfl ?_
 refine T.seq ?_
 rcases ite_some q10 with ⟨c14, q10⟩ | ⟨c14, q10⟩
 rotate_left
 · refine T.condF rfl (eF c14) ?_
   refine T.exit ?_
   obtain rfl := osi q10
   obtain rfl : _ = _ := i11
   exact ⟨_, Gst.only [4, 5] rfl, rfl⟩
 refine T.condT rfl (eT c14) ?_
 refine aK rfl ?_
 refine T.seq ?_
 refine T.block ?_
 refine aS ?_
 refine aA rfl rfl ?_
 obtain ⟨x15, hx15, q10⟩ := bS q10
 refine TL.op1 (OpR.rowIndexM e_row_Row 4 hx15 rfl rfl rfl rfl rfl rfl rfl) rfl ?_
 refine TL.op1 (OpR.rowLoad0M (j := s6.1) e_row_Row 4 hx15 rfl rfl rfl rfl) rfl ?_
 refine TL.op (OpR.alloc rfl rfl (fun _ => rfl)) rfl (fun p16 => ?_)
 refine aA rfl rfl ?_
 refine TL.op0 (OpR.store 5 rfl rfl rfl rfl rfl rfl rfl rfl) ?_
 refine aN rfl ?_
 refine T.region ?_
 iterate 4 refine aA rfl rfl ?_
 refine TL.op1 (OpR.loadPtr 5 rfl rfl rfl rfl) rfl ?_
 obtain ⟨x17, hx17, q10⟩ := bS q10
 refine TL.op1 (OpR.callV [0, 1, 2] rfl fn154 (cols_each_1_2_c hx17) rfl rfl rfl (fun _ => rfl)) rfl ?_
 refine TL.op1 (OpR.rowIndexM e_row_Row 4 hx15 rfl rfl rfl rfl rfl rfl rfl) rfl ?_
 refine TL.op0 (OpR.rowStore0M (j := s6.1) e_row_Row x17.1 4 hx15 rfl rfl rfl rfl rfl rfl rfl rfl rfl) ?_
 refine aN rfl ?_
 refine T.region ?_
 iterate 2 refine aA rfl rfl ?_
 refine TL.nil ?_
 obtain rfl := osi q10
 exact ⟨m8, Nat.lt_succ_self _, _, gP [1, 4, 5, 11, 12, 13] [0, 1, 2, 3, 4] rfl rfl rfl, (w64 (s6.1 + 1), x17.2, (s6.2.2.set s6.1.toNat x17.1)), rfl, i11⟩
noncomputable def cols_each_2 (a0 : grid_Grid) (a1 : Int) : Option (grid_Grid × Int) :=
  bnd (walk_Map_row_Row_3 a0.fRows 0 a1) fun x5 =>
  if x5.2 = 0 then
    some ((⟨x5.1, a0.fTail, a0.fEnd⟩ : grid_Grid), 0)
  else
    some ((⟨(⟨none⟩ : tTr), false, 0⟩ : grid_Grid), x5.2)
theorem cols_each_2_c {a0 : grid_Grid} {a1 : Int} {b0 : Nat} {res : grid_Grid × Int} (h0 : cols_each_2 a0 a1 = some res) : CallF X 82 [.agg [(eOP a0.fRows.fRoot), dT a0.fTail, dN a0.fEnd], .fn (.func 85) [] [dP b0]] [.var b0 [dN a1] 3] (fun x => .tup [.agg [(eOP res.1.fRows.fRoot), dT res.1.fTail, dN res.1.fEnd], dN res.2]) (fun x => [.var b0 [dN a1] 3]) := by
 unfold cols_each_2 at h0
 refine CallF.mkG (X := X) rfl Tryz.func82 rfl rfl Tryz.ntmps82 rfl rfl ?_
 refine aS ?_
 refine TL.op (OpR.boxVar rfl rfl (fun _ => rfl)) rfl (fun p1 => ?_)
 refine TL.op (OpR.boxVar rfl rfl (fun _ => rfl)) rfl (fun p2 => ?_)
 refine TL.op (OpR.alloc rfl rfl (fun _ => rfl)) rfl (fun p3 => ?_)
 refine aA rfl rfl ?_
 refine aN rfl ?_
 refine aS ?_
 refine TL.op (OpR.alloc rfl rfl (fun _ => rfl)) rfl (fun p4 => ?_)
 refine TL.op0 (OpR.store 4 rfl rfl rfl rfl rfl rfl rfl rfl) ?_
 refine aN rfl ?_
 refine aS ?_
 refine aA rfl rfl ?_
 refine TL.op1 (OpR.loadPtr 1 rfl rfl rfl rfl) rfl ?_
 refine aA rfl rfl ?_
 obtain ⟨x5, hx5, h0⟩ := bS h0
 refine TL.op1 (OpR.call [2, 4, 0] fn137 (walk_Map_row_Row_3_c hx5) rfl rfl rfl (fun _ => rfl)) rfl ?_
 refine aA rfl rfl ?_
 refine TL.op0 (OpR.store 1 rfl rfl rfl rfl rfl rfl rfl rfl) ?_
 refine aN rfl ?_
 refine T.seq ?_
 refine aS ?_
 refine TL.op1 (OpR.loadPtr 4 rfl rfl rfl rfl) rfl ?_
 refine aA rfl rfl ?_
 refine aN rfl ?_
 rcases ite_some h0 with ⟨c6, h0⟩ | ⟨c6, h0⟩
 · refine T.condF rfl (not_t (beq_iff_eq.2 c6)) ?_
   refine aK rfl ?_
   refine aS ?_
   refine TL.op1 (OpR.loadPtr 1 rfl rfl rfl rfl) rfl ?_
   refine TL.op0 (OpR.store 3 rfl rfl rfl rfl rfl rfl rfl rfl) ?_
   refine aA rfl rfl ?_
   refine aN rfl ?_
   refine T.ret ?_
   obtain rfl := osi h0
   exact rP [0] [4, 5] [0, 3] rfl rfl rfl undef (cV 1 rfl rfl rfl rfl (cT rfl ResL.nil)) rfl rfl rfl rfl
 refine T.condT rfl (not_f (beq_eq_false_iff_ne.2 c6)) ?_
 refine T.seq ?_
 refine T.drawQ drawsX [.agg [(eOP none), dT false, dN 0], dN x5.2, .dead, dN x5.2] [2, 4, 5] (by decide +kernel) rfl ?_ rfl ?_
 rotate_left
 · show T X _ _ _
   refine T.ret ?_
   obtain rfl := osi h0
   exact rP [0] [4, 5] [0, 3] rfl rfl rfl undef (cV 1 rfl rfl rfl rfl (cT rfl ResL.nil)) rfl rfl rfl rfl
 refine OpsQ.yes (Want.plain rfl) rfl (OpR.build rfl rfl rfl rfl rfl) ?_
 refine OpsQ.yes (Want.plain rfl) rfl (OpR.loadPtr 4 rfl rfl rfl rfl) ?_
 refine OpsQ.yes (Want.plain rfl) rfl (OpR.store 3 rfl rfl rfl rfl rfl rfl rfl rfl) ?_
 refine aB rfl rfl rfl ?_
 exact OpsQ.nil
noncomputable def cols_Delete (a0 : grid_Grid) (a1 : Int) : Option (grid_Grid × Int) :=
  bnd (grid_Grid_Width a0) fun x3 =>
  bnd (grid_Grid_Len a0) fun x4 =>
  if x4 = 0 then
    some ((⟨(⟨none⟩ : tTr), false, 0⟩ : grid_Grid), 9)
  else
    bnd (if a1 < 0 then
      some true
    else
      some (decide (a1 ≥ x3)) : Option Bool) fun t6 =>
    if t6 = true then
      some ((⟨(⟨none⟩ : tTr), false, 0⟩ : grid_Grid), 5)
    else
      if x3 = 1 then
        some ((⟨(⟨none⟩ : tTr), false, 0⟩ : grid_Grid), 9)
      else
        bnd (cols_each_2 a0 a1) fun x10 =>
        some (x10.1, x10.2)
theorem cols_Delete_c {a0 : grid_Grid} {a1 : Int} {res : grid_Grid × Int} (h0 : cols_Delete a0 a1 = some res) : CallF X 27 [.agg [(eOP a0.fRows.fRoot), dT a0.fTail, dN a0.fEnd], dN a1] [] (fun x => .tup [.agg [(eOP res.1.fRows.fRoot), dT res.1.fTail, dN res.1.fEnd], dN res.2]) (fun x => []) := by
 unfold cols_Delete at h0
 refine CallF.mkG (X := X) rfl Tryz.func27 rfl rfl Tryz.ntmps27 rfl rfl ?_
 refine aS ?_
 refine TL.op1 (OpR.boxImm rfl rfl) rfl ?_
 refine TL.op (OpR.boxVar rfl rfl (fun _ => rfl)) rfl (fun p1 => ?_)
 refine TL.op (OpR.alloc rfl rfl (fun _ => rfl)) rfl (fun p2 => ?_)
 refine aA rfl rfl ?_
 refine aN rfl ?_
 refine aS ?_
 refine aA rfl rfl ?_
 obtain ⟨x3, hx3, h0⟩ := bS h0
 refine TL.op1 (OpR.call0 fn23 (grid_Grid_Width_c hx3) rfl) rfl ?_
 refine aA rfl rfl ?_
 refine aN rfl ?_
 refine T.seq ?_
 refine T.block ?_
 refine aS ?_
 refine aA rfl rfl ?_
 obtain ⟨x4, hx4, h0⟩ := bS h0
 refine TL.op1 (OpR.call0 fn22 (grid_Grid_Len_c hx4) rfl) rfl ?_
 iterate 2 refine aA rfl rfl ?_
 refine aN rfl ?_
 rcases ite_some h0 with ⟨c5, h0⟩ | ⟨c5, h0⟩
 · refine T.condT rfl (beq_iff_eq.2 c5) ?_
   refine aS ?_
   refine TL.op1 (OpR.build rfl rfl rfl rfl rfl) rfl ?_
   refine TL.op0 (OpR.store 1 rfl rfl rfl rfl rfl rfl rfl rfl) ?_
   refine aA rfl rfl ?_
   refine aN rfl ?_
   refine T.ret ?_
   obtain rfl := osi h0
   exact rP [] [4, 5] [1] rfl rfl rfl undef (cV 0 rfl rfl rfl rfl (cT rfl ResL.nil)) rfl rfl rfl rfl
 refine T.condF rfl (beq_eq_false_iff_ne.2 c5) ?_
 refine T.seq ?_
 obtain ⟨t6, ht6, h0⟩ := bS h0
 refine T.cutC (fun S' => S' = ⟨[(14, (dT t6)), (6, (dN x3)), (5, (dN 0)), (4, (dP (blk p2))), (3, (dP (blk p1))), (2, .nod [(eOP a0.fRows.fRoot), dT a0.fTail, dN a0.fEnd])], [.var (blk p1) [dN a1] 3, .var (blk p2) [(eOP none), dT false, dN 0] 27], 32⟩) (fun _ h => h) ?_ ?_
 · refine T.region ?_
   refine TL.op1 (OpR.loadPtr 0 rfl rfl rfl rfl) rfl ?_
   iterate 2 refine aA rfl rfl ?_
   rcases ite_some ht6 with ⟨c7, ht6⟩ | ⟨c7, ht6⟩
   · refine TL.off rfl rfl rfl rfl (eT c7) rfl rfl ?_
     refine TL.off rfl rfl rfl rfl (eT c7) rfl rfl ?_
     refine TL.off rfl rfl rfl rfl (eT c7) rfl rfl ?_
     refine TL.op1 (OpR.pickT rfl (eT c7) rfl) rfl ?_
     refine aA rfl rfl ?_
     refine TL.nil ?_
     obtain rfl := osi ht6
     exact ⟨_, Gst.only [2, 3, 4, 5, 6, 14] rfl, rfl⟩
   refine TL.on rfl rfl rfl rfl (eF c7) ?_
   refine TL.op1 (OpR.loadPtr 0 rfl rfl rfl rfl) rfl ?_
   refine TL.on rfl rfl rfl rfl (eF c7) ?_
   refine aA rfl rfl ?_
   refine TL.on rfl rfl rfl rfl (eF c7) ?_
   refine aA rfl rfl ?_
   refine TL.op1 (OpR.pickF rfl (eF c7) rfl) rfl ?_
   refine aA rfl rfl ?_
   refine TL.nil ?_
   obtain rfl := osi ht6
   exact ⟨_, Gst.only [2, 3, 4, 5, 6, 14] rfl, rfl⟩
 rintro _ rfl
 show T X _ _ _
 rcases ite_some h0 with ⟨c8, h0⟩ | ⟨c8, h0⟩
 · refine T.condT rfl (c8) ?_
   refine aS ?_
   refine TL.op1 (OpR.build rfl rfl rfl rfl rfl) rfl ?_
   refine TL.op0 (OpR.store 1 rfl rfl rfl rfl rfl rfl rfl rfl) ?_
   refine aA rfl rfl ?_
   refine aN rfl ?_
   refine T.ret ?_
   obtain rfl := osi h0
   exact rP [] [4, 5] [1] rfl rfl rfl undef (cV 0 rfl rfl rfl rfl (cT rfl ResL.nil)) rfl rfl rfl rfl
 refine T.condF rfl (eq_false_of_ne_true c8) ?_
 refine aS ?_
 iterate 3 refine aA rfl rfl ?_
 refine aN rfl ?_
 rcases ite_some h0 with ⟨c9, h0⟩ | ⟨c9, h0⟩
 · refine T.condT rfl (beq_iff_eq.2 c9) ?_
   refine aS ?_
   refine TL.op1 (OpR.build rfl rfl rfl rfl rfl) rfl ?_
   refine TL.op0 (OpR.store 1 rfl rfl rfl rfl rfl rfl rfl rfl) ?_
   refine aA rfl rfl ?_
   refine aN rfl ?_
   refine T.ret ?_
   obtain rfl := osi h0
   exact rP [] [4, 5] [1] rfl rfl rfl undef (cV 0 rfl rfl rfl rfl (cT rfl ResL.nil)) rfl rfl rfl rfl
 refine T.condF rfl (beq_eq_false_iff_ne.2 c9) ?_
 refine aK rfl ?_
 refine aS ?_
 iterate 2 refine aA rfl rfl ?_
 obtain ⟨x10, hx10, h0⟩ := bS h0
 refine TL.op1 (OpR.call [0] fn82 (cols_each_2_c hx10) rfl rfl rfl (fun _ => rfl)) rfl ?_
 iterate 2 refine aA rfl rfl ?_
 refine TL.op0 (OpR.store 1 rfl rfl rfl rfl rfl rfl rfl rfl) ?_
 refine aA rfl rfl ?_
 refine aN rfl ?_
 refine T.ret ?_
 obtain rfl := osi h0
 exact rP [] [4, 5] [1] rfl rfl rfl undef (cV 0 rfl rfl rfl rfl (cT rfl ResL.nil)) rfl rfl rfl rfl
noncomputable def ref08_Pad.l1 (a0 : ref08_Row) (a1 : Int) (s6 : Int × (List ref07_Cell)) : Option (Lp (Int × (List ref07_Cell)) (List ref07_Cell)) :=
  bnd (if s6.1 < (a0.fCells.length : Int) then
    some true
  else
    if s6.1 < a1 then
      some (decide (s6.1 < 40))
    else
      some false : Option Bool) fun t14 =>
  if t14 = true then
    bnd (if s6.1 < (a0.fCells.length : Int) then
      bnd (idx a0.fCells s6.1) fun x21 =>
      some (x21.fS, x21.fRaw, x21.fKept)
    else
      some ([], [], false) : Option ((List UInt8) × (List UInt8) × Bool)) fun t19 =>
    bnd (app 40 s6.2 [(⟨t19.1, t19.2.1, t19.2.2⟩ : ref07_Cell)]) fun x22 =>
    some (Lp.next (w64 (s6.1 + 1), x22))
  else
    some (Lp.done s6.2)
noncomputable def ref08_Pad (a0 : ref08_Row) (a1 : Int) : Option (Int × Bool × (List ref07_Cell)) :=
  bnd (loop (ref08_Pad.l1 a0 a1) (0, []) : Option (List ref07_Cell)) fun t3 =>
  some (a0.fEnd, a0.fHidden, t3)
theorem ref08_Pad_c {a0 : ref08_Row} {a1 : Int} {res : Int × Bool × (List ref07_Cell)} (h0 : ref08_Pad a0 a1 = some res) : CallF X 143 [.agg [.sl 3 (List.map e_ref07_Cell a0.fCells), dN a0.fEnd, dT a0.fHidden], dN a1] [] (fun x => .agg [.val (vn x 0), dN res.1, dT res.2.1]) (fun x => [.row (vn x 0) (List.map e_ref07_Cell res.2.2) 3 151]) := by
 unfold ref08_Pad at h0
 refine CallF.mkG (X := X) rfl Tryz.func143 rfl rfl Tryz.ntmps143 rfl rfl ?_
 refine aS ?_
 refine TL.op1 (OpR.boxImm rfl rfl) rfl ?_
 refine TL.op (OpR.alloc rfl rfl (fun _ => rfl)) rfl (fun p1 => ?_)
 refine aN rfl ?_
 refine aS ?_
 iterate 4 refine aA rfl rfl ?_
 refine TL.op1 (OpR.build rfl rfl rfl rfl rfl) rfl ?_
 refine TL.op (OpR.alloc rfl rfl (fun _ => rfl)) rfl (fun p2 => ?_)
 refine TL.op0 (OpR.store 1 rfl rfl rfl rfl rfl rfl rfl rfl) ?_
 refine aN rfl ?_
 refine T.seq ?_
 refine aS ?_
 refine aA rfl rfl ?_
 refine aN rfl ?_
 obtain ⟨t3, ht3, h0⟩ := bS h0
 refine T.cutC (fun S' => ∃ y4 : Value, S' = ⟨[(5, (dP (blk p2))), (4, (dP (blk p1)))], [.var (blk p1) [.val (.slice none 0 0), dN 0, dT false] 60, .var (blk p2) [.val y4, dN a0.fEnd, dT a0.fHidden] 60, .row y4 (List.map e_ref07_Cell t3) 3 151], 47⟩) (fun _ h => h) ?_ ?_
 rotate_left
 · rintro _ ⟨y4, rfl⟩
   show T X _ _ _
   refine aS ?_
   refine TL.op1 (OpR.loadPtr 1 rfl rfl rfl rfl) rfl ?_
   refine TL.op0 (OpR.store 0 rfl rfl rfl rfl rfl rfl rfl rfl) ?_
   refine aN rfl ?_
   refine T.ret ?_
   obtain rfl := osi h0
   exact rP [1] [4] [0, 2] rfl rfl rfl (.tuple #[y4]) (cV 0 rfl rfl rfl rfl ResL.nil) rfl rfl rfl rfl
 refine T.block ?_
 obtain ⟨n7, n12⟩ := loop_some ht3
 refine T.loop (fun n S' => ∃ S'', Gst S' S'' ∧ ∃ y5 : Value, ∃ s6 : Int × (List ref07_Cell), S'' = ⟨[(6, (dN s6.1)), (5, (dP (blk p2))), (4, (dP (blk p1))), (2, .nod [.sl 3 (List.map e_ref07_Cell a0.fCells), dN a0.fEnd, dT a0.fHidden]), (1, (dN a1))], [.var (blk p1) [.val (.slice none 0 0), dN 0, dT false] 60, .var (blk p2) [.val y5, dN a0.fEnd, dT a0.fHidden] 60, .row y5 (List.map e_ref07_Cell s6.2) 3 151], 47⟩ ∧ iter (ref08_Pad.l1 a0 a1) n s6 = some t3) n7 ?_ ?_
 · exact ⟨_, Gst.trans (Gst.only [1, 2, 4, 5, 6] rfl) (Gst.nilRow (ow := [.var (blk p1) [.val (.slice none 0 0), dN 0, dT false] 60, .var (blk p2) [.val (.slice none 0 0), dN a0.fEnd, dT a0.fHidden] 60]) 3 151 rfl), (.slice none 0 0), (0, []), rfl, n12⟩
 rintro n7 _ ⟨_, g, y5, s6, rfl, i11⟩
 refine T.ghost g ?_
 obtain ⟨m8, q9, rfl, q10, i11⟩ := iter_succ i11
 unfold ref08_Pad.l1 at q10
 refine T.seq ?_
 refine T.seq ?_
 obtain ⟨t14, ht14, q10⟩ := bS q10
 refine T.cutC (fun S' => S' = ⟨[(26, (dT t14)), (6, (dN s6.1)), (5, (dP (blk p2))), (4, (dP (blk p1))), (2, .nod [.sl 3 (List.map e_ref07_Cell a0.fCells), dN a0.fEnd, dT a0.fHidden]), (1, (dN a1))], [.var (blk p1) [.val (.slice none 0 0), dN 0, dT false] 60, .var (blk p2) [.val y5, dN a0.fEnd, dT a0.fHidden] 60, .row y5 (List.map e_ref07_Cell s6.2) 3 151], 47⟩) (fun _ h => h) ?_ ?_
 · refine T.region ?_
   iterate 3 refine aA rfl rfl ?_
   refine TL.op1 (OpR.cast (OpR.pure rfl) (intE (lenM _ _))) rfl ?_
   iterate 2 refine aA rfl rfl ?_
   rcases ite_some ht14 with ⟨c15, ht14⟩ | ⟨c15, ht14⟩
   · refine TL.off rfl rfl rfl rfl (eT c15) rfl rfl ?_
     refine TL.off rfl rfl rfl rfl (eT c15) rfl rfl ?_
     refine TL.off rfl rfl rfl rfl (eT c15) rfl rfl ?_
     refine TL.off rfl rfl rfl rfl (eT c15) rfl rfl ?_
     refine TL.offU rfl rfl rfl rfl rfl rfl ?_
     refine TL.offU rfl rfl rfl rfl rfl rfl ?_
     refine TL.off rfl rfl rfl rfl (eT c15) rfl rfl ?_
     refine TL.op1 (OpR.pickT rfl (eT c15) rfl) rfl ?_
     refine TL.nil ?_
     obtain rfl := osi ht14
     exact ⟨_, Gst.only [1, 2, 4, 5, 6, 26] rfl, rfl⟩
   refine TL.on rfl rfl rfl rfl (eF c15) ?_
   refine aA rfl rfl ?_
   refine TL.on rfl rfl rfl rfl (eF c15) ?_
   refine aA rfl rfl ?_
   refine TL.on rfl rfl rfl rfl (eF c15) ?_
   refine aA rfl rfl ?_
   refine TL.on rfl rfl rfl rfl (eF c15) ?_
   refine aA rfl rfl ?_
   rcases ite_some ht14 with ⟨c16, ht14⟩ | ⟨c16, ht14⟩
   rotate_left
   · refine TL.off rfl rfl rfl rfl (eF c16) rfl rfl ?_
     refine TL.off rfl rfl rfl rfl (eF c16) rfl rfl ?_
     refine TL.on rfl rfl rfl rfl (eF c15) ?_
     refine TL.op1 (OpR.pickF rfl (eF c16) rfl) rfl ?_
     refine TL.op1 (OpR.pickF rfl (eF c15) rfl) rfl ?_
     refine TL.nil ?_
     obtain rfl := osi ht14
     exact ⟨_, Gst.only [1, 2, 4, 5, 6, 26] rfl, rfl⟩
   refine TL.on rfl rfl rfl rfl (eT c16) ?_
   refine aA rfl rfl ?_
   refine TL.on rfl rfl rfl rfl (eT c16) ?_
   refine aA rfl rfl ?_
   refine TL.on rfl rfl rfl rfl (eF c15) ?_
   refine TL.op1 (OpR.pickT rfl (eT c16) rfl) rfl ?_
   refine TL.op1 (OpR.pickF rfl (eF c15) rfl) rfl ?_
   refine TL.nil ?_
   obtain rfl := osi ht14
   exact ⟨_, Gst.only [1, 2, 4, 5, 6, 26] rfl, rfl⟩
 rintro _ rfl
 show T X _ _ _
 rcases ite_some q10 with ⟨c17, q10⟩ | ⟨c17, q10⟩
 rotate_left
 · refine T.condF rfl (eq_false_of_ne_true c17) ?_
   refine T.exit ?_
   obtain rfl := osi q10
   obtain rfl : _ = _ := i11
   exact ⟨_, Gst.only [4, 5] rfl, y5, rfl⟩
 refine T.condT rfl (c17) ?_
 refine aK rfl ?_
 refine T.seq ?_
 refine T.block ?_
 refine aS ?_
 refine TL.op1 (OpR.build rfl rfl rfl rfl rfl) rfl ?_
 refine TL.op (OpR.alloc rfl rfl (fun _ => rfl)) rfl (fun p18 => ?_)
 refine TL.op0 (OpR.store 3 rfl rfl rfl rfl rfl rfl rfl rfl) ?_
 refine aN rfl ?_
 refine T.seq ?_
 refine aS ?_
 iterate 3 refine aA rfl rfl ?_
 refine TL.op1 (OpR.cast (OpR.pure rfl) (intE (lenM _ _))) rfl ?_
 refine aA rfl rfl ?_
 refine aN rfl ?_
 obtain ⟨t19, ht19, q10⟩ := bS q10
 refine T.cutC (fun S' => S' = ⟨[(7, (dP (blk p18))), (6, (dN s6.1)), (5, (dP (blk p2))), (4, (dP (blk p1))), (2, .nod [.sl 3 (List.map e_ref07_Cell a0.fCells), dN a0.fEnd, dT a0.fHidden]), (1, (dN a1))], [.var (blk p1) [.val (.slice none 0 0), dN 0, dT false] 60, .var (blk p2) [.val y5, dN a0.fEnd, dT a0.fHidden] 60, .var (blk p18) [.val (.string (bs t19.1)), .val (.string (bs t19.2.1)), dT t19.2.2] 151, .row y5 (List.map e_ref07_Cell s6.2) 3 151], 47⟩) (fun _ h => h) ?_ ?_
 · rcases ite_some ht19 with ⟨c20, ht19⟩ | ⟨c20, ht19⟩
   rotate_left
   · refine T.condF rfl (eF c20) ?_
     refine T.skip ?_
     obtain rfl := osi ht19
     exact ⟨_, gP [1, 2, 4, 5, 6, 7] [0, 1, 3, 2] rfl rfl rfl, rfl⟩
   refine T.condT rfl (eT c20) ?_
   refine T.region ?_
   iterate 3 refine aA rfl rfl ?_
   obtain ⟨x21, hx21, ht19⟩ := bS ht19
   refine TL.op1 (OpR.indexM e_ref07_Cell hx21 rfl rfl rfl rfl rfl) rfl ?_
   refine aA rfl rfl ?_
   refine TL.op0 (OpR.store 3 rfl rfl rfl rfl rfl rfl rfl rfl) ?_
   refine TL.nil ?_
   obtain rfl := osi ht19
   exact ⟨_, gP [1, 2, 4, 5, 6, 7] [0, 1, 3, 2] rfl rfl rfl, rfl⟩
 rintro _ rfl
 show T X _ _ _
 refine T.region ?_
 refine aA rfl rfl ?_
 refine TL.op1 (OpR.loadPtr 1 rfl rfl rfl rfl) rfl ?_
 refine TL.op1 (OpR.loadPtr 2 rfl rfl rfl rfl) rfl ?_
 refine TL.op1 (OpR.lit rfl rfl rfl rfl rfl rfl rfl) rfl ?_
 obtain ⟨x22, hx22, q10⟩ := bS q10
 refine TL.op (OpR.appendM (m := [(⟨t19.1, t19.2.1, t19.2.2⟩ : ref07_Cell)]) e_ref07_Cell 3 hx22 rfl rfl rfl rfl rfl rfl rfl rfl rfl (fun _ => rfl)) rfl (fun v23 => ?_)
 refine aA rfl rfl ?_
 refine TL.op0 (OpR.store 1 rfl rfl rfl rfl rfl rfl rfl rfl) ?_
 refine aN rfl ?_
 refine T.region ?_
 iterate 3 refine aA rfl rfl ?_
 refine TL.nil ?_
 obtain rfl := osi q10
 exact ⟨m8, Nat.lt_succ_self _, _, gP [1, 2, 4, 5, 6] [0, 1, 3] rfl rfl rfl, v23, (w64 (s6.1 + 1), x22), rfl, i11⟩
noncomputable def ref08_Set (a0 : ref08_Row) (a1 : Int) (a2 : ref07_Cell) : Option (ref08_Row × Int) :=
  bnd (if a1 < 0 then
    some true
  else
    some (decide (a1 > 39)) : Option Bool) fun t2 =>
  if t2 = true then
    some ((⟨[], 0, false⟩ : ref08_Row), 5)
  else
    bnd (ref08_Pad a0 (w64 (a1 + 1))) fun x5 =>
    bnd (idx x5.2.2 a1) fun x8 =>
    some ((⟨(x5.2.2.set a1.toNat a2), x5.1, x5.2.1⟩ : ref08_Row), 0)
theorem ref08_Set_c {a0 : ref08_Row} {a1 : Int} {a2 : ref07_Cell} {res : ref08_Row × Int} (h0 : ref08_Set a0 a1 a2 = some res) : CallF X 140 [.agg [.sl 3 (List.map e_ref07_Cell a0.fCells), dN a0.fEnd, dT a0.fHidden], dN a1, .agg [.val (.string (bs a2.fS)), .val (.string (bs a2.fRaw)), dT a2.fKept]] [] (fun x => .tup [.agg [.sl 3 (List.map e_ref07_Cell res.1.fCells), dN res.1.fEnd, dT res.1.fHidden], dN res.2]) (fun x => []) := by
 unfold ref08_Set at h0
 refine CallF.mkG (X := X) rfl Tryz.func140 rfl rfl Tryz.ntmps140 rfl rfl ?_
 refine aS ?_
 refine TL.op1 (OpR.boxImm rfl rfl) rfl ?_
 refine TL.op1 (OpR.boxImm rfl rfl) rfl ?_
 refine TL.op (OpR.alloc rfl rfl (fun _ => rfl)) rfl (fun p1 => ?_)
 refine aA rfl rfl ?_
 refine aN rfl ?_
 refine T.seq ?_
 refine T.seq ?_
 obtain ⟨t2, ht2, h0⟩ := bS h0
 refine T.cutC (fun S' => S' = ⟨[(14, (dT t2)), (7, (dN 0)), (6, (dP (blk p1))), (5, .nod [.val (.string (bs a2.fS)), .val (.string (bs a2.fRaw)), dT a2.fKept]), (3, .nod [.sl 3 (List.map e_ref07_Cell a0.fCells), dN a0.fEnd, dT a0.fHidden]), (1, (dN a1))], [.var (blk p1) [.val (.slice none 0 0), dN 0, dT false] 60], 26⟩) (fun _ h => h) ?_ ?_
 · refine T.region ?_
   iterate 3 refine aA rfl rfl ?_
   rcases ite_some ht2 with ⟨c3, ht2⟩ | ⟨c3, ht2⟩
   · refine TL.off rfl rfl rfl rfl (eT c3) rfl rfl ?_
     refine TL.off rfl rfl rfl rfl (eT c3) rfl rfl ?_
     refine TL.op1 (OpR.pickT rfl (eT c3) rfl) rfl ?_
     refine TL.nil ?_
     obtain rfl := osi ht2
     exact ⟨_, Gst.only [1, 3, 5, 6, 7, 14] rfl, rfl⟩
   refine TL.on rfl rfl rfl rfl (eF c3) ?_
   refine aA rfl rfl ?_
   refine TL.on rfl rfl rfl rfl (eF c3) ?_
   refine aA rfl rfl ?_
   refine TL.op1 (OpR.pickF rfl (eF c3) rfl) rfl ?_
   refine TL.nil ?_
   obtain rfl := osi ht2
   exact ⟨_, Gst.only [1, 3, 5, 6, 7, 14] rfl, rfl⟩
 rintro _ rfl
 show T X _ _ _
 rcases ite_some h0 with ⟨c4, h0⟩ | ⟨c4, h0⟩
 · refine T.condT rfl (c4) ?_
   refine aS ?_
   refine TL.op1 (OpR.build rfl rfl rfl rfl rfl) rfl ?_
   refine TL.op0 (OpR.store 0 rfl rfl rfl rfl rfl rfl rfl rfl) ?_
   refine aA rfl rfl ?_
   refine aN rfl ?_
   refine T.ret ?_
   obtain rfl := osi h0
   exact PostG.retP (ks := []) (Gst.trans (Gst.only [6, 7] rfl) (Gst.denil (ReS.cons Re.refl (ReS.cons Re.refl ReS.nil)) (ReO.var (ReL.cons (Re.base .nil) (ReL.cons Re.refl (ReL.cons Re.refl ReL.nil))) ReO.nil))) undef (cV 0 rfl rfl rfl rfl (cT rfl ResL.nil)) rfl rfl rfl rfl
 refine T.condF rfl (eq_false_of_ne_true c4) ?_
 refine aK rfl ?_
 refine aS ?_
 iterate 3 refine aA rfl rfl ?_
 obtain ⟨x5, hx5, h0⟩ := bS h0
 refine TL.op (OpR.call [] fn143 (ref08_Pad_c hx5) rfl rfl rfl (fun _ => rfl)) rfl (fun w6 => ?_)
 refine TL.op (OpR.alloc rfl rfl (fun _ => rfl)) rfl (fun p7 => ?_)
 refine TL.op0 (OpR.store 2 rfl rfl rfl rfl rfl rfl rfl rfl) ?_
 refine aN rfl ?_
 refine aS ?_
 refine aA rfl rfl ?_
 refine TL.op1 (OpR.loadPtr 2 rfl rfl rfl rfl) rfl ?_
 iterate 2 refine aA rfl rfl ?_
 obtain ⟨x8, hx8, h0⟩ := bS h0
 refine TL.op1 (OpR.rowIndexM e_ref07_Cell 1 hx8 rfl rfl rfl rfl rfl rfl rfl) rfl ?_
 refine TL.op0 (OpR.rowStore0M (j := a1) e_ref07_Cell a2 1 hx8 rfl rfl rfl rfl rfl rfl rfl rfl rfl) ?_
 refine aN rfl ?_
 refine aS ?_
 refine TL.op1 (OpR.loadPtr 2 rfl rfl rfl rfl) rfl ?_
 refine TL.op0 (OpR.store 0 rfl rfl rfl rfl rfl rfl rfl rfl) ?_
 refine aA rfl rfl ?_
 refine aN rfl ?_
 refine T.ret ?_
 obtain rfl := osi h0
 exact PostG.retP (ks := []) (Gst.trans (Gst.only [6, 7] rfl) (Gst.trans (Gst.freezeRow 1 rfl rfl (ReS.cons Re.refl (ReS.cons Re.refl ReS.nil)) (ReO.var (ReL.cons (Re.base .all) (ReL.cons Re.refl (ReL.cons Re.refl ReL.nil))) (ReO.same (ReO.var (ReL.cons (Re.base .all) (ReL.cons Re.refl (ReL.cons Re.refl ReL.nil))) ReO.nil)))) (Gst.pick [0] rfl rfl))) undef (cV 0 rfl rfl rfl rfl (cT rfl ResL.nil)) rfl rfl rfl rfl
noncomputable def ref08_without.l1 (a0 : List ref07_Cell) (a1 : Int) (s4 : Int × (List ref07_Cell)) : Option (Lp (Int × (List ref07_Cell)) (List ref07_Cell)) :=
  if s4.1 < (a0.length : Int) then
    bnd (idx a0 s4.1) fun x13 =>
    bnd (if s4.1 = a1 then
      some s4.2
    else
      bnd (app 40 s4.2 [x13]) fun x18 =>
      some x18 : Option (List ref07_Cell)) fun t15 =>
    some (Lp.next (w64 (s4.1 + 1), t15))
  else
    some (Lp.done s4.2)
noncomputable def ref08_without (a0 : List ref07_Cell) (a1 : Int) : Option (List ref07_Cell) :=
  bnd (loop (ref08_without.l1 a0 a1) (0, []) : Option (List ref07_Cell)) fun t1 =>
  some t1
theorem ref08_without_c {a0 : List ref07_Cell} {a1 : Int} {res : (List ref07_Cell)} (h0 : ref08_without a0 a1 = some res) : CallF X 200 [.sl 3 (List.map e_ref07_Cell a0), dN a1] [] (fun x => .sl 3 (List.map e_ref07_Cell res)) (fun x => []) := by
 unfold ref08_without at h0
 refine CallF.mkG (X := X) rfl Tryz.func200 rfl rfl Tryz.ntmps200 rfl rfl ?_
 refine aS ?_
 refine aA rfl rfl ?_
 refine aN rfl ?_
 refine aS ?_
 refine aA rfl rfl ?_
 refine aN rfl ?_
 refine T.seq ?_
 refine aS ?_
 refine aA rfl rfl ?_
 refine TL.op1 (OpR.cast (OpR.pure rfl) (intE (lenM _ _))) rfl ?_
 refine aA rfl rfl ?_
 refine aN rfl ?_
 obtain ⟨t1, ht1, h0⟩ := bS h0
 refine T.cutC (fun S' => ∃ y2 : Value, S' = ⟨[(5, .val y2), (4, .val (.slice none 0 0))], [.row y2 (List.map e_ref07_Cell t1) 3 151], 24⟩) (fun _ h => h) ?_ ?_
 rotate_left
 · rintro _ ⟨y2, rfl⟩
   show T X _ _ _
   refine aS ?_
   iterate 2 refine aA rfl rfl ?_
   refine aN rfl ?_
   refine T.ret ?_
   obtain rfl := osi h0
   exact PostG.retP (ks := []) (Gst.trans (Gst.only [4] rfl) (Gst.trans (Gst.freezeRow 0 rfl rfl (ReS.cons (Re.base .all) ReS.nil) (ReO.same ReO.nil)) (Gst.pick [] rfl rfl))) undef (cT rfl ResL.nil) rfl rfl rfl rfl
 refine T.block ?_
 obtain ⟨n5, n10⟩ := loop_some ht1
 refine T.loop (fun n S' => ∃ S'', Gst S' S'' ∧ ∃ y3 : Value, ∃ s4 : Int × (List ref07_Cell), S'' = ⟨[(10, (dN s4.1)), (9, (dN (a0.length : Int))), (8, .sl 3 (List.map e_ref07_Cell a0)), (5, .val y3), (4, .val (.slice none 0 0)), (1, (dN a1))], [.row y3 (List.map e_ref07_Cell s4.2) 3 151], 24⟩ ∧ iter (ref08_without.l1 a0 a1) n s4 = some t1) n5 ?_ ?_
 · exact ⟨_, Gst.trans (Gst.only [1, 4, 5, 8, 9, 10] rfl) (Gst.nilRow (ow := []) 3 151 rfl), (.slice none 0 0), (0, []), rfl, n10⟩
 rintro n5 _ ⟨_, g, y3, s4, rfl, i9⟩
 refine T.ghost g ?_
 obtain ⟨m6, q7, rfl, q8, i9⟩ := iter_succ i9
 unfold ref08_without.l1 at q8
 refine aS ?_
 refine aA rfl rfl ?_
 refine aN rfl ?_
 refine T.seq ?_
 rcases ite_some q8 with ⟨c12, q8⟩ | ⟨c12, q8⟩
 rotate_left
 · refine T.condF rfl (eF c12) ?_
   refine T.exit ?_
   obtain rfl := osi q8
   obtain rfl : _ = _ := i9
   exact ⟨_, Gst.only [4, 5] rfl, y3, rfl⟩
 refine T.condT rfl (eT c12) ?_
 refine aK rfl ?_
 refine T.seq ?_
 refine T.block ?_
 refine aS ?_
 refine aA rfl rfl ?_
 obtain ⟨x13, hx13, q8⟩ := bS q8
 refine TL.op1 (OpR.indexM e_ref07_Cell hx13 rfl rfl rfl rfl rfl) rfl ?_
 refine aA rfl rfl ?_
 refine TL.op (OpR.alloc rfl rfl (fun _ => rfl)) rfl (fun p14 => ?_)
 refine aA rfl rfl ?_
 refine TL.op0 (OpR.store 1 rfl rfl rfl rfl rfl rfl rfl rfl) ?_
 refine aN rfl ?_
 refine aS ?_
 iterate 3 refine aA rfl rfl ?_
 refine aN rfl ?_
 obtain ⟨t15, ht15, q8⟩ := bS q8
 refine T.cutC (fun S' => ∃ y16 : Value, S' = ⟨[(10, (dN s4.1)), (9, (dN (a0.length : Int))), (8, .sl 3 (List.map e_ref07_Cell a0)), (5, .val y16), (4, .val (.slice none 0 0)), (1, (dN a1))], [.row y16 (List.map e_ref07_Cell t15) 3 151], 24⟩) (fun _ h => h) ?_ ?_
 rotate_left
 · rintro _ ⟨y16, rfl⟩
   show T X _ _ _
   refine T.region ?_
   iterate 2 refine aA rfl rfl ?_
   refine TL.nil ?_
   obtain rfl := osi q8
   exact ⟨m6, Nat.lt_succ_self _, _, Gst.only [1, 4, 5, 8, 9, 10] rfl, y16, (w64 (s4.1 + 1), t15), rfl, i9⟩
 rcases ite_some ht15 with ⟨c17, ht15⟩ | ⟨c17, ht15⟩
 · refine T.condF rfl (not_t (beq_iff_eq.2 c17)) ?_
   refine T.skip ?_
   obtain rfl := osi ht15
   exact ⟨_, gP [1, 4, 5, 8, 9, 10] [0] rfl rfl rfl, y3, rfl⟩
 refine T.condT rfl (not_f (beq_eq_false_iff_ne.2 c17)) ?_
 refine T.region ?_
 refine aA rfl rfl ?_
 refine TL.op1 (OpR.loadPtr 1 rfl rfl rfl rfl) rfl ?_
 refine TL.op1 (OpR.lit rfl rfl rfl rfl rfl rfl rfl) rfl ?_
 obtain ⟨x18, hx18, ht15⟩ := bS ht15
 refine TL.op (OpR.appendM (m := [x13]) e_ref07_Cell 0 hx18 rfl rfl rfl rfl rfl rfl rfl rfl rfl (fun _ => rfl)) rfl (fun v19 => ?_)
 refine aA rfl rfl ?_
 refine TL.nil ?_
 obtain rfl := osi ht15
 exact ⟨_, gP [1, 4, 5, 8, 9, 10] [0] rfl rfl rfl, v19, rfl⟩
noncomputable def ref08_Delete (a0 : ref08_Row) (a1 : Int) : Option (ref08_Row × Int) :=
  bnd (if a1 < 0 then
    some true
  else
    some (decide (a1 ≥ (a0.fCells.length : Int))) : Option Bool) fun t2 =>
  if t2 = true then
    some ((⟨[], 0, false⟩ : ref08_Row), 5)
  else
    if (a0.fCells.length : Int) = 1 then
      some ((⟨[], 0, false⟩ : ref08_Row), 9)
    else
      bnd (ref08_without a0.fCells a1) fun x7 =>
      some ((⟨x7, a0.fEnd, a0.fHidden⟩ : ref08_Row), 0)
theorem ref08_Delete_c {a0 : ref08_Row} {a1 : Int} {res : ref08_Row × Int} (h0 : ref08_Delete a0 a1 = some res) : CallF X 141 [.agg [.sl 3 (List.map e_ref07_Cell a0.fCells), dN a0.fEnd, dT a0.fHidden], dN a1] [] (fun x => .tup [.agg [.sl 3 (List.map e_ref07_Cell res.1.fCells), dN res.1.fEnd, dT res.1.fHidden], dN res.2]) (fun x => []) := by
 unfold ref08_Delete at h0
 refine CallF.mkG (X := X) rfl Tryz.func141 rfl rfl Tryz.ntmps141 rfl rfl ?_
 refine aS ?_
 refine TL.op1 (OpR.boxImm rfl rfl) rfl ?_
 refine TL.op (OpR.alloc rfl rfl (fun _ => rfl)) rfl (fun p1 => ?_)
 refine aA rfl rfl ?_
 refine aN rfl ?_
 refine T.seq ?_
 refine T.seq ?_
 obtain ⟨t2, ht2, h0⟩ := bS h0
 refine T.cutC (fun S' => S' = ⟨[(14, (dT t2)), (5, (dN 0)), (4, (dP (blk p1))), (2, .nod [.sl 3 (List.map e_ref07_Cell a0.fCells), dN a0.fEnd, dT a0.fHidden]), (1, (dN a1))], [.var (blk p1) [.val (.slice none 0 0), dN 0, dT false] 60], 30⟩) (fun _ h => h) ?_ ?_
 · refine T.region ?_
   iterate 3 refine aA rfl rfl ?_
   rcases ite_some ht2 with ⟨c3, ht2⟩ | ⟨c3, ht2⟩
   · refine TL.off rfl rfl rfl rfl (eT c3) rfl rfl ?_
     refine TL.off rfl rfl rfl rfl (eT c3) rfl rfl ?_
     refine TL.off rfl rfl rfl rfl (eT c3) rfl rfl ?_
     refine TL.off rfl rfl rfl rfl (eT c3) rfl rfl ?_
     refine TL.off rfl rfl rfl rfl (eT c3) rfl rfl ?_
     refine TL.op1 (OpR.pickT rfl (eT c3) rfl) rfl ?_
     refine TL.nil ?_
     obtain rfl := osi ht2
     exact ⟨_, Gst.only [1, 2, 4, 5, 14] rfl, rfl⟩
   refine TL.on rfl rfl rfl rfl (eF c3) ?_
   refine aA rfl rfl ?_
   refine TL.on rfl rfl rfl rfl (eF c3) ?_
   refine aA rfl rfl ?_
   refine TL.on rfl rfl rfl rfl (eF c3) ?_
   refine aA rfl rfl ?_
   refine TL.on rfl rfl rfl rfl (eF c3) ?_
   refine TL.op1 (OpR.cast (OpR.pure rfl) (intE (lenM _ _))) rfl ?_
   refine TL.on rfl rfl rfl rfl (eF c3) ?_
   refine aA rfl rfl ?_
   refine TL.op1 (OpR.pickF rfl (eF c3) rfl) rfl ?_
   refine TL.nil ?_
   obtain rfl := osi ht2
   exact ⟨_, Gst.only [1, 2, 4, 5, 14] rfl, rfl⟩
 rintro _ rfl
 show T X _ _ _
 rcases ite_some h0 with ⟨c4, h0⟩ | ⟨c4, h0⟩
 · refine T.condT rfl (c4) ?_
   refine aS ?_
   refine TL.op1 (OpR.build rfl rfl rfl rfl rfl) rfl ?_
   refine TL.op0 (OpR.store 0 rfl rfl rfl rfl rfl rfl rfl rfl) ?_
   refine aA rfl rfl ?_
   refine aN rfl ?_
   refine T.ret ?_
   obtain rfl := osi h0
   exact PostG.retP (ks := []) (Gst.trans (Gst.only [4, 5] rfl) (Gst.denil (ReS.cons Re.refl (ReS.cons Re.refl ReS.nil)) (ReO.var (ReL.cons (Re.base .nil) (ReL.cons Re.refl (ReL.cons Re.refl ReL.nil))) ReO.nil))) undef (cV 0 rfl rfl rfl rfl (cT rfl ResL.nil)) rfl rfl rfl rfl
 refine T.condF rfl (eq_false_of_ne_true c4) ?_
 refine aK rfl ?_
 refine T.seq ?_
 refine aS ?_
 iterate 2 refine aA rfl rfl ?_
 refine TL.op1 (OpR.cast (OpR.pure rfl) (intE (lenM _ _))) rfl ?_
 refine aA rfl rfl ?_
 refine aN rfl ?_
 rcases ite_some h0 with ⟨c5, h0⟩ | ⟨c5, h0⟩
 · refine T.condT rfl (beq_iff_eq.2 c5) ?_
   refine aS ?_
   refine TL.op1 (OpR.build rfl rfl rfl rfl rfl) rfl ?_
   refine TL.op0 (OpR.store 0 rfl rfl rfl rfl rfl rfl rfl rfl) ?_
   refine aA rfl rfl ?_
   refine aN rfl ?_
   refine T.ret ?_
   obtain rfl := osi h0
   exact PostG.retP (ks := []) (Gst.trans (Gst.only [4, 5] rfl) (Gst.denil (ReS.cons Re.refl (ReS.cons Re.refl ReS.nil)) (ReO.var (ReL.cons (Re.base .nil) (ReL.cons Re.refl (ReL.cons Re.refl ReL.nil))) ReO.nil))) undef (cV 0 rfl rfl rfl rfl (cT rfl ResL.nil)) rfl rfl rfl rfl
 refine T.condF rfl (beq_eq_false_iff_ne.2 c5) ?_
 refine aK rfl ?_
 refine T.seq ?_
 obtain ⟨x7, hx7, h0⟩ := bS h0
 refine T.drawS drawsX (fun env6 => [.nod [.sl 3 (List.map e_ref07_Cell a0.fCells), dN a0.fEnd, dT a0.fHidden], .sl 3 (List.map e_ref07_Cell a0.fCells), dN a1, .sl 3 (List.map e_ref07_Cell x7), .nod [dN a0.fEnd, dT a0.fHidden], dN a0.fEnd, .nod [dT a0.fHidden], dT a0.fHidden, .agg [.sl 3 (List.map e_ref07_Cell x7), dN a0.fEnd, dT a0.fHidden], .dead, dN 0]) (fun D env6 => [(bif D 9 then .var (blk p1) [.sl 3 (List.map e_ref07_Cell x7), dN a0.fEnd, dT a0.fHidden] 60 else .var (blk p1) [.val (.slice none 0 0), dN 0, dT false] 60)]) [0, 1, 0, 7, 0, 16, 0, 64, 255, 511, 1023] [4, 5] _ (by decide +kernel) (by decide +kernel) (fun _ => rfl) (fun _ => rfl) ?_ (fun _ => rfl) (fun _ => rfl) ?_
 rotate_left
 · intro env6
   show T X _ _ _
   refine T.ret ?_
   obtain rfl := osi h0
   exact rO [] [4, 5] rfl undef (cV 0 rfl rfl rfl rfl (cT rfl ResL.nil)) rfl rfl rfl rfl
 iterate 3 refine aC ?_
 refine oT (.sl 3 (List.map e_ref07_Cell x7)) (fun _ _ => OpR.call0 fn200 (ref08_without_c hx7) rfl) ?_
 iterate 4 refine aC ?_
 refine oT (.agg [.sl 3 (List.map e_ref07_Cell x7), dN a0.fEnd, dT a0.fHidden]) (fun _ _ => OpR.build rfl rfl rfl rfl rfl) ?_
 refine OpsS.cons' true ?_ (fun _ _ _ _ _ _ _ => rfl) ?_
 · intro D env6 hA
   exact OpS.yp [(9, false)] ⟨hA.me, trivial⟩ (Want.plain rfl) (OpR.store 0 rfl rfl rfl rfl rfl rfl rfl rfl) (fun x => rfl) (fun x => rfl)
 refine aC ?_
 exact trivial
noncomputable def ref12_Delete.l1 (a0 : ref11_Grid) (a1 : Int) (s11 : Int × (List ref08_Row)) : Option (Lp (Int × (List ref08_Row)) (List ref08_Row)) :=
  if s11.1 < (a0.fRows.length : Int) then
    bnd (idx a0.fRows s11.1) fun x20 =>
    bnd (if (x20.fCells.length : Int) > a1 then
      some ((x20.fCells.length : Int) == 1)
    else
      some false : Option Bool) fun t22 =>
    bnd (if t22 = true then
      bnd (ref08_Set x20 0 (⟨[], [], false⟩ : ref07_Cell)) fun x26 =>
      some (x26.1.fCells, x26.1.fEnd, x26.1.fHidden)
    else
      if (x20.fCells.length : Int) > a1 then
        bnd (ref08_Delete x20 a1) fun x28 =>
        some (x28.1.fCells, x28.1.fEnd, x28.1.fHidden)
      else
        some (x20.fCells, x20.fEnd, x20.fHidden) : Option ((List ref07_Cell) × Int × Bool)) fun t24 =>
    bnd (app 40 s11.2 [(⟨t24.1, t24.2.1, t24.2.2⟩ : ref08_Row)]) fun x29 =>
    some (Lp.next (w64 (s11.1 + 1), x29))
  else
    some (Lp.done s11.2)
noncomputable def ref12_Delete (a0 : ref11_Grid) (a1 : Int) : Option (ref11_Grid × Int) :=
  bnd (ref11_Width a0) fun x2 =>
  if (a0.fRows.length : Int) = 0 then
    some ((⟨[], false, 0⟩ : ref11_Grid), 9)
  else
    bnd (if a1 < 0 then
      some true
    else
      some (decide (a1 ≥ x2)) : Option Bool) fun t4 =>
    if t4 = true then
      some ((⟨[], false, 0⟩ : ref11_Grid), 5)
    else
      if x2 = 1 then
        some ((⟨[], false, 0⟩ : ref11_Grid), 9)
      else
        bnd (loop (ref12_Delete.l1 a0 a1) (0, []) : Option (List ref08_Row)) fun t8 =>
        bnd (ref11_With a0 t8) fun x31 =>
        some ((⟨t8, x31.1, x31.2⟩ : ref11_Grid), 0)
theorem ref12_Delete_c {a0 : ref11_Grid} {a1 : Int} {res : ref11_Grid × Int} (h0 : ref12_Delete a0 a1 = some res) : CallF X 72 [.agg [.sl 3 (List.map e_ref08_Row a0.fRows), dT a0.fTail, dN a0.fEnd], dN a1] [] (fun x => .tup [.agg [.sl 3 (List.map e_ref08_Row res.1.fRows), dT res.1.fTail, dN res.1.fEnd], dN res.2]) (fun x => []) := by
 unfold ref12_Delete at h0
 refine CallF.mkG (X := X) rfl Tryz.func72 rfl rfl Tryz.ntmps72 rfl rfl ?_
 refine aS ?_
 refine TL.op1 (OpR.boxImm rfl rfl) rfl ?_
 refine TL.op (OpR.alloc rfl rfl (fun _ => rfl)) rfl (fun p1 => ?_)
 refine aA rfl rfl ?_
 refine aN rfl ?_
 refine aS ?_
 refine aA rfl rfl ?_
 obtain ⟨x2, hx2, h0⟩ := bS h0
 refine TL.op1 (OpR.call0 fn78 (ref11_Width_c hx2) rfl) rfl ?_
 refine aA rfl rfl ?_
 refine aN rfl ?_
 refine T.seq ?_
 refine aS ?_
 iterate 2 refine aA rfl rfl ?_
 refine TL.op1 (OpR.cast (OpR.pure rfl) (intE (lenM _ _))) rfl ?_
 refine aA rfl rfl ?_
 refine aN rfl ?_
 rcases ite_some h0 with ⟨c3, h0⟩ | ⟨c3, h0⟩
 · refine T.condT rfl (beq_iff_eq.2 c3) ?_
   refine aS ?_
   refine TL.op1 (OpR.build rfl rfl rfl rfl rfl) rfl ?_
   refine TL.op0 (OpR.store 0 rfl rfl rfl rfl rfl rfl rfl rfl) ?_
   refine aA rfl rfl ?_
   refine aN rfl ?_
   refine T.ret ?_
   obtain rfl := osi h0
   exact PostG.retP (ks := []) (Gst.trans (Gst.only [4, 5] rfl) (Gst.denil (ReS.cons Re.refl (ReS.cons Re.refl ReS.nil)) (ReO.var (ReL.cons (Re.base .nil) (ReL.cons Re.refl (ReL.cons Re.refl ReL.nil))) ReO.nil))) undef (cV 0 rfl rfl rfl rfl (cT rfl ResL.nil)) rfl rfl rfl rfl
 refine T.condF rfl (beq_eq_false_iff_ne.2 c3) ?_
 refine aK rfl ?_
 refine T.seq ?_
 refine T.seq ?_
 obtain ⟨t4, ht4, h0⟩ := bS h0
 refine T.cutC (fun S' => S' = ⟨[(23, (dT t4)), (6, (dN x2)), (5, (dN 0)), (4, (dP (blk p1))), (2, .nod [.sl 3 (List.map e_ref08_Row a0.fRows), dT a0.fTail, dN a0.fEnd]), (1, (dN a1))], [.var (blk p1) [.val (.slice none 0 0), dT false, dN 0] 31], 71⟩) (fun _ h => h) ?_ ?_
 · refine T.region ?_
   iterate 3 refine aA rfl rfl ?_
   rcases ite_some ht4 with ⟨c5, ht4⟩ | ⟨c5, ht4⟩
   · refine TL.off rfl rfl rfl rfl (eT c5) rfl rfl ?_
     refine TL.off rfl rfl rfl rfl (eT c5) rfl rfl ?_
     refine TL.off rfl rfl rfl rfl (eT c5) rfl rfl ?_
     refine TL.op1 (OpR.pickT rfl (eT c5) rfl) rfl ?_
     refine TL.nil ?_
     obtain rfl := osi ht4
     exact ⟨_, Gst.only [1, 2, 4, 5, 6, 23] rfl, rfl⟩
   refine TL.on rfl rfl rfl rfl (eF c5) ?_
   refine aA rfl rfl ?_
   refine TL.on rfl rfl rfl rfl (eF c5) ?_
   refine aA rfl rfl ?_
   refine TL.on rfl rfl rfl rfl (eF c5) ?_
   refine aA rfl rfl ?_
   refine TL.op1 (OpR.pickF rfl (eF c5) rfl) rfl ?_
   refine TL.nil ?_
   obtain rfl := osi ht4
   exact ⟨_, Gst.only [1, 2, 4, 5, 6, 23] rfl, rfl⟩
 rintro _ rfl
 show T X _ _ _
 rcases ite_some h0 with ⟨c6, h0⟩ | ⟨c6, h0⟩
 · refine T.condT rfl (c6) ?_
   refine aS ?_
   refine TL.op1 (OpR.build rfl rfl rfl rfl rfl) rfl ?_
   refine TL.op0 (OpR.store 0 rfl rfl rfl rfl rfl rfl rfl rfl) ?_
   refine aA rfl rfl ?_
   refine aN rfl ?_
   refine T.ret ?_
   obtain rfl := osi h0
   exact PostG.retP (ks := []) (Gst.trans (Gst.only [4, 5] rfl) (Gst.denil (ReS.cons Re.refl (ReS.cons Re.refl ReS.nil)) (ReO.var (ReL.cons (Re.base .nil) (ReL.cons Re.refl (ReL.cons Re.refl ReL.nil))) ReO.nil))) undef (cV 0 rfl rfl rfl rfl (cT rfl ResL.nil)) rfl rfl rfl rfl
 refine T.condF rfl (eq_false_of_ne_true c6) ?_
 refine aK rfl ?_
 refine T.seq ?_
 refine aS ?_
 iterate 2 refine aA rfl rfl ?_
 refine aN rfl ?_
 rcases ite_some h0 with ⟨c7, h0⟩ | ⟨c7, h0⟩
 · refine T.condT rfl (beq_iff_eq.2 c7) ?_
   refine aS ?_
   refine TL.op1 (OpR.build rfl rfl rfl rfl rfl) rfl ?_
   refine TL.op0 (OpR.store 0 rfl rfl rfl rfl rfl rfl rfl rfl) ?_
   refine aA rfl rfl ?_
   refine aN rfl ?_
   refine T.ret ?_
   obtain rfl := osi h0
   exact PostG.retP (ks := []) (Gst.trans (Gst.only [4, 5] rfl) (Gst.denil (ReS.cons Re.refl (ReS.cons Re.refl ReS.nil)) (ReO.var (ReL.cons (Re.base .nil) (ReL.cons Re.refl (ReL.cons Re.refl ReL.nil))) ReO.nil))) undef (cV 0 rfl rfl rfl rfl (cT rfl ResL.nil)) rfl rfl rfl rfl
 refine T.condF rfl (beq_eq_false_iff_ne.2 c7) ?_
 refine aK rfl ?_
 refine aS ?_
 refine aA rfl rfl ?_
 refine aN rfl ?_
 refine T.seq ?_
 refine aS ?_
 iterate 2 refine aA rfl rfl ?_
 refine TL.op1 (OpR.cast (OpR.pure rfl) (intE (lenM _ _))) rfl ?_
 refine aA rfl rfl ?_
 refine aN rfl ?_
 obtain ⟨t8, ht8, h0⟩ := bS h0
 refine T.cutC (fun S' => ∃ y9 : Value, S' = ⟨[(7, .val y9), (5, (dN 0)), (4, (dP (blk p1))), (2, .nod [.sl 3 (List.map e_ref08_Row a0.fRows), dT a0.fTail, dN a0.fEnd])], [.var (blk p1) [.val (.slice none 0 0), dT false, dN 0] 31, .row y9 (List.map e_ref08_Row t8) 3 60], 71⟩) (fun _ h => h) ?_ ?_
 rotate_left
 · rintro _ ⟨y9, rfl⟩
   show T X _ _ _
   refine aS ?_
   iterate 2 refine aA rfl rfl ?_
   obtain ⟨x31, hx31, h0⟩ := bS h0
   refine TL.op1 (OpR.call [1] fn122 (ref11_With_c hx31) rfl rfl rfl (fun _ => rfl)) rfl ?_
   refine TL.op0 (OpR.store 0 rfl rfl rfl rfl rfl rfl rfl rfl) ?_
   refine aA rfl rfl ?_
   refine aN rfl ?_
   refine T.ret ?_
   obtain rfl := osi h0
   exact PostG.retP (ks := []) (Gst.trans (Gst.only [4, 5] rfl) (Gst.trans (Gst.freezeRow 1 rfl rfl (ReS.cons Re.refl (ReS.cons Re.refl ReS.nil)) (ReO.var (ReL.cons (Re.base .all) (ReL.cons Re.refl (ReL.cons Re.refl ReL.nil))) (ReO.same ReO.nil))) (Gst.pick [0] rfl rfl))) undef (cV 0 rfl rfl rfl rfl (cT rfl ResL.nil)) rfl rfl rfl rfl
 refine T.block ?_
 obtain ⟨n12, n17⟩ := loop_some ht8
 refine T.loop (fun n S' => ∃ S'', Gst S' S'' ∧ ∃ y10 : Value, ∃ s11 : Int × (List ref08_Row), S'' = ⟨[(31, (dN s11.1)), (30, (dN (a0.fRows.length : Int))), (29, .sl 3 (List.map e_ref08_Row a0.fRows)), (7, .val y10), (5, (dN 0)), (4, (dP (blk p1))), (2, .nod [.sl 3 (List.map e_ref08_Row a0.fRows), dT a0.fTail, dN a0.fEnd]), (1, (dN a1))], [.var (blk p1) [.val (.slice none 0 0), dT false, dN 0] 31, .row y10 (List.map e_ref08_Row s11.2) 3 60], 71⟩ ∧ iter (ref12_Delete.l1 a0 a1) n s11 = some t8) n12 ?_ ?_
 · exact ⟨_, Gst.trans (Gst.only [1, 2, 4, 5, 7, 29, 30, 31] rfl) (Gst.nilRow (ow := [.var (blk p1) [.val (.slice none 0 0), dT false, dN 0] 31]) 3 60 rfl), (.slice none 0 0), (0, []), rfl, n17⟩
 rintro n12 _ ⟨_, g, y10, s11, rfl, i16⟩
 refine T.ghost g ?_
 obtain ⟨m13, q14, rfl, q15, i16⟩ := iter_succ i16
 unfold ref12_Delete.l1 at q15
 refine aS ?_
 refine aA rfl rfl ?_
 refine aN rfl ?_
 refine T.seq ?_
 rcases ite_some q15 with ⟨c19, q15⟩ | ⟨c19, q15⟩
 rotate_left
 · refine T.condF rfl (eF c19) ?_
   refine T.exit ?_
   obtain rfl := osi q15
   obtain rfl : _ = _ := i16
   exact ⟨_, Gst.only [2, 4, 5, 7] rfl, y10, rfl⟩
 refine T.condT rfl (eT c19) ?_
 refine aK rfl ?_
 refine T.seq ?_
 refine T.block ?_
 refine aS ?_
 obtain ⟨x20, hx20, q15⟩ := bS q15
 refine TL.op1 (OpR.indexM e_ref08_Row hx20 rfl rfl rfl rfl rfl) rfl ?_
 refine aA rfl rfl ?_
 refine TL.op (OpR.alloc rfl rfl (fun _ => rfl)) rfl (fun p21 => ?_)
 refine TL.op0 (OpR.store 2 rfl rfl rfl rfl rfl rfl rfl rfl) ?_
 refine aN rfl ?_
 refine T.seq ?_
 refine T.seq ?_
 obtain ⟨t22, ht22, q15⟩ := bS q15
 refine T.cutC (fun S' => S' = ⟨[(45, (dT t22)), (31, (dN s11.1)), (30, (dN (a0.fRows.length : Int))), (29, .sl 3 (List.map e_ref08_Row a0.fRows)), (9, (dP (blk p21))), (7, .val y10), (5, (dN 0)), (4, (dP (blk p1))), (2, .nod [.sl 3 (List.map e_ref08_Row a0.fRows), dT a0.fTail, dN a0.fEnd]), (1, (dN a1))], [.var (blk p1) [.val (.slice none 0 0), dT false, dN 0] 31, .row y10 (List.map e_ref08_Row s11.2) 3 60, .var (blk p21) [.sl 3 (List.map e_ref07_Cell x20.fCells), dN x20.fEnd, dT x20.fHidden] 60], 71⟩) (fun _ h => h) ?_ ?_
 · refine T.region ?_
   refine aA rfl rfl ?_
   refine TL.op1 (OpR.loadPtr 2 rfl rfl rfl rfl) rfl ?_
   refine TL.op1 (OpR.cast (OpR.pure rfl) (intE (lenM _ _))) rfl ?_
   iterate 3 refine aA rfl rfl ?_
   rcases ite_some ht22 with ⟨c23, ht22⟩ | ⟨c23, ht22⟩
   rotate_left
   · refine TL.off rfl rfl rfl rfl (eF c23) rfl rfl ?_
     refine TL.off rfl rfl rfl rfl (eF c23) rfl rfl ?_
     refine TL.off rfl rfl rfl rfl (eF c23) rfl rfl ?_
     refine TL.off rfl rfl rfl rfl (eF c23) rfl rfl ?_
     refine TL.op1 (OpR.pickF rfl (eF c23) rfl) rfl ?_
     refine TL.nil ?_
     obtain rfl := osi ht22
     exact ⟨_, Gst.only [1, 2, 4, 5, 7, 9, 29, 30, 31, 45] rfl, rfl⟩
   refine TL.on rfl rfl rfl rfl (eT c23) ?_
   refine aA rfl rfl ?_
   refine TL.on rfl rfl rfl rfl (eT c23) ?_
   refine TL.op1 (OpR.loadPtr 2 rfl rfl rfl rfl) rfl ?_
   refine TL.on rfl rfl rfl rfl (eT c23) ?_
   refine TL.op1 (OpR.cast (OpR.pure rfl) (intE (lenM _ _))) rfl ?_
   refine TL.on rfl rfl rfl rfl (eT c23) ?_
   refine aA rfl rfl ?_
   refine TL.op1 (OpR.pickT rfl (eT c23) rfl) rfl ?_
   refine TL.nil ?_
   obtain rfl := osi ht22
   exact ⟨_, Gst.only [1, 2, 4, 5, 7, 9, 29, 30, 31, 45] rfl, rfl⟩
 rintro _ rfl
 show T X _ _ _
 obtain ⟨t24, ht24, q15⟩ := bS q15
 refine T.cutC (fun S' => S' = ⟨[(31, (dN s11.1)), (30, (dN (a0.fRows.length : Int))), (29, .sl 3 (List.map e_ref08_Row a0.fRows)), (9, (dP (blk p21))), (7, .val y10), (5, (dN 0)), (4, (dP (blk p1))), (2, .nod [.sl 3 (List.map e_ref08_Row a0.fRows), dT a0.fTail, dN a0.fEnd]), (1, (dN a1))], [.var (blk p1) [.val (.slice none 0 0), dT false, dN 0] 31, .row y10 (List.map e_ref08_Row s11.2) 3 60, .var (blk p21) [.sl 3 (List.map e_ref07_Cell t24.1), dN t24.2.1, dT t24.2.2] 60], 71⟩) (fun _ h => h) ?_ ?_
 rotate_left
 · rintro _ rfl
   show T X _ _ _
   refine T.region ?_
   refine aA rfl rfl ?_
   refine TL.op1 (OpR.loadPtr 2 rfl rfl rfl rfl) rfl ?_
   refine TL.op1 (OpR.lit rfl rfl rfl rfl rfl rfl rfl) rfl ?_
   obtain ⟨x29, hx29, q15⟩ := bS q15
   refine TL.op (OpR.appendM (m := [(⟨t24.1, t24.2.1, t24.2.2⟩ : ref08_Row)]) e_ref08_Row 1 hx29 rfl rfl rfl rfl rfl rfl rfl rfl rfl (fun _ => rfl)) rfl (fun v30 => ?_)
   refine aA rfl rfl ?_
   refine aN rfl ?_
   refine T.region ?_
   iterate 2 refine aA rfl rfl ?_
   refine TL.nil ?_
   obtain rfl := osi q15
   exact ⟨m13, Nat.lt_succ_self _, _, gP [1, 2, 4, 5, 7, 29, 30, 31] [0, 1] rfl rfl rfl, v30, (w64 (s11.1 + 1), x29), rfl, i16⟩
 rcases ite_some ht24 with ⟨c25, ht24⟩ | ⟨c25, ht24⟩
 · refine T.condT rfl (c25) ?_
   refine T.region ?_
   refine TL.op1 (OpR.loadPtr 2 rfl rfl rfl rfl) rfl ?_
   refine TL.op1 (OpR.build rfl rfl rfl rfl rfl) rfl ?_
   obtain ⟨x26, hx26, ht24⟩ := bS ht24
   refine TL.op1 (OpR.call0 fn140 (ref08_Set_c hx26) rfl) rfl ?_
   iterate 3 refine aA rfl rfl ?_
   refine TL.op0 (OpR.store 2 rfl rfl rfl rfl rfl rfl rfl rfl) ?_
   refine TL.nil ?_
   obtain rfl := osi ht24
   exact ⟨_, Gst.only [1, 2, 4, 5, 7, 9, 29, 30, 31] rfl, rfl⟩
 refine T.condF rfl (eq_false_of_ne_true c25) ?_
 refine aS ?_
 refine aA rfl rfl ?_
 refine TL.op1 (OpR.loadPtr 2 rfl rfl rfl rfl) rfl ?_
 refine TL.op1 (OpR.cast (OpR.pure rfl) (intE (lenM _ _))) rfl ?_
 iterate 2 refine aA rfl rfl ?_
 refine aN rfl ?_
 rcases ite_some ht24 with ⟨c27, ht24⟩ | ⟨c27, ht24⟩
 rotate_left
 · refine T.condF rfl (eF c27) ?_
   refine T.skip ?_
   obtain rfl := osi ht24
   exact ⟨_, Gst.only [1, 2, 4, 5, 7, 9, 29, 30, 31] rfl, rfl⟩
 refine T.condT rfl (eT c27) ?_
 refine T.region ?_
 refine TL.op1 (OpR.loadPtr 2 rfl rfl rfl rfl) rfl ?_
 refine aA rfl rfl ?_
 obtain ⟨x28, hx28, ht24⟩ := bS ht24
 refine TL.op1 (OpR.call0 fn141 (ref08_Delete_c hx28) rfl) rfl ?_
 iterate 3 refine aA rfl rfl ?_
 refine TL.op0 (OpR.store 2 rfl rfl rfl rfl rfl rfl rfl rfl) ?_
 refine TL.nil ?_
 obtain rfl := osi ht24
 exact ⟨_, Gst.only [1, 2, 4, 5, 7, 9, 29, 30, 31] rfl, rfl⟩
noncomputable def row_Row_Pad.l1 (a1 : Int) (s7 : (List cell_Cell)) : Option (Lp (List cell_Cell) (List cell_Cell)) :=
  if (s7.length : Int) < (if 40 < a1 then 40 else a1) then
    bnd (app 56 s7 [(⟨(⟨[], 0⟩ : piece_Text), (⟨0, 0⟩ : arena_Span), false⟩ : cell_Cell)]) fun x16 =>
    some (Lp.next x16)
  else
    some (Lp.done s7)
noncomputable def row_Row_Pad (a0 : row_Row) (a1 : Int) : Option row_Row :=
  bnd (slices_Clone_cell_Cell_cell_Cell a0.fCells) fun x2 =>
  bnd (loop (row_Row_Pad.l1 a1) x2 : Option (List cell_Cell)) fun t4 =>
  bnd (row_Row_with a0 t4) fun x18 =>
  some (⟨t4, x18.1, x18.2⟩ : row_Row)
theorem row_Row_Pad_c {a0 : row_Row} {a1 : Int} {res : row_Row} (h0 : row_Row_Pad a0 a1 = some res) : CallF X 90 [.agg [.sl 5 (List.map e_cell_Cell a0.fCells), dN a0.fEnd, dT a0.fHidden], dN a1] [] (fun x => .agg [.sl 5 (List.map e_cell_Cell res.fCells), dN res.fEnd, dT res.fHidden]) (fun x => []) := by
 unfold row_Row_Pad at h0
 refine CallF.mkG (X := X) rfl Tryz.func90 rfl rfl Tryz.ntmps90 rfl rfl ?_
 refine aS ?_
 refine TL.op1 (OpR.boxImm rfl rfl) rfl ?_
 refine TL.op (OpR.alloc rfl rfl (fun _ => rfl)) rfl (fun p1 => ?_)
 refine aN rfl ?_
 refine aS ?_
 iterate 3 refine aA rfl rfl ?_
 refine aN rfl ?_
 refine aS ?_
 iterate 2 refine aA rfl rfl ?_
 obtain ⟨x2, hx2, h0⟩ := bS h0
 refine TL.op (OpR.call [] fn163 (slices_Clone_cell_Cell_cell_Cell_c hx2) rfl rfl rfl (fun _ => rfl)) rfl (fun w3 => ?_)
 refine aA rfl rfl ?_
 refine aN rfl ?_
 refine T.seq ?_
 obtain ⟨t4, ht4, h0⟩ := bS h0
 refine T.cutC (fun S' => ∃ y5 : Value, S' = ⟨[(5, .val y5), (4, (dP (blk p1))), (2, .nod [.sl 5 (List.map e_cell_Cell a0.fCells), dN a0.fEnd, dT a0.fHidden])], [.var (blk p1) [.val (.slice none 0 0), dN 0, dT false] 49, .row y5 (List.map e_cell_Cell t4) 5 144], 22⟩) (fun _ h => h) ?_ ?_
 rotate_left
 · rintro _ ⟨y5, rfl⟩
   show T X _ _ _
   refine aS ?_
   iterate 2 refine aA rfl rfl ?_
   obtain ⟨x18, hx18, h0⟩ := bS h0
   refine TL.op1 (OpR.call [1] fn155 (row_Row_with_c hx18) rfl rfl rfl (fun _ => rfl)) rfl ?_
   refine TL.op0 (OpR.store 0 rfl rfl rfl rfl rfl rfl rfl rfl) ?_
   refine aN rfl ?_
   refine T.ret ?_
   obtain rfl := osi h0
   exact PostG.retP (ks := []) (Gst.trans (Gst.only [4] rfl) (Gst.trans (Gst.freezeRow 1 rfl rfl (ReS.cons Re.refl ReS.nil) (ReO.var (ReL.cons (Re.base .all) (ReL.cons Re.refl (ReL.cons Re.refl ReL.nil))) (ReO.same ReO.nil))) (Gst.pick [0] rfl rfl))) undef (cV 0 rfl rfl rfl rfl ResL.nil) rfl rfl rfl rfl
 refine T.block ?_
 obtain ⟨n8, n13⟩ := loop_some ht4
 refine T.loop (fun n S' => ∃ S'', Gst S' S'' ∧ ∃ y6 : Value, ∃ s7 : (List cell_Cell), S'' = ⟨[(5, .val y6), (4, (dP (blk p1))), (2, .nod [.sl 5 (List.map e_cell_Cell a0.fCells), dN a0.fEnd, dT a0.fHidden]), (1, (dN (if 40 < a1 then 40 else a1)))], [.var (blk p1) [.val (.slice none 0 0), dN 0, dT false] 49, .row y6 (List.map e_cell_Cell s7) 5 144], 22⟩ ∧ iter (row_Row_Pad.l1 a1) n s7 = some t4) n8 ?_ ?_
 · exact ⟨_, Gst.only [1, 2, 4, 5] rfl, (vn w3 0), x2, rfl, n13⟩
 rintro n8 _ ⟨_, g, y6, s7, rfl, i12⟩
 refine T.ghost g ?_
 obtain ⟨m9, q10, rfl, q11, i12⟩ := iter_succ i12
 unfold row_Row_Pad.l1 at q11
 refine T.seq ?_
 refine aS ?_
 refine aA rfl rfl ?_
 refine TL.op1 (OpR.rowLenM e_cell_Cell 1 rfl rfl rfl rfl) rfl ?_
 iterate 2 refine aA rfl rfl ?_
 refine aN rfl ?_
 rcases ite_some q11 with ⟨c15, q11⟩ | ⟨c15, q11⟩
 rotate_left
 · refine T.condF rfl (eF c15) ?_
   refine T.exit ?_
   obtain rfl := osi q11
   obtain rfl : _ = _ := i12
   exact ⟨_, Gst.only [2, 4, 5] rfl, y6, rfl⟩
 refine T.condT rfl (eT c15) ?_
 refine aK rfl ?_
 refine T.block ?_
 refine T.region ?_
 refine aA rfl rfl ?_
 refine TL.op1 (OpR.wk (d' := fun _ => .agg [.sl 2 (List.map e_arena_Span []), dN 0, dN 0, dN 0, dT false]) (OpR.build rfl rfl rfl rfl rfl) (fun _ => Re.agg (ReL.cons (Re.base .nil) (ReL.cons Re.refl (ReL.cons Re.refl (ReL.cons Re.refl (ReL.cons Re.refl ReL.nil))))) (fun _ _ h => by cases h; exact ⟨_, rfl⟩))) rfl ?_
 refine TL.op1 (OpR.lit rfl rfl rfl rfl rfl rfl rfl) rfl ?_
 obtain ⟨x16, hx16, q11⟩ := bS q11
 refine TL.op (OpR.appendM (m := [(⟨(⟨[], 0⟩ : piece_Text), (⟨0, 0⟩ : arena_Span), false⟩ : cell_Cell)]) e_cell_Cell 1 hx16 rfl rfl rfl rfl rfl rfl rfl rfl rfl (fun _ => rfl)) rfl (fun v17 => ?_)
 refine aA rfl rfl ?_
 refine TL.nil ?_
 obtain rfl := osi q11
 exact ⟨m9, Nat.lt_succ_self _, _, Gst.only [1, 2, 4, 5] rfl, v17, x16, rfl, i12⟩
noncomputable def row_Row_Move.l1 (a2 : Int) (t9 : Int) (s12 : Int × (List cell_Cell)) : Option (Lp (Int × (List cell_Cell)) (List cell_Cell)) :=
  if s12.1 = a2 then
    some (Lp.done s12.2)
  else
    bnd (idx s12.2 (w64 (s12.1 + t9))) fun x22 =>
    bnd (idx s12.2 s12.1) fun x23 =>
    bnd (idx (s12.2.set s12.1.toNat x22) (w64 (s12.1 + t9))) fun x24 =>
    some (Lp.next (w64 (s12.1 + t9), ((s12.2.set s12.1.toNat x22).set (w64 (s12.1 + t9)).toNat x23)))
noncomputable def row_Row_Move (a0 : row_Row) (a1 : Int) (a2 : Int) : Option (row_Row × Int) :=
  bnd (bnd (row_Row_has a0 a1) fun x3 =>
  if x3 = true then
    bnd (row_Row_has a0 a2) fun x5 =>
    some (!x5)
  else
    some true : Option Bool) fun t2 =>
  if t2 = true then
    some ((⟨[], 0, false⟩ : row_Row), 5)
  else
    bnd (slices_Clone_cell_Cell_cell_Cell a0.fCells) fun x7 =>
    bnd (if a2 < a1 then
      some (-1)
    else
      some 1 : Option Int) fun t9 =>
    bnd (loop (row_Row_Move.l1 a2 t9) (a1, x7) : Option (List cell_Cell)) fun t11 =>
    bnd (row_Row_with a0 t11) fun x25 =>
    some ((⟨t11, x25.1, x25.2⟩ : row_Row), 0)
theorem row_Row_Move_c {a0 : row_Row} {a1 : Int} {a2 : Int} {res : row_Row × Int} (h0 : row_Row_Move a0 a1 a2 = some res) : CallF X 91 [.agg [.sl 5 (List.map e_cell_Cell a0.fCells), dN a0.fEnd, dT a0.fHidden], dN a1, dN a2] [] (fun x => .tup [.agg [.sl 5 (List.map e_cell_Cell res.1.fCells), dN res.1.fEnd, dT res.1.fHidden], dN res.2]) (fun x => []) := by
 unfold row_Row_Move at h0
 refine CallF.mkG (X := X) rfl Tryz.func91 rfl rfl Tryz.ntmps91 rfl rfl ?_
 refine aS ?_
 refine TL.op1 (OpR.boxImm rfl rfl) rfl ?_
 refine TL.op (OpR.alloc rfl rfl (fun _ => rfl)) rfl (fun p1 => ?_)
 refine aA rfl rfl ?_
 refine aN rfl ?_
 refine T.seq ?_
 refine T.seq ?_
 obtain ⟨t2, ht2, h0⟩ := bS h0
 refine T.cutC (fun S' => S' = ⟨[(19, (dT t2)), (7, (dN 0)), (6, (dP (blk p1))), (3, .nod [.sl 5 (List.map e_cell_Cell a0.fCells), dN a0.fEnd, dT a0.fHidden]), (2, (dN a2)), (1, (dN a1))], [.var (blk p1) [.val (.slice none 0 0), dN 0, dT false] 49], 54⟩) (fun _ h => h) ?_ ?_
 · refine T.region ?_
   iterate 2 refine aA rfl rfl ?_
   obtain ⟨x3, hx3, ht2⟩ := bS ht2
   refine TL.op1 (OpR.call0 fn158 (row_Row_has_c hx3) rfl) rfl ?_
   iterate 2 refine aA rfl rfl ?_
   rcases ite_some ht2 with ⟨c4, ht2⟩ | ⟨c4, ht2⟩
   rotate_left
   · refine TL.off rfl rfl rfl rfl (not_f (eq_false_of_ne_true c4)) rfl rfl ?_
     refine TL.off rfl rfl rfl rfl (not_f (eq_false_of_ne_true c4)) rfl rfl ?_
     refine TL.off rfl rfl rfl rfl (not_f (eq_false_of_ne_true c4)) rfl rfl ?_
     refine TL.off rfl rfl rfl rfl (not_f (eq_false_of_ne_true c4)) rfl rfl ?_
     refine TL.op1 (OpR.pickT rfl (not_f (eq_false_of_ne_true c4)) rfl) rfl ?_
     refine TL.nil ?_
     obtain rfl := osi ht2
     exact ⟨_, Gst.only [1, 2, 3, 6, 7, 19] rfl, rfl⟩
   refine TL.on rfl rfl rfl rfl (not_t (c4)) ?_
   refine aA rfl rfl ?_
   refine TL.on rfl rfl rfl rfl (not_t (c4)) ?_
   refine aA rfl rfl ?_
   refine TL.on rfl rfl rfl rfl (not_t (c4)) ?_
   obtain ⟨x5, hx5, ht2⟩ := bS ht2
   refine TL.op1 (OpR.call0 fn158 (row_Row_has_c hx5) rfl) rfl ?_
   refine TL.on rfl rfl rfl rfl (not_t (c4)) ?_
   refine aA rfl rfl ?_
   refine TL.op1 (OpR.pickF rfl (not_t (c4)) rfl) rfl ?_
   refine TL.nil ?_
   obtain rfl := osi ht2
   exact ⟨_, Gst.only [1, 2, 3, 6, 7, 19] rfl, rfl⟩
 rintro _ rfl
 show T X _ _ _
 rcases ite_some h0 with ⟨c6, h0⟩ | ⟨c6, h0⟩
 · refine T.condT rfl (c6) ?_
   refine aS ?_
   refine TL.op1 (OpR.build rfl rfl rfl rfl rfl) rfl ?_
   refine TL.op0 (OpR.store 0 rfl rfl rfl rfl rfl rfl rfl rfl) ?_
   refine aA rfl rfl ?_
   refine aN rfl ?_
   refine T.ret ?_
   obtain rfl := osi h0
   exact PostG.retP (ks := []) (Gst.trans (Gst.only [6, 7] rfl) (Gst.denil (ReS.cons Re.refl (ReS.cons Re.refl ReS.nil)) (ReO.var (ReL.cons (Re.base .nil) (ReL.cons Re.refl (ReL.cons Re.refl ReL.nil))) ReO.nil))) undef (cV 0 rfl rfl rfl rfl (cT rfl ResL.nil)) rfl rfl rfl rfl
 refine T.condF rfl (eq_false_of_ne_true c6) ?_
 refine aK rfl ?_
 refine aS ?_
 iterate 2 refine aA rfl rfl ?_
 obtain ⟨x7, hx7, h0⟩ := bS h0
 refine TL.op (OpR.call [] fn163 (slices_Clone_cell_Cell_cell_Cell_c hx7) rfl rfl rfl (fun _ => rfl)) rfl (fun w8 => ?_)
 refine aA rfl rfl ?_
 refine aN rfl ?_
 refine aS ?_
 refine aA rfl rfl ?_
 refine aN rfl ?_
 refine T.seq ?_
 refine aS ?_
 iterate 3 refine aA rfl rfl ?_
 refine aN rfl ?_
 obtain ⟨t9, ht9, h0⟩ := bS h0
 refine T.cutC (fun S' => S' = ⟨[(9, (dN t9)), (8, .val (vn w8 0)), (7, (dN 0)), (6, (dP (blk p1))), (3, .nod [.sl 5 (List.map e_cell_Cell a0.fCells), dN a0.fEnd, dT a0.fHidden]), (2, (dN a2)), (1, (dN a1))], [.var (blk p1) [.val (.slice none 0 0), dN 0, dT false] 49, .row (vn w8 0) (List.map e_cell_Cell x7) 5 144], 54⟩) (fun _ h => h) ?_ ?_
 · rcases ite_some ht9 with ⟨c10, ht9⟩ | ⟨c10, ht9⟩
   rotate_left
   · refine T.condF rfl (eF c10) ?_
     refine T.skip ?_
     obtain rfl := osi ht9
     exact ⟨_, Gst.only [1, 2, 3, 6, 7, 8, 9] rfl, rfl⟩
   refine T.condT rfl (eT c10) ?_
   refine T.region ?_
   refine aA rfl rfl ?_
   refine TL.nil ?_
   obtain rfl := osi ht9
   exact ⟨_, Gst.only [1, 2, 3, 6, 7, 8, 9] rfl, rfl⟩
 rintro _ rfl
 show T X _ _ _
 refine T.seq ?_
 obtain ⟨t11, ht11, h0⟩ := bS h0
 refine T.cutC (fun S' => S' = ⟨[(8, .val (vn w8 0)), (7, (dN 0)), (6, (dP (blk p1))), (3, .nod [.sl 5 (List.map e_cell_Cell a0.fCells), dN a0.fEnd, dT a0.fHidden])], [.var (blk p1) [.val (.slice none 0 0), dN 0, dT false] 49, .row (vn w8 0) (List.map e_cell_Cell t11) 5 144], 54⟩) (fun _ h => h) ?_ ?_
 rotate_left
 · rintro _ rfl
   show T X _ _ _
   refine aS ?_
   iterate 2 refine aA rfl rfl ?_
   obtain ⟨x25, hx25, h0⟩ := bS h0
   refine TL.op1 (OpR.call [1] fn155 (row_Row_with_c hx25) rfl rfl rfl (fun _ => rfl)) rfl ?_
   refine TL.op0 (OpR.store 0 rfl rfl rfl rfl rfl rfl rfl rfl) ?_
   refine aA rfl rfl ?_
   refine aN rfl ?_
   refine T.ret ?_
   obtain rfl := osi h0
   exact PostG.retP (ks := []) (Gst.trans (Gst.only [6, 7] rfl) (Gst.trans (Gst.freezeRow 1 rfl rfl (ReS.cons Re.refl (ReS.cons Re.refl ReS.nil)) (ReO.var (ReL.cons (Re.base .all) (ReL.cons Re.refl (ReL.cons Re.refl ReL.nil))) (ReO.same ReO.nil))) (Gst.pick [0] rfl rfl))) undef (cV 0 rfl rfl rfl rfl (cT rfl ResL.nil)) rfl rfl rfl rfl
 refine T.block ?_
 obtain ⟨n13, n18⟩ := loop_some ht11
 refine T.loop (fun n S' => ∃ S'', Gst S' S'' ∧ ∃ s12 : Int × (List cell_Cell), S'' = ⟨[(9, (dN t9)), (8, .val (vn w8 0)), (7, (dN 0)), (6, (dP (blk p1))), (3, .nod [.sl 5 (List.map e_cell_Cell a0.fCells), dN a0.fEnd, dT a0.fHidden]), (2, (dN a2)), (1, (dN s12.1))], [.var (blk p1) [.val (.slice none 0 0), dN 0, dT false] 49, .row (vn w8 0) (List.map e_cell_Cell s12.2) 5 144], 54⟩ ∧ iter (row_Row_Move.l1 a2 t9) n s12 = some t11) n13 ?_ ?_
 · exact ⟨_, Gst.only [1, 2, 3, 6, 7, 8, 9] rfl, (a1, x7), rfl, n18⟩
 rintro n13 _ ⟨_, g, s12, rfl, i17⟩
 refine T.ghost g ?_
 obtain ⟨m14, q15, rfl, q16, i17⟩ := iter_succ i17
 unfold row_Row_Move.l1 at q16
 refine T.seq ?_
 refine aS ?_
 iterate 3 refine aA rfl rfl ?_
 refine aN rfl ?_
 rcases ite_some q16 with ⟨c20, q16⟩ | ⟨c20, q16⟩
 · refine T.condF rfl (not_t (beq_iff_eq.2 c20)) ?_
   refine T.exit ?_
   obtain rfl := osi q16
   obtain rfl : _ = _ := i17
   exact ⟨_, Gst.only [3, 6, 7, 8] rfl, rfl⟩
 refine T.condT rfl (not_f (beq_eq_false_iff_ne.2 c20)) ?_
 refine aK rfl ?_
 refine T.seq ?_
 refine T.block ?_
 obtain ⟨x22, hx22, q16⟩ := bS q16
 obtain ⟨x23, hx23, q16⟩ := bS q16
 obtain ⟨x24, hx24, q16⟩ := bS q16
 refine T.drawS drawsX (fun env21 => [.val (vn w8 0), dN s12.1, .val (vn w8 0), dN s12.1, dN t9, dN (w64 (s12.1 + t9)), .val (vn w8 0), dN s12.1, dN t9, dN (w64 (s12.1 + t9)), .val (.pointer (some ⟨blk (vn w8 0), (w64 (s12.1 + t9)).toNat * 5, none⟩)), .agg [.sl 2 (List.map e_arena_Span x22.fText.fL), dN x22.fText.fN, dN x22.fRaw.fAt, dN x22.fRaw.fN, dT x22.fKept], .val (vn w8 0), dN s12.1, .val (.pointer (some ⟨blk (vn w8 0), s12.1.toNat * 5, none⟩)), .agg [.sl 2 (List.map e_arena_Span x23.fText.fL), dN x23.fText.fN, dN x23.fRaw.fAt, dN x23.fRaw.fN, dT x23.fKept], .val (.pointer (some ⟨blk (vn w8 0), s12.1.toNat * 5, none⟩)), .dead, .val (.pointer (some ⟨blk (vn w8 0), (w64 (s12.1 + t9)).toNat * 5, none⟩)), .dead]) (fun D env21 => [.var (blk p1) [.val (.slice none 0 0), dN 0, dT false] 49, (bif D 19 then .row (vn w8 0) (List.map e_cell_Cell ((s12.2.set s12.1.toNat x22).set (w64 (s12.1 + t9)).toNat x23)) 5 144 else bif D 17 then .row (vn w8 0) (List.map e_cell_Cell (s12.2.set s12.1.toNat x22)) 5 144 else .row (vn w8 0) (List.map e_cell_Cell s12.2) 5 144)]) [0, 0, 0, 0, 0, 24, 0, 0, 0, 384, 960, 1984, 0, 0, 12288, 28672, 65475, 131011, 262143, 524287] [1, 2, 3, 6, 7, 8, 9] _ (by decide +kernel) (by decide +kernel) (fun _ => rfl) (fun _ => rfl) ?_ (fun _ => rfl) (fun _ => rfl) ?_
 rotate_left
 · intro env21
   show T X _ _ _
   refine T.region ?_
   iterate 4 refine aA rfl rfl ?_
   refine TL.nil ?_
   obtain rfl := osi q16
   exact ⟨m14, Nat.lt_succ_self _, _, Gst.only [1, 2, 3, 6, 7, 8, 9] rfl, (w64 (s12.1 + t9), ((s12.2.set s12.1.toNat x22).set (w64 (s12.1 + t9)).toNat x23)), rfl, i17⟩
 iterate 10 refine aC ?_
 refine OpsS.cons' true ?_ (fun _ _ _ _ _ _ _ => rfl) ?_
 · intro D env21 hA
   have e17 : D 17 = false := hA.no 17 _ rfl rfl
   have e19 : D 19 = false := hA.no 19 _ rfl rfl
   exact OpS.yp [(17, false), (19, false)] ⟨e17, e19, trivial⟩ (Want.plain rfl) (OpR.rowIndexM e_cell_Cell 1 hx22 rfl rfl rfl rfl rfl rfl rfl) (fun x => rfl) (fun x => rfl)
 refine OpsS.cons' true ?_ (fun _ _ _ _ _ _ _ => rfl) ?_
 · intro D env21 hA
   have e17 : D 17 = false := hA.no 17 _ rfl rfl
   have e19 : D 19 = false := hA.no 19 _ rfl rfl
   exact OpS.yp [(17, false), (19, false)] ⟨e17, e19, trivial⟩ (Want.plain rfl) (OpR.rowLoad0M (j := w64 (s12.1 + t9)) e_cell_Cell 1 hx22 rfl rfl rfl rfl) (fun x => rfl) (fun x => rfl)
 iterate 2 refine aC ?_
 refine OpsS.cons' true ?_ (fun _ _ _ _ _ _ _ => rfl) ?_
 · intro D env21 hA
   have e17 : D 17 = false := hA.no 17 _ rfl rfl
   have e19 : D 19 = false := hA.no 19 _ rfl rfl
   exact OpS.yp [(17, false), (19, false)] ⟨e17, e19, trivial⟩ (Want.plain rfl) (OpR.rowIndexM e_cell_Cell 1 hx23 rfl rfl rfl rfl rfl rfl rfl) (fun x => rfl) (fun x => rfl)
 refine OpsS.cons' true ?_ (fun _ _ _ _ _ _ _ => rfl) ?_
 · intro D env21 hA
   have e17 : D 17 = false := hA.no 17 _ rfl rfl
   have e19 : D 19 = false := hA.no 19 _ rfl rfl
   exact OpS.yp [(17, false), (19, false)] ⟨e17, e19, trivial⟩ (Want.plain rfl) (OpR.rowLoad0M (j := s12.1) e_cell_Cell 1 hx23 rfl rfl rfl rfl) (fun x => rfl) (fun x => rfl)
 refine OpsS.cons' true ?_ (fun _ _ _ _ _ _ _ => rfl) ?_
 · intro D env21 hA
   have e17 : D 17 = false := hA.no 17 _ rfl rfl
   have e19 : D 19 = false := hA.no 19 _ rfl rfl
   exact OpS.yp [(17, false), (19, false)] ⟨e17, e19, trivial⟩ (Want.plain rfl) (OpR.rowIndexM e_cell_Cell 1 hx23 rfl rfl rfl rfl rfl rfl rfl) (fun x => rfl) (fun x => rfl)
 refine OpsS.cons' true ?_ (fun _ _ _ _ _ _ _ => rfl) ?_
 · intro D env21 hA
   have e19 : D 19 = false := hA.no 19 _ rfl rfl
   exact OpS.yp [(19, false), (17, false)] ⟨e19, hA.me, trivial⟩ (Want.plain rfl) (OpR.rowStore0M (j := s12.1) e_cell_Cell x22 1 hx23 rfl rfl rfl rfl rfl rfl rfl rfl rfl) (fun x => rfl) (fun x => rfl)
 refine OpsS.cons' true ?_ (fun _ _ _ _ _ _ _ => rfl) ?_
 · intro D env21 hA
   have e17 : D 17 = true := hA.yes 17 _ rfl rfl
   have e19 : D 19 = false := hA.no 19 _ rfl rfl
   exact OpS.yp [(17, true), (19, false)] ⟨e17, e19, trivial⟩ (Want.plain rfl) (OpR.rowIndexM e_cell_Cell 1 hx24 rfl rfl rfl rfl rfl rfl rfl) (fun x => rfl) (fun x => rfl)
 refine OpsS.cons' true ?_ (fun _ _ _ _ _ _ _ => rfl) ?_
 · intro D env21 hA
   have e17 : D 17 = true := hA.yes 17 _ rfl rfl
   exact OpS.yp [(17, true), (19, false)] ⟨e17, hA.me, trivial⟩ (Want.plain rfl) (OpR.rowStore0M (j := w64 (s12.1 + t9)) e_cell_Cell x23 1 hx24 rfl rfl rfl rfl rfl rfl rfl rfl rfl) (fun x => rfl) (fun x => rfl)
 exact trivial
noncomputable def cols_Move_1 (a0 : row_Row) (a1 : Int) (a2 : Int) (a3 : Int) (a4 : Int) : Option (row_Row × Int) :=
  bnd (row_Row_Len a0) fun x3 =>
  if x3 ≤ a1 then
    some (a0, 0)
  else
    bnd (row_Row_Pad a0 (w64 (a2 + 1))) fun x6 =>
    bnd (row_Row_Move x6 a3 a4) fun x7 =>
    some (x7.1, x7.2)
theorem cols_Move_1_c {a0 : row_Row} {a1 : Int} {a2 : Int} {a3 : Int} {a4 : Int} {b0 : Nat} {b1 : Nat} {b2 : Nat} {b3 : Nat} {res : row_Row × Int} (h0 : cols_Move_1 a0 a1 a2 a3 a4 = some res) : CallF X 89 [.agg [.sl 5 (List.map e_cell_Cell a0.fCells), dN a0.fEnd, dT a0.fHidden], dP b0, dP b1, dP b2, dP b3] [.var b0 [dN a1] 3, .var b1 [dN a2] 3, .var b2 [dN a3] 3, .var b3 [dN a4] 3] (fun x => .tup [.agg [.sl 5 (List.map e_cell_Cell res.1.fCells), dN res.1.fEnd, dT res.1.fHidden], dN res.2]) (fun x => [.var b0 [dN a1] 3, .var b1 [dN a2] 3, .var b2 [dN a3] 3, .var b3 [dN a4] 3]) := by
 unfold cols_Move_1 at h0
 refine CallF.mkG (X := X) rfl Tryz.func89 rfl rfl Tryz.ntmps89 rfl rfl ?_
 refine aS ?_
 refine TL.op1 (OpR.boxImm rfl rfl) rfl ?_
 refine TL.op (OpR.alloc rfl rfl (fun _ => rfl)) rfl (fun p1 => ?_)
 refine aA rfl rfl ?_
 refine aN rfl ?_
 refine T.seq ?_
 refine T.seq ?_
 obtain ⟨x3, hx3, h0⟩ := bS h0
 refine T.drawQ drawsX [.agg [.sl 5 (List.map e_cell_Cell a0.fCells), dN a0.fEnd, dT a0.fHidden], dN x3, dN a1, dT (decide (x3 ≤ a1))] [2, 3, 4, 5, 6, 7, 11] (by decide +kernel) rfl ?_ rfl ?_
 · refine aB rfl rfl rfl ?_
   refine OpsQ.yes (Want.plain rfl) rfl (OpR.call0 fn25 (row_Row_Len_c hx3) rfl) ?_
   refine OpsQ.yes (Want.plain rfl) rfl (OpR.loadPtr 0 rfl rfl rfl rfl) ?_
   refine aB rfl rfl rfl ?_
   exact OpsQ.nil
 show T X _ _ _
 rcases ite_some h0 with ⟨c4, h0⟩ | ⟨c4, h0⟩
 · refine T.condT rfl (eT c4) ?_
   refine aS ?_
   refine aA rfl rfl ?_
   refine TL.op0 (OpR.store 4 rfl rfl rfl rfl rfl rfl rfl rfl) ?_
   refine aA rfl rfl ?_
   refine aN rfl ?_
   refine T.ret ?_
   obtain rfl := osi h0
   exact rO [0, 1, 2, 3] [6, 7] rfl undef (cV 4 rfl rfl rfl rfl (cT rfl ResL.nil)) rfl rfl rfl rfl
 refine T.condF rfl (eF c4) ?_
 refine aK rfl ?_
 refine T.seq ?_
 obtain ⟨x6, hx6, h0⟩ := bS h0
 obtain ⟨x7, hx7, h0⟩ := bS h0
 refine T.drawS drawsX (fun env5 => [.agg [.sl 5 (List.map e_cell_Cell a0.fCells), dN a0.fEnd, dT a0.fHidden], dN a2, dN (w64 (a2 + 1)), .agg [.sl 5 (List.map e_cell_Cell x6.fCells), dN x6.fEnd, dT x6.fHidden], dN a3, dN a4, .tup [.agg [.sl 5 (List.map e_cell_Cell x7.1.fCells), dN x7.1.fEnd, dT x7.1.fHidden], dN x7.2], .agg [.sl 5 (List.map e_cell_Cell x7.1.fCells), dN x7.1.fEnd, dT x7.1.fHidden], dN x7.2, .dead, dN x7.2]) (fun D env5 => [.var b0 [dN a1] 3, .var b1 [dN a2] 3, .var b2 [dN a3] 3, .var b3 [dN a4] 3, (bif D 9 then .var (blk p1) [.sl 5 (List.map e_cell_Cell x7.1.fCells), dN x7.1.fEnd, dT x7.1.fHidden] 49 else .var (blk p1) [.val (.slice none 0 0), dN 0, dT false] 49)]) [0, 0, 2, 7, 0, 0, 63, 127, 127, 511, 1023] [6, 7] _ (by decide +kernel) (by decide +kernel) (fun _ => rfl) (fun _ => rfl) ?_ (fun _ => rfl) (fun _ => rfl) ?_
 rotate_left
 · intro env5
   show T X _ _ _
   refine T.ret ?_
   obtain rfl := osi h0
   exact rO [0, 1, 2, 3] [6, 7] rfl undef (cV 4 rfl rfl rfl rfl (cT rfl ResL.nil)) rfl rfl rfl rfl
 refine aC ?_
 refine oT ((dN a2)) (fun _ _ => OpR.loadPtr 1 rfl rfl rfl rfl) ?_
 refine aC ?_
 refine oT (.agg [.sl 5 (List.map e_cell_Cell x6.fCells), dN x6.fEnd, dT x6.fHidden]) (fun _ _ => OpR.call0 fn90 (row_Row_Pad_c hx6) rfl) ?_
 refine oT ((dN a3)) (fun _ _ => OpR.loadPtr 2 rfl rfl rfl rfl) ?_
 refine oT ((dN a4)) (fun _ _ => OpR.loadPtr 3 rfl rfl rfl rfl) ?_
 refine oT (.tup [.agg [.sl 5 (List.map e_cell_Cell x7.1.fCells), dN x7.1.fEnd, dT x7.1.fHidden], dN x7.2]) (fun _ _ => OpR.call0 fn91 (row_Row_Move_c hx7) rfl) ?_
 iterate 2 refine aC ?_
 refine OpsS.cons' true ?_ (fun _ _ _ _ _ _ _ => rfl) ?_
 · intro D env5 hA
   exact OpS.yp [(9, false)] ⟨hA.me, trivial⟩ (Want.plain rfl) (OpR.store 4 rfl rfl rfl rfl rfl rfl rfl rfl) (fun x => rfl) (fun x => rfl)
 refine aC ?_
 exact trivial
noncomputable def cols_each_1_3 (a0 : Int) (a1 : row_Row) (a2 : Int) (a3 : Int) (a4 : Int) (a5 : Int) (a6 : Int) : Option (row_Row × Int) :=
  bnd (cols_Move_1 a1 a3 a4 a5 a6) fun x2 =>
  bnd (if x2.2 = 0 then
    some false
  else
    some (a2 == 0) : Option Bool) fun t4 =>
  bnd (if t4 = true then
    some x2.2
  else
    some a2 : Option Int) fun t6 =>
  some (x2.1, t6)
theorem cols_each_1_3_c {a0 : Int} {a1 : row_Row} {a2 : Int} {a3 : Int} {a4 : Int} {a5 : Int} {a6 : Int} {b0 : Nat} {b1 : Nat} {b2 : Nat} {b3 : Nat} {b4 : Nat} {b5 : Nat} {res : row_Row × Int} (h0 : cols_each_1_3 a0 a1 a2 a3 a4 a5 a6 = some res) : CallF X 154 [dN a0, .agg [.sl 5 (List.map e_cell_Cell a1.fCells), dN a1.fEnd, dT a1.fHidden], dP b0, dP b1] [.var b0 [.fn (.func 89) [] [dP b2, dP b3, dP b4, dP b5]] 145, .var b1 [dN a2] 53, .var b2 [dN a3] 3, .var b3 [dN a4] 3, .var b4 [dN a5] 3, .var b5 [dN a6] 3] (fun x => .agg [.sl 5 (List.map e_cell_Cell res.1.fCells), dN res.1.fEnd, dT res.1.fHidden]) (fun x => [.var b0 [.fn (.func 89) [] [dP b2, dP b3, dP b4, dP b5]] 145, .var b1 [dN res.2] 53, .var b2 [dN a3] 3, .var b3 [dN a4] 3, .var b4 [dN a5] 3, .var b5 [dN a6] 3]) := by
 unfold cols_each_1_3 at h0
 refine CallF.mkG (X := X) rfl Tryz.func154 rfl rfl Tryz.ntmps154 rfl rfl ?_
 refine aS ?_
 refine TL.op1 (OpR.boxImm rfl rfl) rfl ?_
 refine TL.op (OpR.alloc rfl rfl (fun _ => rfl)) rfl (fun p1 => ?_)
 refine aN rfl ?_
 refine aS ?_
 refine TL.op1 (OpR.loadPtr 0 rfl rfl rfl rfl) rfl ?_
 refine aA rfl rfl ?_
 obtain ⟨x2, hx2, h0⟩ := bS h0
 refine TL.op1 (OpR.callV [2, 3, 4, 5] rfl fn89 (cols_Move_1_c hx2) rfl rfl rfl (fun _ => rfl)) rfl ?_
 iterate 3 refine aA rfl rfl ?_
 refine TL.op (OpR.alloc rfl rfl (fun _ => rfl)) rfl (fun p3 => ?_)
 refine TL.op0 (OpR.store 7 rfl rfl rfl rfl rfl rfl rfl rfl) ?_
 refine aA rfl rfl ?_
 refine aN rfl ?_
 refine T.seq ?_
 refine T.seq ?_
 obtain ⟨t4, ht4, h0⟩ := bS h0
 refine T.cutC (fun S' => S' = ⟨[(20, (dT t4)), (8, (dN x2.2)), (7, (dP (blk p3))), (6, (dP (blk p1))), (3, (dP b1))], [.var b0 [.fn (.func 89) [] [dP b2, dP b3, dP b4, dP b5]] 145, .var b1 [dN a2] 53, .var b2 [dN a3] 3, .var b3 [dN a4] 3, .var b4 [dN a5] 3, .var b5 [dN a6] 3, .var (blk p1) [.val (.slice none 0 0), dN 0, dT false] 49, .var (blk p3) [.sl 5 (List.map e_cell_Cell x2.1.fCells), dN x2.1.fEnd, dT x2.1.fHidden] 49], 23⟩) (fun _ h => h) ?_ ?_
 · refine T.region ?_
   iterate 3 refine aA rfl rfl ?_
   rcases ite_some ht4 with ⟨c5, ht4⟩ | ⟨c5, ht4⟩
   · refine TL.off rfl rfl rfl rfl (not_t (beq_iff_eq.2 c5)) rfl rfl ?_
     refine TL.off rfl rfl rfl rfl (not_t (beq_iff_eq.2 c5)) rfl rfl ?_
     refine TL.op1 (OpR.pickF rfl (not_t (beq_iff_eq.2 c5)) rfl) rfl ?_
     refine TL.nil ?_
     obtain rfl := osi ht4
     exact ⟨_, Gst.only [3, 6, 7, 8, 20] rfl, rfl⟩
   refine TL.on rfl rfl rfl rfl (not_f (beq_eq_false_iff_ne.2 c5)) ?_
   refine TL.op1 (OpR.loadPtr 1 rfl rfl rfl rfl) rfl ?_
   refine TL.on rfl rfl rfl rfl (not_f (beq_eq_false_iff_ne.2 c5)) ?_
   refine aA rfl rfl ?_
   refine TL.op1 (OpR.pickT rfl (not_f (beq_eq_false_iff_ne.2 c5)) rfl) rfl ?_
   refine TL.nil ?_
   obtain rfl := osi ht4
   exact ⟨_, Gst.only [3, 6, 7, 8, 20] rfl, rfl⟩
 rintro _ rfl
 show T X _ _ _
 obtain ⟨t6, ht6, h0⟩ := bS h0
 refine T.cutC (fun S' => S' = ⟨[(7, (dP (blk p3))), (6, (dP (blk p1)))], [.var b0 [.fn (.func 89) [] [dP b2, dP b3, dP b4, dP b5]] 145, .var b1 [dN t6] 53, .var b2 [dN a3] 3, .var b3 [dN a4] 3, .var b4 [dN a5] 3, .var b5 [dN a6] 3, .var (blk p1) [.val (.slice none 0 0), dN 0, dT false] 49, .var (blk p3) [.sl 5 (List.map e_cell_Cell x2.1.fCells), dN x2.1.fEnd, dT x2.1.fHidden] 49], 23⟩) (fun _ h => h) ?_ ?_
 · rcases ite_some ht6 with ⟨c7, ht6⟩ | ⟨c7, ht6⟩
   rotate_left
   · refine T.condF rfl (eq_false_of_ne_true c7) ?_
     refine T.skip ?_
     obtain rfl := osi ht6
     exact ⟨_, Gst.only [6, 7] rfl, rfl⟩
   refine T.condT rfl (c7) ?_
   refine T.region ?_
   refine aA rfl rfl ?_
   refine TL.op0 (OpR.store 1 rfl rfl rfl rfl rfl rfl rfl rfl) ?_
   refine TL.nil ?_
   obtain rfl := osi ht6
   exact ⟨_, Gst.only [6, 7] rfl, rfl⟩
 rintro _ rfl
 show T X _ _ _
 refine aS ?_
 refine TL.op1 (OpR.loadPtr 7 rfl rfl rfl rfl) rfl ?_
 refine TL.op0 (OpR.store 6 rfl rfl rfl rfl rfl rfl rfl rfl) ?_
 refine aN rfl ?_
 refine T.ret ?_
 obtain rfl := osi h0
 exact rP [0, 1, 2, 3, 4, 5] [6] [0, 1, 2, 3, 4, 5, 6] rfl rfl rfl undef (cV 6 rfl rfl rfl rfl ResL.nil) rfl rfl rfl rfl
noncomputable def walk_Map_row_Row_4.l1 (a2 : Int) (a3 : Int) (a4 : Int) (a5 : Int) (x3 : (List row_Row)) (s6 : Int × Int × (List row_Row)) : Option (Lp (Int × Int × (List row_Row)) (Int × (List row_Row))) :=
  if s6.1 < (x3.length : Int) then
    bnd (idx s6.2.2 s6.1) fun x15 =>
    bnd (cols_each_1_3 s6.1 x15 s6.2.1 a2 a3 a4 a5) fun x17 =>
    some (Lp.next (w64 (s6.1 + 1), x17.2, (s6.2.2.set s6.1.toNat x17.1)))
  else
    some (Lp.done (s6.2.1, s6.2.2))
noncomputable def walk_Map_row_Row_4 (a0 : tTr) (a1 : Int) (a2 : Int) (a3 : Int) (a4 : Int) (a5 : Int) : Option (tTr × Int) :=
  bnd (walk_All_row_Row a0) fun x2 =>
  bnd (slices_Clone_row_Row_row_Row x2) fun x3 =>
  bnd (loop (walk_Map_row_Row_4.l1 a2 a3 a4 a5 x3) (0, a1, x3) : Option (Int × (List row_Row))) fun t5 =>
  bnd (tree_Of_row_Row t5.2) fun x18 =>
  some (x18, t5.1)
theorem walk_Map_row_Row_4_c {a0 : tTr} {a1 : Int} {a2 : Int} {a3 : Int} {a4 : Int} {a5 : Int} {b0 : Nat} {b1 : Nat} {b2 : Nat} {b3 : Nat} {b4 : Nat} {b5 : Nat} {res : tTr × Int} (h0 : walk_Map_row_Row_4 a0 a1 a2 a3 a4 a5 = some res) : CallF X 137 [.agg [(eOP a0.fRoot)], .fn (.func 154) [] [dP b0, dP b1]] [.var b0 [.fn (.func 89) [] [dP b2, dP b3, dP b4, dP b5]] 145, .var b1 [dN a1] 53, .var b2 [dN a2] 3, .var b3 [dN a3] 3, .var b4 [dN a4] 3, .var b5 [dN a5] 3] (fun x => .agg [(eOP res.1.fRoot)]) (fun x => [.var b0 [.fn (.func 89) [] [dP b2, dP b3, dP b4, dP b5]] 145, .var b1 [dN res.2] 53, .var b2 [dN a2] 3, .var b3 [dN a3] 3, .var b4 [dN a4] 3, .var b5 [dN a5] 3]) := by
 unfold walk_Map_row_Row_4 at h0
 refine CallF.mkG (X := X) rfl Tryz.func137 rfl rfl Tryz.ntmps137 rfl rfl ?_
 refine aS ?_
 refine TL.op1 (OpR.boxImm rfl rfl) rfl ?_
 refine TL.op (OpR.alloc rfl rfl (fun _ => rfl)) rfl (fun p1 => ?_)
 refine aN rfl ?_
 refine aS ?_
 refine aA rfl rfl ?_
 obtain ⟨x2, hx2, h0⟩ := bS h0
 refine TL.op1 (OpR.call0 fn100 (walk_All_row_Row_c hx2) rfl) rfl ?_
 obtain ⟨x3, hx3, h0⟩ := bS h0
 refine TL.op (OpR.call [] fn191 (slices_Clone_row_Row_row_Row_c hx3) rfl rfl rfl (fun _ => rfl)) rfl (fun w4 => ?_)
 refine aA rfl rfl ?_
 refine aN rfl ?_
 refine T.seq ?_
 refine aS ?_
 refine aA rfl rfl ?_
 refine TL.op1 (OpR.rowLenM e_row_Row 7 rfl rfl rfl rfl) rfl ?_
 refine aA rfl rfl ?_
 refine aN rfl ?_
 obtain ⟨t5, ht5, h0⟩ := bS h0
 refine T.cutC (fun S' => S' = ⟨[(5, .val (vn w4 0)), (4, (dP (blk p1)))], [.var b0 [.fn (.func 89) [] [dP b2, dP b3, dP b4, dP b5]] 145, .var b1 [dN t5.1] 53, .var b2 [dN a2] 3, .var b3 [dN a3] 3, .var b4 [dN a4] 3, .var b5 [dN a5] 3, .var (blk p1) [(eOP none)] 25, .row (vn w4 0) (List.map e_row_Row t5.2) 3 49], 28⟩) (fun _ h => h) ?_ ?_
 rotate_left
 · rintro _ rfl
   show T X _ _ _
   refine aS ?_
   refine aA rfl rfl ?_
   refine TL.ghost (Gst.freezeRow 7 rfl rfl (ReS.cons (Re.base .all) (ReS.refl _)) (ReO.same (ReO.same (ReO.same (ReO.same (ReO.same (ReO.same (ReO.same (ReO.same ReO.nil))))))))) ?_
   obtain ⟨x18, hx18, h0⟩ := bS h0
   refine TL.op1 (OpR.call0 fn101 (tree_Of_row_Row_c hx18) rfl) rfl ?_
   refine TL.op0 (OpR.store 6 rfl rfl rfl rfl rfl rfl rfl rfl) ?_
   refine aN rfl ?_
   refine T.ret ?_
   obtain rfl := osi h0
   exact rP [0, 1, 2, 3, 4, 5] [4] [0, 1, 2, 3, 4, 5, 6] rfl rfl rfl undef (cV 6 rfl rfl rfl rfl ResL.nil) rfl rfl rfl rfl
 refine T.block ?_
 obtain ⟨n7, n12⟩ := loop_some ht5
 refine T.loop (fun n S' => ∃ S'', Gst S' S'' ∧ ∃ s6 : Int × Int × (List row_Row), S'' = ⟨[(13, (dN s6.1)), (12, (dN (x3.length : Int))), (11, .val (vn w4 0)), (5, .val (vn w4 0)), (4, (dP (blk p1))), (1, .fn (.func 154) [] [dP b0, dP b1])], [.var b0 [.fn (.func 89) [] [dP b2, dP b3, dP b4, dP b5]] 145, .var b1 [dN s6.2.1] 53, .var b2 [dN a2] 3, .var b3 [dN a3] 3, .var b4 [dN a4] 3, .var b5 [dN a5] 3, .var (blk p1) [(eOP none)] 25, .row (vn w4 0) (List.map e_row_Row s6.2.2) 3 49], 28⟩ ∧ iter (walk_Map_row_Row_4.l1 a2 a3 a4 a5 x3) n s6 = some t5) n7 ?_ ?_
 · exact ⟨_, Gst.only [1, 4, 5, 11, 12, 13] rfl, (0, a1, x3), rfl, n12⟩
 rintro n7 _ ⟨_, g, s6, rfl, i11⟩
 refine T.ghost g ?_
 obtain ⟨m8, q9, rfl, q10, i11⟩ := iter_succ i11
 unfold walk_Map_row_Row_4.l1 at q10
 refine aS ?_
 refine aA rfl rfl ?_
 refine aN rfl ?_
 refine T.seq ?_
 rcases ite_some q10 with ⟨c14, q10⟩ | ⟨c14, q10⟩
 rotate_left
 · refine T.condF rfl (eF c14) ?_
   refine T.exit ?_
   obtain rfl := osi q10
   obtain rfl : _ = _ := i11
   exact ⟨_, Gst.only [4, 5] rfl, rfl⟩
 refine T.condT rfl (eT c14) ?_
 refine aK rfl ?_
 refine T.seq ?_
 refine T.block ?_
 refine aS ?_
 refine aA rfl rfl ?_
 obtain ⟨x15, hx15, q10⟩ := bS q10
 refine TL.op1 (OpR.rowIndexM e_row_Row 7 hx15 rfl rfl rfl rfl rfl rfl rfl) rfl ?_
 refine TL.op1 (OpR.rowLoad0M (j := s6.1) e_row_Row 7 hx15 rfl rfl rfl rfl) rfl ?_
 refine TL.op (OpR.alloc rfl rfl (fun _ => rfl)) rfl (fun p16 => ?_)
 refine aA rfl rfl ?_
 refine TL.op0 (OpR.store 8 rfl rfl rfl rfl rfl rfl rfl rfl) ?_
 refine aN rfl ?_
 refine T.region ?_
 iterate 4 refine aA rfl rfl ?_
 refine TL.op1 (OpR.loadPtr 8 rfl rfl rfl rfl) rfl ?_
 obtain ⟨x17, hx17, q10⟩ := bS q10
 refine TL.op1 (OpR.callV [0, 1, 2, 3, 4, 5] rfl fn154 (cols_each_1_3_c hx17) rfl rfl rfl (fun _ => rfl)) rfl ?_
 refine TL.op1 (OpR.rowIndexM e_row_Row 7 hx15 rfl rfl rfl rfl rfl rfl rfl) rfl ?_
 refine TL.op0 (OpR.rowStore0M (j := s6.1) e_row_Row x17.1 7 hx15 rfl rfl rfl rfl rfl rfl rfl rfl rfl) ?_
 refine aN rfl ?_
 refine T.region ?_
 iterate 2 refine aA rfl rfl ?_
 refine TL.nil ?_
 obtain rfl := osi q10
 exact ⟨m8, Nat.lt_succ_self _, _, gP [1, 4, 5, 11, 12, 13] [0, 1, 2, 3, 4, 5, 6, 7] rfl rfl rfl, (w64 (s6.1 + 1), x17.2, (s6.2.2.set s6.1.toNat x17.1)), rfl, i11⟩
noncomputable def cols_each_3 (a0 : grid_Grid) (a1 : Int) (a2 : Int) (a3 : Int) (a4 : Int) : Option (grid_Grid × Int) :=
  bnd (walk_Map_row_Row_4 a0.fRows 0 a1 a2 a3 a4) fun x5 =>
  if x5.2 = 0 then
    some ((⟨x5.1, a0.fTail, a0.fEnd⟩ : grid_Grid), 0)
  else
    some ((⟨(⟨none⟩ : tTr), false, 0⟩ : grid_Grid), x5.2)
theorem cols_each_3_c {a0 : grid_Grid} {a1 : Int} {a2 : Int} {a3 : Int} {a4 : Int} {b0 : Nat} {b1 : Nat} {b2 : Nat} {b3 : Nat} {res : grid_Grid × Int} (h0 : cols_each_3 a0 a1 a2 a3 a4 = some res) : CallF X 82 [.agg [(eOP a0.fRows.fRoot), dT a0.fTail, dN a0.fEnd], .fn (.func 89) [] [dP b0, dP b1, dP b2, dP b3]] [.var b0 [dN a1] 3, .var b1 [dN a2] 3, .var b2 [dN a3] 3, .var b3 [dN a4] 3] (fun x => .tup [.agg [(eOP res.1.fRows.fRoot), dT res.1.fTail, dN res.1.fEnd], dN res.2]) (fun x => [.var b0 [dN a1] 3, .var b1 [dN a2] 3, .var b2 [dN a3] 3, .var b3 [dN a4] 3]) := by
 unfold cols_each_3 at h0
 refine CallF.mkG (X := X) rfl Tryz.func82 rfl rfl Tryz.ntmps82 rfl rfl ?_
 refine aS ?_
 refine TL.op (OpR.boxVar rfl rfl (fun _ => rfl)) rfl (fun p1 => ?_)
 refine TL.op (OpR.boxVar rfl rfl (fun _ => rfl)) rfl (fun p2 => ?_)
 refine TL.op (OpR.alloc rfl rfl (fun _ => rfl)) rfl (fun p3 => ?_)
 refine aA rfl rfl ?_
 refine aN rfl ?_
 refine aS ?_
 refine TL.op (OpR.alloc rfl rfl (fun _ => rfl)) rfl (fun p4 => ?_)
 refine TL.op0 (OpR.store 7 rfl rfl rfl rfl rfl rfl rfl rfl) ?_
 refine aN rfl ?_
 refine aS ?_
 refine aA rfl rfl ?_
 refine TL.op1 (OpR.loadPtr 4 rfl rfl rfl rfl) rfl ?_
 refine aA rfl rfl ?_
 obtain ⟨x5, hx5, h0⟩ := bS h0
 refine TL.op1 (OpR.call [5, 7, 0, 1, 2, 3] fn137 (walk_Map_row_Row_4_c hx5) rfl rfl rfl (fun _ => rfl)) rfl ?_
 refine aA rfl rfl ?_
 refine TL.op0 (OpR.store 4 rfl rfl rfl rfl rfl rfl rfl rfl) ?_
 refine aN rfl ?_
 refine T.seq ?_
 refine aS ?_
 refine TL.op1 (OpR.loadPtr 7 rfl rfl rfl rfl) rfl ?_
 refine aA rfl rfl ?_
 refine aN rfl ?_
 rcases ite_some h0 with ⟨c6, h0⟩ | ⟨c6, h0⟩
 · refine T.condF rfl (not_t (beq_iff_eq.2 c6)) ?_
   refine aK rfl ?_
   refine aS ?_
   refine TL.op1 (OpR.loadPtr 4 rfl rfl rfl rfl) rfl ?_
   refine TL.op0 (OpR.store 6 rfl rfl rfl rfl rfl rfl rfl rfl) ?_
   refine aA rfl rfl ?_
   refine aN rfl ?_
   refine T.ret ?_
   obtain rfl := osi h0
   exact rP [0, 1, 2, 3] [4, 5] [0, 1, 2, 3, 6] rfl rfl rfl undef (cV 4 rfl rfl rfl rfl (cT rfl ResL.nil)) rfl rfl rfl rfl
 refine T.condT rfl (not_f (beq_eq_false_iff_ne.2 c6)) ?_
 refine T.seq ?_
 refine T.drawQ drawsX [.agg [(eOP none), dT false, dN 0], dN x5.2, .dead, dN x5.2] [2, 4, 5] (by decide +kernel) rfl ?_ rfl ?_
 rotate_left
 · show T X _ _ _
   refine T.ret ?_
   obtain rfl := osi h0
   exact rP [0, 1, 2, 3] [4, 5] [0, 1, 2, 3, 6] rfl rfl rfl undef (cV 4 rfl rfl rfl rfl (cT rfl ResL.nil)) rfl rfl rfl rfl
 refine OpsQ.yes (Want.plain rfl) rfl (OpR.build rfl rfl rfl rfl rfl) ?_
 refine OpsQ.yes (Want.plain rfl) rfl (OpR.loadPtr 7 rfl rfl rfl rfl) ?_
 refine OpsQ.yes (Want.plain rfl) rfl (OpR.store 6 rfl rfl rfl rfl rfl rfl rfl rfl) ?_
 refine aB rfl rfl rfl ?_
 exact OpsQ.nil
noncomputable def cols_Move (a0 : grid_Grid) (a1 : Int) (a2 : Int) : Option (grid_Grid × Int) :=
  bnd (grid_Grid_Width a0) fun x4 =>
  bnd (if a1 < 0 then
    some true
  else
    if a2 < 0 then
      some true
    else
      if a1 ≥ x4 then
        some true
      else
        some (decide (a2 ≥ x4)) : Option Bool) fun t5 =>
  if t5 = true then
    some ((⟨(⟨none⟩ : tTr), false, 0⟩ : grid_Grid), 5)
  else
    if a1 = a2 then
      some (a0, 0)
    else
      bnd (cols_each_3 a0 (if a2 < a1 then a2 else a1) (if a2 > a1 then a2 else a1) a1 a2) fun x12 =>
      some (x12.1, x12.2)
theorem cols_Move_c {a0 : grid_Grid} {a1 : Int} {a2 : Int} {res : grid_Grid × Int} (h0 : cols_Move a0 a1 a2 = some res) : CallF X 29 [.agg [(eOP a0.fRows.fRoot), dT a0.fTail, dN a0.fEnd], dN a1, dN a2] [] (fun x => .tup [.agg [(eOP res.1.fRows.fRoot), dT res.1.fTail, dN res.1.fEnd], dN res.2]) (fun x => []) := by
 unfold cols_Move at h0
 refine CallF.mkG (X := X) rfl Tryz.func29 rfl rfl Tryz.ntmps29 rfl rfl ?_
 refine aS ?_
 refine TL.op1 (OpR.boxImm rfl rfl) rfl ?_
 refine TL.op (OpR.boxVar rfl rfl (fun _ => rfl)) rfl (fun p1 => ?_)
 refine TL.op (OpR.boxVar rfl rfl (fun _ => rfl)) rfl (fun p2 => ?_)
 refine TL.op (OpR.alloc rfl rfl (fun _ => rfl)) rfl (fun p3 => ?_)
 refine aA rfl rfl ?_
 refine aN rfl ?_
 refine aS ?_
 refine aA rfl rfl ?_
 obtain ⟨x4, hx4, h0⟩ := bS h0
 refine TL.op1 (OpR.call0 fn23 (grid_Grid_Width_c hx4) rfl) rfl ?_
 refine aA rfl rfl ?_
 refine aN rfl ?_
 refine T.seq ?_
 refine T.seq ?_
 obtain ⟨t5, ht5, h0⟩ := bS h0
 refine T.cutC (fun S' => S' = ⟨[(28, (dT t5)), (7, (dN 0)), (6, (dP (blk p3))), (5, (dP (blk p2))), (4, (dP (blk p1))), (3, .nod [(eOP a0.fRows.fRoot), dT a0.fTail, dN a0.fEnd])], [.var (blk p1) [dN a1] 3, .var (blk p2) [dN a2] 3, .var (blk p3) [(eOP none), dT false, dN 0] 27], 45⟩) (fun _ h => h) ?_ ?_
 · refine T.region ?_
   refine TL.op1 (OpR.loadPtr 0 rfl rfl rfl rfl) rfl ?_
   iterate 2 refine aA rfl rfl ?_
   rcases ite_some ht5 with ⟨c6, ht5⟩ | ⟨c6, ht5⟩
   · refine TL.off rfl rfl rfl rfl (eT c6) rfl rfl ?_
     refine TL.off rfl rfl rfl rfl (eT c6) rfl rfl ?_
     refine TL.op1 (OpR.pickT rfl (eT c6) rfl) rfl ?_
     refine aA rfl rfl ?_
     refine TL.off rfl rfl rfl rfl rfl rfl rfl ?_
     refine TL.off rfl rfl rfl rfl rfl rfl rfl ?_
     refine TL.off rfl rfl rfl rfl rfl rfl rfl ?_
     refine TL.op1 (OpR.pickT rfl rfl rfl) rfl ?_
     refine aA rfl rfl ?_
     refine TL.off rfl rfl rfl rfl rfl rfl rfl ?_
     refine TL.off rfl rfl rfl rfl rfl rfl rfl ?_
     refine TL.off rfl rfl rfl rfl rfl rfl rfl ?_
     refine TL.op1 (OpR.pickT rfl rfl rfl) rfl ?_
     refine TL.nil ?_
     obtain rfl := osi ht5
     exact ⟨_, Gst.only [3, 4, 5, 6, 7, 28] rfl, rfl⟩
   refine TL.on rfl rfl rfl rfl (eF c6) ?_
   refine TL.op1 (OpR.loadPtr 1 rfl rfl rfl rfl) rfl ?_
   refine TL.on rfl rfl rfl rfl (eF c6) ?_
   refine aA rfl rfl ?_
   refine TL.op1 (OpR.pickF rfl (eF c6) rfl) rfl ?_
   refine aA rfl rfl ?_
   rcases ite_some ht5 with ⟨c7, ht5⟩ | ⟨c7, ht5⟩
   · refine TL.off rfl rfl rfl rfl (eT c7) rfl rfl ?_
     refine TL.off rfl rfl rfl rfl (eT c7) rfl rfl ?_
     refine TL.off rfl rfl rfl rfl (eT c7) rfl rfl ?_
     refine TL.op1 (OpR.pickT rfl (eT c7) rfl) rfl ?_
     refine aA rfl rfl ?_
     refine TL.off rfl rfl rfl rfl rfl rfl rfl ?_
     refine TL.off rfl rfl rfl rfl rfl rfl rfl ?_
     refine TL.off rfl rfl rfl rfl rfl rfl rfl ?_
     refine TL.op1 (OpR.pickT rfl rfl rfl) rfl ?_
     refine TL.nil ?_
     obtain rfl := osi ht5
     exact ⟨_, Gst.only [3, 4, 5, 6, 7, 28] rfl, rfl⟩
   refine TL.on rfl rfl rfl rfl (eF c7) ?_
   refine TL.op1 (OpR.loadPtr 0 rfl rfl rfl rfl) rfl ?_
   refine TL.on rfl rfl rfl rfl (eF c7) ?_
   refine aA rfl rfl ?_
   refine TL.on rfl rfl rfl rfl (eF c7) ?_
   refine aA rfl rfl ?_
   refine TL.op1 (OpR.pickF rfl (eF c7) rfl) rfl ?_
   refine aA rfl rfl ?_
   rcases ite_some ht5 with ⟨c8, ht5⟩ | ⟨c8, ht5⟩
   · refine TL.off rfl rfl rfl rfl (eT c8) rfl rfl ?_
     refine TL.off rfl rfl rfl rfl (eT c8) rfl rfl ?_
     refine TL.off rfl rfl rfl rfl (eT c8) rfl rfl ?_
     refine TL.op1 (OpR.pickT rfl (eT c8) rfl) rfl ?_
     refine TL.nil ?_
     obtain rfl := osi ht5
     exact ⟨_, Gst.only [3, 4, 5, 6, 7, 28] rfl, rfl⟩
   refine TL.on rfl rfl rfl rfl (eF c8) ?_
   refine TL.op1 (OpR.loadPtr 1 rfl rfl rfl rfl) rfl ?_
   refine TL.on rfl rfl rfl rfl (eF c8) ?_
   refine aA rfl rfl ?_
   refine TL.on rfl rfl rfl rfl (eF c8) ?_
   refine aA rfl rfl ?_
   refine TL.op1 (OpR.pickF rfl (eF c8) rfl) rfl ?_
   refine TL.nil ?_
   obtain rfl := osi ht5
   exact ⟨_, Gst.only [3, 4, 5, 6, 7, 28] rfl, rfl⟩
 rintro _ rfl
 show T X _ _ _
 rcases ite_some h0 with ⟨c9, h0⟩ | ⟨c9, h0⟩
 · refine T.condT rfl (c9) ?_
   refine aS ?_
   refine TL.op1 (OpR.build rfl rfl rfl rfl rfl) rfl ?_
   refine TL.op0 (OpR.store 2 rfl rfl rfl rfl rfl rfl rfl rfl) ?_
   refine aA rfl rfl ?_
   refine aN rfl ?_
   refine T.ret ?_
   obtain rfl := osi h0
   exact rP [] [6, 7] [2] rfl rfl rfl undef (cV 0 rfl rfl rfl rfl (cT rfl ResL.nil)) rfl rfl rfl rfl
 refine T.condF rfl (eq_false_of_ne_true c9) ?_
 refine aK rfl ?_
 refine T.seq ?_
 refine aS ?_
 refine TL.op1 (OpR.loadPtr 0 rfl rfl rfl rfl) rfl ?_
 refine TL.op1 (OpR.loadPtr 1 rfl rfl rfl rfl) rfl ?_
 refine aA rfl rfl ?_
 refine aN rfl ?_
 rcases ite_some h0 with ⟨c10, h0⟩ | ⟨c10, h0⟩
 · refine T.condT rfl (beq_iff_eq.2 c10) ?_
   refine aS ?_
   refine aA rfl rfl ?_
   refine TL.op0 (OpR.store 2 rfl rfl rfl rfl rfl rfl rfl rfl) ?_
   refine aA rfl rfl ?_
   refine aN rfl ?_
   refine T.ret ?_
   obtain rfl := osi h0
   exact rP [] [6, 7] [2] rfl rfl rfl undef (cV 0 rfl rfl rfl rfl (cT rfl ResL.nil)) rfl rfl rfl rfl
 refine T.condF rfl (beq_eq_false_iff_ne.2 c10) ?_
 refine aK rfl ?_
 refine T.seq ?_
 refine T.drawS drawsX (fun env11 => [dN a1, dN a2, dN (if a2 < a1 then a2 else a1), dN a1, dN a2, dN (if a2 > a1 then a2 else a1), dP (blk (env11 6)), dP (blk (env11 7)), .dead, .dead]) (fun D env11 => [.var (blk p1) [dN a1] 3, .var (blk p2) [dN a2] 3, .var (blk p3) [(eOP none), dT false, dN 0] 27] ++ (bif D 6 then [(bif D 8 then .var (blk (env11 6)) [dN (if a2 < a1 then a2 else a1)] 3 else .var (blk (env11 6)) [dN 0] 3)] else []) ++ (bif D 7 then [(bif D 9 then .var (blk (env11 7)) [dN (if a2 > a1 then a2 else a1)] 3 else .var (blk (env11 7)) [dN 0] 3)] else [])) [0, 0, 3, 0, 0, 24, 0, 0, 199, 511] [3, 4, 5, 6, 7, 9, 10] _ (by decide +kernel) (by decide +kernel) (fun _ => rfl) (fun _ => rfl) ?_ (fun _ => rfl) (fun _ => rfl) ?_
 rotate_left
 · intro env11
   show T X _ _ _
   refine aS ?_
   iterate 2 refine aA rfl rfl ?_
   obtain ⟨x12, hx12, h0⟩ := bS h0
   refine TL.op1 (OpR.call [3, 4, 0, 1] fn82 (cols_each_3_c hx12) rfl rfl rfl (fun _ => rfl)) rfl ?_
   iterate 2 refine aA rfl rfl ?_
   refine TL.op0 (OpR.store 2 rfl rfl rfl rfl rfl rfl rfl rfl) ?_
   refine aA rfl rfl ?_
   refine aN rfl ?_
   refine T.ret ?_
   obtain rfl := osi h0
   exact rP [] [6, 7] [2] rfl rfl rfl undef (cV 0 rfl rfl rfl rfl (cT rfl ResL.nil)) rfl rfl rfl rfl
 refine oT ((dN a1)) (fun _ _ => OpR.loadPtr 0 rfl rfl rfl rfl) ?_
 refine oT ((dN a2)) (fun _ _ => OpR.loadPtr 1 rfl rfl rfl rfl) ?_
 refine aC ?_
 refine oT ((dN a1)) (fun _ _ => OpR.loadPtr 0 rfl rfl rfl rfl) ?_
 refine oT ((dN a2)) (fun _ _ => OpR.loadPtr 1 rfl rfl rfl rfl) ?_
 refine aC ?_
 refine OpsS.cons' true ?_ (fun D hA env11 x j hj hD => match j, hj, hD with | 0, _, _ => rfl | 1, _, _ => rfl | 2, _, _ => rfl | 3, _, _ => rfl | 4, _, _ => rfl | 5, _, _ => rfl | 6, hj, _ => absurd rfl hj | 7, _, _ => rfl | 8, _, _ => rfl | 9, _, _ => rfl | _ + 10, _, _ => rfl) ?_
 · intro D env11 hA
   have e8 : D 8 = false := hA.no 8 _ rfl rfl
   have e9 : D 9 = false := hA.no 9 _ rfl rfl
   rcases Bool.eq_false_or_eq_true (D 7) with e7 | e7
   rotate_left
   · exact OpS.yp [(8, false), (9, false), (7, false), (6, false)] ⟨e8, e9, e7, hA.me, trivial⟩ (Want.plain rfl) (OpR.alloc rfl rfl (fun _ => rfl)) (fun x => rfl) (fun x => rfl)
   exact OpS.yp [(8, false), (9, false), (7, true), (6, false)] ⟨e8, e9, e7, hA.me, trivial⟩ (Want.plain rfl) (OpR.pick [0, 1, 2, 4, 3] (OpR.alloc rfl rfl (fun _ => rfl)) (fun _ => rfl) rfl) (fun x => rfl) (fun x => rfl)
 refine OpsS.cons' true ?_ (fun D hA env11 x j hj hD => match j, hj, hD with | 0, _, _ => rfl | 1, _, _ => rfl | 2, _, _ => rfl | 3, _, _ => rfl | 4, _, _ => rfl | 5, _, _ => rfl | 6, _, _ => rfl | 7, hj, _ => absurd rfl hj | 8, _, _ => rfl | 9, _, _ => rfl | _ + 10, _, _ => rfl) ?_
 · intro D env11 hA
   have e8 : D 8 = false := hA.no 8 _ rfl rfl
   have e9 : D 9 = false := hA.no 9 _ rfl rfl
   rcases Bool.eq_false_or_eq_true (D 6) with e6 | e6
   · exact OpS.yp [(8, false), (9, false), (6, true), (7, false)] ⟨e8, e9, e6, hA.me, trivial⟩ (Want.plain rfl) (OpR.alloc rfl rfl (fun _ => rfl)) (fun x => rfl) (fun x => rfl)
   exact OpS.yp [(8, false), (9, false), (6, false), (7, false)] ⟨e8, e9, e6, hA.me, trivial⟩ (Want.plain rfl) (OpR.alloc rfl rfl (fun _ => rfl)) (fun x => rfl) (fun x => rfl)
 refine OpsS.cons' true ?_ (fun _ _ _ _ _ _ _ => rfl) ?_
 · intro D env11 hA
   have e6 : D 6 = true := hA.yes 6 _ rfl rfl
   have e7 : D 7 = true := hA.yes 7 _ rfl rfl
   have e9 : D 9 = false := hA.no 9 _ rfl rfl
   exact OpS.yp [(6, true), (7, true), (9, false), (8, false)] ⟨e6, e7, e9, hA.me, trivial⟩ (Want.plain rfl) (OpR.store 3 rfl rfl rfl rfl rfl rfl rfl rfl) (fun x => rfl) (fun x => rfl)
 refine OpsS.cons' true ?_ (fun _ _ _ _ _ _ _ => rfl) ?_
 · intro D env11 hA
   have e6 : D 6 = true := hA.yes 6 _ rfl rfl
   have e7 : D 7 = true := hA.yes 7 _ rfl rfl
   have e8 : D 8 = true := hA.yes 8 _ rfl rfl
   exact OpS.yp [(6, true), (7, true), (8, true), (9, false)] ⟨e6, e7, e8, hA.me, trivial⟩ (Want.plain rfl) (OpR.store 4 rfl rfl rfl rfl rfl rfl rfl rfl) (fun x => rfl) (fun x => rfl)
 exact trivial
noncomputable def ref08_Pad_2.l1 (a0 : ref08_Row) (a1 : Int) (s6 : Int × (List ref07_Cell)) : Option (Lp (Int × (List ref07_Cell)) (List ref07_Cell)) :=
  bnd (if s6.1 < (a0.fCells.length : Int) then
    some true
  else
    if s6.1 < a1 then
      some (decide (s6.1 < 40))
    else
      some false : Option Bool) fun t14 =>
  if t14 = true then
    bnd (if s6.1 < (a0.fCells.length : Int) then
      bnd (idx a0.fCells s6.1) fun x21 =>
      some (x21.fS, x21.fRaw, x21.fKept)
    else
      some ([], [], false) : Option ((List UInt8) × (List UInt8) × Bool)) fun t19 =>
    bnd (app 40 s6.2 [(⟨t19.1, t19.2.1, t19.2.2⟩ : ref07_Cell)]) fun x22 =>
    some (Lp.next (w64 (s6.1 + 1), x22))
  else
    some (Lp.done s6.2)
noncomputable def ref08_Pad_2 (a0 : ref08_Row) (a1 : Int) : Option ref08_Row :=
  bnd (loop (ref08_Pad_2.l1 a0 a1) (0, []) : Option (List ref07_Cell)) fun t3 =>
  some (⟨t3, a0.fEnd, a0.fHidden⟩ : ref08_Row)
theorem ref08_Pad_2_c {a0 : ref08_Row} {a1 : Int} {res : ref08_Row} (h0 : ref08_Pad_2 a0 a1 = some res) : CallF X 143 [.agg [.sl 3 (List.map e_ref07_Cell a0.fCells), dN a0.fEnd, dT a0.fHidden], dN a1] [] (fun x => .agg [.sl 3 (List.map e_ref07_Cell res.fCells), dN res.fEnd, dT res.fHidden]) (fun x => []) := by
 unfold ref08_Pad_2 at h0
 refine CallF.mkG (X := X) rfl Tryz.func143 rfl rfl Tryz.ntmps143 rfl rfl ?_
 refine aS ?_
 refine TL.op1 (OpR.boxImm rfl rfl) rfl ?_
 refine TL.op (OpR.alloc rfl rfl (fun _ => rfl)) rfl (fun p1 => ?_)
 refine aN rfl ?_
 refine aS ?_
 iterate 4 refine aA rfl rfl ?_
 refine TL.op1 (OpR.build rfl rfl rfl rfl rfl) rfl ?_
 refine TL.op (OpR.alloc rfl rfl (fun _ => rfl)) rfl (fun p2 => ?_)
 refine TL.op0 (OpR.store 1 rfl rfl rfl rfl rfl rfl rfl rfl) ?_
 refine aN rfl ?_
 refine T.seq ?_
 refine aS ?_
 refine aA rfl rfl ?_
 refine aN rfl ?_
 obtain ⟨t3, ht3, h0⟩ := bS h0
 refine T.cutC (fun S' => ∃ y4 : Value, S' = ⟨[(5, (dP (blk p2))), (4, (dP (blk p1)))], [.var (blk p1) [.val (.slice none 0 0), dN 0, dT false] 60, .var (blk p2) [.val y4, dN a0.fEnd, dT a0.fHidden] 60, .row y4 (List.map e_ref07_Cell t3) 3 151], 47⟩) (fun _ h => h) ?_ ?_
 rotate_left
 · rintro _ ⟨y4, rfl⟩
   show T X _ _ _
   refine aS ?_
   refine TL.op1 (OpR.loadPtr 1 rfl rfl rfl rfl) rfl ?_
   refine TL.op0 (OpR.store 0 rfl rfl rfl rfl rfl rfl rfl rfl) ?_
   refine aN rfl ?_
   refine T.ret ?_
   obtain rfl := osi h0
   exact PostG.retP (ks := []) (Gst.trans (Gst.only [4] rfl) (Gst.trans (Gst.freezeRow 2 rfl rfl (ReS.cons Re.refl ReS.nil) (ReO.var (ReL.cons (Re.base .all) (ReL.cons Re.refl (ReL.cons Re.refl ReL.nil))) (ReO.var (ReL.cons (Re.base .all) (ReL.cons Re.refl (ReL.cons Re.refl ReL.nil))) (ReO.same ReO.nil)))) (Gst.pick [0] rfl rfl))) undef (cV 0 rfl rfl rfl rfl ResL.nil) rfl rfl rfl rfl
 refine T.block ?_
 obtain ⟨n7, n12⟩ := loop_some ht3
 refine T.loop (fun n S' => ∃ S'', Gst S' S'' ∧ ∃ y5 : Value, ∃ s6 : Int × (List ref07_Cell), S'' = ⟨[(6, (dN s6.1)), (5, (dP (blk p2))), (4, (dP (blk p1))), (2, .nod [.sl 3 (List.map e_ref07_Cell a0.fCells), dN a0.fEnd, dT a0.fHidden]), (1, (dN a1))], [.var (blk p1) [.val (.slice none 0 0), dN 0, dT false] 60, .var (blk p2) [.val y5, dN a0.fEnd, dT a0.fHidden] 60, .row y5 (List.map e_ref07_Cell s6.2) 3 151], 47⟩ ∧ iter (ref08_Pad_2.l1 a0 a1) n s6 = some t3) n7 ?_ ?_
 · exact ⟨_, Gst.trans (Gst.only [1, 2, 4, 5, 6] rfl) (Gst.nilRow (ow := [.var (blk p1) [.val (.slice none 0 0), dN 0, dT false] 60, .var (blk p2) [.val (.slice none 0 0), dN a0.fEnd, dT a0.fHidden] 60]) 3 151 rfl), (.slice none 0 0), (0, []), rfl, n12⟩
 rintro n7 _ ⟨_, g, y5, s6, rfl, i11⟩
 refine T.ghost g ?_
 obtain ⟨m8, q9, rfl, q10, i11⟩ := iter_succ i11
 unfold ref08_Pad_2.l1 at q10
 refine T.seq ?_
 refine T.seq ?_
 obtain ⟨t14, ht14, q10⟩ := bS q10
 refine T.cutC (fun S' => S' = ⟨[(26, (dT t14)), (6, (dN s6.1)), (5, (dP (blk p2))), (4, (dP (blk p1))), (2, .nod [.sl 3 (List.map e_ref07_Cell a0.fCells), dN a0.fEnd, dT a0.fHidden]), (1, (dN a1))], [.var (blk p1) [.val (.slice none 0 0), dN 0, dT false] 60, .var (blk p2) [.val y5, dN a0.fEnd, dT a0.fHidden] 60, .row y5 (List.map e_ref07_Cell s6.2) 3 151], 47⟩) (fun _ h => h) ?_ ?_
 · refine T.region ?_
   iterate 3 refine aA rfl rfl ?_
   refine TL.op1 (OpR.cast (OpR.pure rfl) (intE (lenM _ _))) rfl ?_
   iterate 2 refine aA rfl rfl ?_
   rcases ite_some ht14 with ⟨c15, ht14⟩ | ⟨c15, ht14⟩
   · refine TL.off rfl rfl rfl rfl (eT c15) rfl rfl ?_
     refine TL.off rfl rfl rfl rfl (eT c15) rfl rfl ?_
     refine TL.off rfl rfl rfl rfl (eT c15) rfl rfl ?_
     refine TL.off rfl rfl rfl rfl (eT c15) rfl rfl ?_
     refine TL.offU rfl rfl rfl rfl rfl rfl ?_
     refine TL.offU rfl rfl rfl rfl rfl rfl ?_
     refine TL.off rfl rfl rfl rfl (eT c15) rfl rfl ?_
     refine TL.op1 (OpR.pickT rfl (eT c15) rfl) rfl ?_
     refine TL.nil ?_
     obtain rfl := osi ht14
     exact ⟨_, Gst.only [1, 2, 4, 5, 6, 26] rfl, rfl⟩
   refine TL.on rfl rfl rfl rfl (eF c15) ?_
   refine aA rfl rfl ?_
   refine TL.on rfl rfl rfl rfl (eF c15) ?_
   refine aA rfl rfl ?_
   refine TL.on rfl rfl rfl rfl (eF c15) ?_
   refine aA rfl rfl ?_
   refine TL.on rfl rfl rfl rfl (eF c15) ?_
   refine aA rfl rfl ?_
   rcases ite_some ht14 with ⟨c16, ht14⟩ | ⟨c16, ht14⟩
   rotate_left
   · refine TL.off rfl rfl rfl rfl (eF c16) rfl rfl ?_
     refine TL.off rfl rfl rfl rfl (eF c16) rfl rfl ?_
     refine TL.on rfl rfl rfl rfl (eF c15) ?_
     refine TL.op1 (OpR.pickF rfl (eF c16) rfl) rfl ?_
     refine TL.op1 (OpR.pickF rfl (eF c15) rfl) rfl ?_
     refine TL.nil ?_
     obtain rfl := osi ht14
     exact ⟨_, Gst.only [1, 2, 4, 5, 6, 26] rfl, rfl⟩
   refine TL.on rfl rfl rfl rfl (eT c16) ?_
   refine aA rfl rfl ?_
   refine TL.on rfl rfl rfl rfl (eT c16) ?_
   refine aA rfl rfl ?_
   refine TL.on rfl rfl rfl rfl (eF c15) ?_
   refine TL.op1 (OpR.pickT rfl (eT c16) rfl) rfl ?_
   refine TL.op1 (OpR.pickF rfl (eF c15) rfl) rfl ?_
   refine TL.nil ?_
   obtain rfl := osi ht14
   exact ⟨_, Gst.only [1, 2, 4, 5, 6, 26] rfl, rfl⟩
 rintro _ rfl
 show T X _ _ _
 rcases ite_some q10 with ⟨c17, q10⟩ | ⟨c17, q10⟩
 rotate_left
 · refine T.condF rfl (eq_false_of_ne_true c17) ?_
   refine T.exit ?_
   obtain rfl := osi q10
   obtain rfl : _ = _ := i11
   exact ⟨_, Gst.only [4, 5] rfl, y5, rfl⟩
 refine T.condT rfl (c17) ?_
 refine aK rfl ?_
 refine T.seq ?_
 refine T.block ?_
 refine aS ?_
 refine TL.op1 (OpR.build rfl rfl rfl rfl rfl) rfl ?_
 refine TL.op (OpR.alloc rfl rfl (fun _ => rfl)) rfl (fun p18 => ?_)
 refine TL.op0 (OpR.store 3 rfl rfl rfl rfl rfl rfl rfl rfl) ?_
 refine aN rfl ?_
 refine T.seq ?_
 refine aS ?_
 iterate 3 refine aA rfl rfl ?_
 refine TL.op1 (OpR.cast (OpR.pure rfl) (intE (lenM _ _))) rfl ?_
 refine aA rfl rfl ?_
 refine aN rfl ?_
 obtain ⟨t19, ht19, q10⟩ := bS q10
 refine T.cutC (fun S' => S' = ⟨[(7, (dP (blk p18))), (6, (dN s6.1)), (5, (dP (blk p2))), (4, (dP (blk p1))), (2, .nod [.sl 3 (List.map e_ref07_Cell a0.fCells), dN a0.fEnd, dT a0.fHidden]), (1, (dN a1))], [.var (blk p1) [.val (.slice none 0 0), dN 0, dT false] 60, .var (blk p2) [.val y5, dN a0.fEnd, dT a0.fHidden] 60, .var (blk p18) [.val (.string (bs t19.1)), .val (.string (bs t19.2.1)), dT t19.2.2] 151, .row y5 (List.map e_ref07_Cell s6.2) 3 151], 47⟩) (fun _ h => h) ?_ ?_
 · rcases ite_some ht19 with ⟨c20, ht19⟩ | ⟨c20, ht19⟩
   rotate_left
   · refine T.condF rfl (eF c20) ?_
     refine T.skip ?_
     obtain rfl := osi ht19
     exact ⟨_, gP [1, 2, 4, 5, 6, 7] [0, 1, 3, 2] rfl rfl rfl, rfl⟩
   refine T.condT rfl (eT c20) ?_
   refine T.region ?_
   iterate 3 refine aA rfl rfl ?_
   obtain ⟨x21, hx21, ht19⟩ := bS ht19
   refine TL.op1 (OpR.indexM e_ref07_Cell hx21 rfl rfl rfl rfl rfl) rfl ?_
   refine aA rfl rfl ?_
   refine TL.op0 (OpR.store 3 rfl rfl rfl rfl rfl rfl rfl rfl) ?_
   refine TL.nil ?_
   obtain rfl := osi ht19
   exact ⟨_, gP [1, 2, 4, 5, 6, 7] [0, 1, 3, 2] rfl rfl rfl, rfl⟩
 rintro _ rfl
 show T X _ _ _
 refine T.region ?_
 refine aA rfl rfl ?_
 refine TL.op1 (OpR.loadPtr 1 rfl rfl rfl rfl) rfl ?_
 refine TL.op1 (OpR.loadPtr 2 rfl rfl rfl rfl) rfl ?_
 refine TL.op1 (OpR.lit rfl rfl rfl rfl rfl rfl rfl) rfl ?_
 obtain ⟨x22, hx22, q10⟩ := bS q10
 refine TL.op (OpR.appendM (m := [(⟨t19.1, t19.2.1, t19.2.2⟩ : ref07_Cell)]) e_ref07_Cell 3 hx22 rfl rfl rfl rfl rfl rfl rfl rfl rfl (fun _ => rfl)) rfl (fun v23 => ?_)
 refine aA rfl rfl ?_
 refine TL.op0 (OpR.store 1 rfl rfl rfl rfl rfl rfl rfl rfl) ?_
 refine aN rfl ?_
 refine T.region ?_
 iterate 3 refine aA rfl rfl ?_
 refine TL.nil ?_
 obtain rfl := osi q10
 exact ⟨m8, Nat.lt_succ_self _, _, gP [1, 2, 4, 5, 6] [0, 1, 3] rfl rfl rfl, v23, (w64 (s6.1 + 1), x22), rfl, i11⟩
noncomputable def ref08_Move (a0 : ref08_Row) (a1 : Int) (a2 : Int) : Option (ref08_Row × Int) :=
  bnd (if a1 < 0 then
    some true
  else
    if a1 ≥ (a0.fCells.length : Int) then
      some true
    else
      if a2 < 0 then
        some true
      else
        some (decide (a2 ≥ (a0.fCells.length : Int))) : Option Bool) fun t2 =>
  if t2 = true then
    some ((⟨[], 0, false⟩ : ref08_Row), 5)
  else
    bnd (ref08_without a0.fCells a1) fun x8 =>
    bnd (idx a0.fCells a1) fun x10 =>
    bnd (ref08_Insert (⟨x8, a0.fEnd, a0.fHidden⟩ : ref08_Row) a2 x10) fun x11 =>
    some (x11.1, x11.2)
theorem ref08_Move_c {a0 : ref08_Row} {a1 : Int} {a2 : Int} {res : ref08_Row × Int} (h0 : ref08_Move a0 a1 a2 = some res) : CallF X 142 [.agg [.sl 3 (List.map e_ref07_Cell a0.fCells), dN a0.fEnd, dT a0.fHidden], dN a1, dN a2] [] (fun x => .tup [.agg [.sl 3 (List.map e_ref07_Cell res.1.fCells), dN res.1.fEnd, dT res.1.fHidden], dN res.2]) (fun x => []) := by
 unfold ref08_Move at h0
 refine CallF.mkG (X := X) rfl Tryz.func142 rfl rfl Tryz.ntmps142 rfl rfl ?_
 refine aS ?_
 refine TL.op1 (OpR.boxImm rfl rfl) rfl ?_
 refine TL.op (OpR.alloc rfl rfl (fun _ => rfl)) rfl (fun p1 => ?_)
 refine aA rfl rfl ?_
 refine aN rfl ?_
 refine aS ?_
 iterate 2 refine aA rfl rfl ?_
 refine TL.op1 (OpR.cast (OpR.pure rfl) (intE (lenM _ _))) rfl ?_
 refine aA rfl rfl ?_
 refine aN rfl ?_
 refine T.seq ?_
 refine T.seq ?_
 obtain ⟨t2, ht2, h0⟩ := bS h0
 refine T.cutC (fun S' => S' = ⟨[(28, (dT t2)), (7, (dN 0)), (6, (dP (blk p1))), (3, .nod [.sl 3 (List.map e_ref07_Cell a0.fCells), dN a0.fEnd, dT a0.fHidden]), (2, (dN a2)), (1, (dN a1))], [.var (blk p1) [.val (.slice none 0 0), dN 0, dT false] 60], 49⟩) (fun _ h => h) ?_ ?_
 · refine T.region ?_
   iterate 3 refine aA rfl rfl ?_
   rcases ite_some ht2 with ⟨c3, ht2⟩ | ⟨c3, ht2⟩
   · refine TL.off rfl rfl rfl rfl (eT c3) rfl rfl ?_
     refine TL.off rfl rfl rfl rfl (eT c3) rfl rfl ?_
     refine TL.off rfl rfl rfl rfl (eT c3) rfl rfl ?_
     refine TL.op1 (OpR.pickT rfl (eT c3) rfl) rfl ?_
     refine aA rfl rfl ?_
     refine TL.off rfl rfl rfl rfl rfl rfl rfl ?_
     refine TL.off rfl rfl rfl rfl rfl rfl rfl ?_
     refine TL.op1 (OpR.pickT rfl rfl rfl) rfl ?_
     refine aA rfl rfl ?_
     refine TL.off rfl rfl rfl rfl rfl rfl rfl ?_
     refine TL.off rfl rfl rfl rfl rfl rfl rfl ?_
     refine TL.off rfl rfl rfl rfl rfl rfl rfl ?_
     refine TL.op1 (OpR.pickT rfl rfl rfl) rfl ?_
     refine TL.nil ?_
     obtain rfl := osi ht2
     exact ⟨_, Gst.only [1, 2, 3, 6, 7, 28] rfl, rfl⟩
   refine TL.on rfl rfl rfl rfl (eF c3) ?_
   refine aA rfl rfl ?_
   refine TL.on rfl rfl rfl rfl (eF c3) ?_
   refine aA rfl rfl ?_
   refine TL.on rfl rfl rfl rfl (eF c3) ?_
   refine aA rfl rfl ?_
   refine TL.op1 (OpR.pickF rfl (eF c3) rfl) rfl ?_
   refine aA rfl rfl ?_
   rcases ite_some ht2 with ⟨c4, ht2⟩ | ⟨c4, ht2⟩
   · refine TL.off rfl rfl rfl rfl (eT c4) rfl rfl ?_
     refine TL.off rfl rfl rfl rfl (eT c4) rfl rfl ?_
     refine TL.op1 (OpR.pickT rfl (eT c4) rfl) rfl ?_
     refine aA rfl rfl ?_
     refine TL.off rfl rfl rfl rfl rfl rfl rfl ?_
     refine TL.off rfl rfl rfl rfl rfl rfl rfl ?_
     refine TL.off rfl rfl rfl rfl rfl rfl rfl ?_
     refine TL.op1 (OpR.pickT rfl rfl rfl) rfl ?_
     refine TL.nil ?_
     obtain rfl := osi ht2
     exact ⟨_, Gst.only [1, 2, 3, 6, 7, 28] rfl, rfl⟩
   refine TL.on rfl rfl rfl rfl (eF c4) ?_
   refine aA rfl rfl ?_
   refine TL.on rfl rfl rfl rfl (eF c4) ?_
   refine aA rfl rfl ?_
   refine TL.op1 (OpR.pickF rfl (eF c4) rfl) rfl ?_
   refine aA rfl rfl ?_
   rcases ite_some ht2 with ⟨c5, ht2⟩ | ⟨c5, ht2⟩
   · refine TL.off rfl rfl rfl rfl (eT c5) rfl rfl ?_
     refine TL.off rfl rfl rfl rfl (eT c5) rfl rfl ?_
     refine TL.off rfl rfl rfl rfl (eT c5) rfl rfl ?_
     refine TL.op1 (OpR.pickT rfl (eT c5) rfl) rfl ?_
     refine TL.nil ?_
     obtain rfl := osi ht2
     exact ⟨_, Gst.only [1, 2, 3, 6, 7, 28] rfl, rfl⟩
   refine TL.on rfl rfl rfl rfl (eF c5) ?_
   refine aA rfl rfl ?_
   refine TL.on rfl rfl rfl rfl (eF c5) ?_
   refine aA rfl rfl ?_
   refine TL.on rfl rfl rfl rfl (eF c5) ?_
   refine aA rfl rfl ?_
   refine TL.op1 (OpR.pickF rfl (eF c5) rfl) rfl ?_
   refine TL.nil ?_
   obtain rfl := osi ht2
   exact ⟨_, Gst.only [1, 2, 3, 6, 7, 28] rfl, rfl⟩
 rintro _ rfl
 show T X _ _ _
 rcases ite_some h0 with ⟨c6, h0⟩ | ⟨c6, h0⟩
 · refine T.condT rfl (c6) ?_
   refine aS ?_
   refine TL.op1 (OpR.build rfl rfl rfl rfl rfl) rfl ?_
   refine TL.op0 (OpR.store 0 rfl rfl rfl rfl rfl rfl rfl rfl) ?_
   refine aA rfl rfl ?_
   refine aN rfl ?_
   refine T.ret ?_
   obtain rfl := osi h0
   exact PostG.retP (ks := []) (Gst.trans (Gst.only [6, 7] rfl) (Gst.denil (ReS.cons Re.refl (ReS.cons Re.refl ReS.nil)) (ReO.var (ReL.cons (Re.base .nil) (ReL.cons Re.refl (ReL.cons Re.refl ReL.nil))) ReO.nil))) undef (cV 0 rfl rfl rfl rfl (cT rfl ResL.nil)) rfl rfl rfl rfl
 refine T.condF rfl (eq_false_of_ne_true c6) ?_
 refine aK rfl ?_
 refine T.seq ?_
 obtain ⟨x8, hx8, h0⟩ := bS h0
 refine T.drawS drawsX (fun env7 => [.nod [.sl 3 (List.map e_ref07_Cell a0.fCells), dN a0.fEnd, dT a0.fHidden], .sl 3 (List.map e_ref07_Cell a0.fCells), dN a1, .sl 3 (List.map e_ref07_Cell x8), .nod [dN a0.fEnd, dT a0.fHidden], dN a0.fEnd, .nod [dT a0.fHidden], dT a0.fHidden, .agg [.sl 3 (List.map e_ref07_Cell x8), dN a0.fEnd, dT a0.fHidden], dP (blk (env7 9)), .dead]) (fun D env7 => [.var (blk p1) [.val (.slice none 0 0), dN 0, dT false] 60] ++ (bif D 9 then [(bif D 10 then .var (blk (env7 9)) [.sl 3 (List.map e_ref07_Cell x8), dN a0.fEnd, dT a0.fHidden] 60 else .var (blk (env7 9)) [.val (.slice none 0 0), dN 0, dT false] 60)] else [])) [0, 1, 0, 7, 0, 16, 0, 64, 255, 0, 1023] [1, 2, 3, 6, 7, 9] _ (by decide +kernel) (by decide +kernel) (fun _ => rfl) (fun _ => rfl) ?_ (fun _ => rfl) (fun _ => rfl) ?_
 · iterate 3 refine aC ?_
   refine oT (.sl 3 (List.map e_ref07_Cell x8)) (fun _ _ => OpR.call0 fn200 (ref08_without_c hx8) rfl) ?_
   iterate 4 refine aC ?_
   refine oT (.agg [.sl 3 (List.map e_ref07_Cell x8), dN a0.fEnd, dT a0.fHidden]) (fun _ _ => OpR.build rfl rfl rfl rfl rfl) ?_
   refine OpsS.cons' true ?_ (fun D hA env7 x j hj hD => match j, hj, hD with | 0, _, _ => rfl | 1, _, _ => rfl | 2, _, _ => rfl | 3, _, _ => rfl | 4, _, _ => rfl | 5, _, _ => rfl | 6, _, _ => rfl | 7, _, _ => rfl | 8, _, _ => rfl | 9, hj, _ => absurd rfl hj | 10, _, _ => rfl | _ + 11, _, _ => rfl) ?_
   · intro D env7 hA
     have e10 : D 10 = false := hA.no 10 _ rfl rfl
     exact OpS.yp [(10, false), (9, false)] ⟨e10, hA.me, trivial⟩ (Want.plain rfl) (OpR.alloc rfl rfl (fun _ => rfl)) (fun x => rfl) (fun x => rfl)
   refine OpsS.cons' true ?_ (fun _ _ _ _ _ _ _ => rfl) ?_
   · intro D env7 hA
     have e9 : D 9 = true := hA.yes 9 _ rfl rfl
     exact OpS.yp [(9, true), (10, false)] ⟨e9, hA.me, trivial⟩ (Want.plain rfl) (OpR.store 1 rfl rfl rfl rfl rfl rfl rfl rfl) (fun x => rfl) (fun x => rfl)
   exact trivial
 intro env7
 show T X _ _ _
 refine T.seq ?_
 obtain ⟨x10, hx10, h0⟩ := bS h0
 obtain ⟨x11, hx11, h0⟩ := bS h0
 refine T.drawS drawsX (fun env9 => [.agg [.sl 3 (List.map e_ref07_Cell x8), dN a0.fEnd, dT a0.fHidden], dN a2, .nod [.sl 3 (List.map e_ref07_Cell a0.fCells), dN a0.fEnd, dT a0.fHidden], .sl 3 (List.map e_ref07_Cell a0.fCells), dN a1, .nod [.val (.string (bs x10.fS)), .val (.string (bs x10.fRaw)), dT x10.fKept], .agg [.val (.string (bs x10.fS)), .val (.string (bs x10.fRaw)), dT x10.fKept], .tup [.agg [.sl 3 (List.map e_ref07_Cell x11.1.fCells), dN x11.1.fEnd, dT x11.1.fHidden], dN x11.2], .agg [.sl 3 (List.map e_ref07_Cell x11.1.fCells), dN x11.1.fEnd, dT x11.1.fHidden], dN x11.2, .dead, dN x11.2]) (fun D env9 => [(bif D 10 then .var (blk p1) [.sl 3 (List.map e_ref07_Cell x11.1.fCells), dN x11.1.fEnd, dT x11.1.fHidden] 60 else .var (blk p1) [.val (.slice none 0 0), dN 0, dT false] 60), .var (blk (env7 9)) [.sl 3 (List.map e_ref07_Cell x8), dN a0.fEnd, dT a0.fHidden] 60]) [0, 0, 0, 4, 0, 28, 60, 127, 255, 255, 1023, 2047] [6, 7] _ (by decide +kernel) (by decide +kernel) (fun _ => rfl) (fun _ => rfl) ?_ (fun _ => rfl) (fun _ => rfl) ?_
 rotate_left
 · intro env9
   show T X _ _ _
   refine T.ret ?_
   obtain rfl := osi h0
   exact rP [] [6, 7] [0] rfl rfl rfl undef (cV 0 rfl rfl rfl rfl (cT rfl ResL.nil)) rfl rfl rfl rfl
 refine oT (.agg [.sl 3 (List.map e_ref07_Cell x8), dN a0.fEnd, dT a0.fHidden]) (fun _ _ => OpR.loadPtr 1 rfl rfl rfl rfl) ?_
 iterate 4 refine aC ?_
 refine oT (.nod [.val (.string (bs x10.fS)), .val (.string (bs x10.fRaw)), dT x10.fKept]) (fun _ _ => OpR.indexM e_ref07_Cell hx10 rfl rfl rfl rfl rfl) ?_
 refine aC ?_
 refine oT (.tup [.agg [.sl 3 (List.map e_ref07_Cell x11.1.fCells), dN x11.1.fEnd, dT x11.1.fHidden], dN x11.2]) (fun _ _ => OpR.call0 fn139 (ref08_Insert_c hx11) rfl) ?_
 iterate 2 refine aC ?_
 refine OpsS.cons' true ?_ (fun _ _ _ _ _ _ _ => rfl) ?_
 · intro D env9 hA
   exact OpS.yp [(10, false)] ⟨hA.me, trivial⟩ (Want.plain rfl) (OpR.store 0 rfl rfl rfl rfl rfl rfl rfl rfl) (fun x => rfl) (fun x => rfl)
 refine aC ?_
 exact trivial
noncomputable def ref12_Move.l1 (a0 : ref11_Grid) (a1 : Int) (a2 : Int) (t9 : Int × Int) (s14 : Int × (List ref08_Row)) : Option (Lp (Int × (List ref08_Row)) (List ref08_Row)) :=
  if s14.1 < (a0.fRows.length : Int) then
    bnd (idx a0.fRows s14.1) fun x23 =>
    bnd (if (x23.fCells.length : Int) > t9.1 then
      bnd (ref08_Pad_2 x23 (w64 (t9.2 + 1))) fun x27 =>
      bnd (ref08_Move x27 a1 a2) fun x28 =>
      some (x28.1.fCells, x28.1.fEnd, x28.1.fHidden)
    else
      some (x23.fCells, x23.fEnd, x23.fHidden) : Option ((List ref07_Cell) × Int × Bool)) fun t25 =>
    bnd (app 40 s14.2 [(⟨t25.1, t25.2.1, t25.2.2⟩ : ref08_Row)]) fun x29 =>
    some (Lp.next (w64 (s14.1 + 1), x29))
  else
    some (Lp.done s14.2)
noncomputable def ref12_Move (a0 : ref11_Grid) (a1 : Int) (a2 : Int) : Option (ref11_Grid × Int) :=
  bnd (ref11_Width a0) fun x2 =>
  bnd (if a1 < 0 then
    some true
  else
    if a2 < 0 then
      some true
    else
      if a1 ≥ x2 then
        some true
      else
        some (decide (a2 ≥ x2)) : Option Bool) fun t3 =>
  if t3 = true then
    some ((⟨[], false, 0⟩ : ref11_Grid), 5)
  else
    if a1 = a2 then
      some (a0, 0)
    else
      bnd (if a2 < a1 then
        some (a2, a1)
      else
        some (a1, a2) : Option (Int × Int)) fun t9 =>
      bnd (loop (ref12_Move.l1 a0 a1 a2 t9) (0, []) : Option (List ref08_Row)) fun t11 =>
      bnd (ref11_With a0 t11) fun x31 =>
      some ((⟨t11, x31.1, x31.2⟩ : ref11_Grid), 0)
theorem ref12_Move_c {a0 : ref11_Grid} {a1 : Int} {a2 : Int} {res : ref11_Grid × Int} (h0 : ref12_Move a0 a1 a2 = some res) : CallF X 73 [.agg [.sl 3 (List.map e_ref08_Row a0.fRows), dT a0.fTail, dN a0.fEnd], dN a1, dN a2] [] (fun x => .tup [.agg [.sl 3 (List.map e_ref08_Row res.1.fRows), dT res.1.fTail, dN res.1.fEnd], dN res.2]) (fun x => []) := by
 unfold ref12_Move at h0
 refine CallF.mkG (X := X) rfl Tryz.func73 rfl rfl Tryz.ntmps73 rfl rfl ?_
 refine aS ?_
 refine TL.op1 (OpR.boxImm rfl rfl) rfl ?_
 refine TL.op (OpR.alloc rfl rfl (fun _ => rfl)) rfl (fun p1 => ?_)
 refine aA rfl rfl ?_
 refine aN rfl ?_
 refine aS ?_
 refine aA rfl rfl ?_
 obtain ⟨x2, hx2, h0⟩ := bS h0
 refine TL.op1 (OpR.call0 fn78 (ref11_Width_c hx2) rfl) rfl ?_
 refine aA rfl rfl ?_
 refine aN rfl ?_
 refine T.seq ?_
 refine T.seq ?_
 obtain ⟨t3, ht3, h0⟩ := bS h0
 refine T.cutC (fun S' => S' = ⟨[(31, (dT t3)), (7, (dN 0)), (6, (dP (blk p1))), (3, .nod [.sl 3 (List.map e_ref08_Row a0.fRows), dT a0.fTail, dN a0.fEnd]), (2, (dN a2)), (1, (dN a1))], [.var (blk p1) [.val (.slice none 0 0), dT false, dN 0] 31], 74⟩) (fun _ h => h) ?_ ?_
 · refine T.region ?_
   iterate 3 refine aA rfl rfl ?_
   rcases ite_some ht3 with ⟨c4, ht3⟩ | ⟨c4, ht3⟩
   · refine TL.off rfl rfl rfl rfl (eT c4) rfl rfl ?_
     refine TL.off rfl rfl rfl rfl (eT c4) rfl rfl ?_
     refine TL.op1 (OpR.pickT rfl (eT c4) rfl) rfl ?_
     refine aA rfl rfl ?_
     refine TL.off rfl rfl rfl rfl rfl rfl rfl ?_
     refine TL.off rfl rfl rfl rfl rfl rfl rfl ?_
     refine TL.off rfl rfl rfl rfl rfl rfl rfl ?_
     refine TL.op1 (OpR.pickT rfl rfl rfl) rfl ?_
     refine aA rfl rfl ?_
     refine TL.off rfl rfl rfl rfl rfl rfl rfl ?_
     refine TL.off rfl rfl rfl rfl rfl rfl rfl ?_
     refine TL.off rfl rfl rfl rfl rfl rfl rfl ?_
     refine TL.op1 (OpR.pickT rfl rfl rfl) rfl ?_
     refine TL.nil ?_
     obtain rfl := osi ht3
     exact ⟨_, Gst.only [1, 2, 3, 6, 7, 31] rfl, rfl⟩
   refine TL.on rfl rfl rfl rfl (eF c4) ?_
   refine aA rfl rfl ?_
   refine TL.on rfl rfl rfl rfl (eF c4) ?_
   refine aA rfl rfl ?_
   refine TL.op1 (OpR.pickF rfl (eF c4) rfl) rfl ?_
   refine aA rfl rfl ?_
   rcases ite_some ht3 with ⟨c5, ht3⟩ | ⟨c5, ht3⟩
   · refine TL.off rfl rfl rfl rfl (eT c5) rfl rfl ?_
     refine TL.off rfl rfl rfl rfl (eT c5) rfl rfl ?_
     refine TL.off rfl rfl rfl rfl (eT c5) rfl rfl ?_
     refine TL.op1 (OpR.pickT rfl (eT c5) rfl) rfl ?_
     refine aA rfl rfl ?_
     refine TL.off rfl rfl rfl rfl rfl rfl rfl ?_
     refine TL.off rfl rfl rfl rfl rfl rfl rfl ?_
     refine TL.off rfl rfl rfl rfl rfl rfl rfl ?_
     refine TL.op1 (OpR.pickT rfl rfl rfl) rfl ?_
     refine TL.nil ?_
     obtain rfl := osi ht3
     exact ⟨_, Gst.only [1, 2, 3, 6, 7, 31] rfl, rfl⟩
   refine TL.on rfl rfl rfl rfl (eF c5) ?_
   refine aA rfl rfl ?_
   refine TL.on rfl rfl rfl rfl (eF c5) ?_
   refine aA rfl rfl ?_
   refine TL.on rfl rfl rfl rfl (eF c5) ?_
   refine aA rfl rfl ?_
   refine TL.op1 (OpR.pickF rfl (eF c5) rfl) rfl ?_
   refine aA rfl rfl ?_
   rcases ite_some ht3 with ⟨c6, ht3⟩ | ⟨c6, ht3⟩
   · refine TL.off rfl rfl rfl rfl (eT c6) rfl rfl ?_
     refine TL.off rfl rfl rfl rfl (eT c6) rfl rfl ?_
     refine TL.off rfl rfl rfl rfl (eT c6) rfl rfl ?_
     refine TL.op1 (OpR.pickT rfl (eT c6) rfl) rfl ?_
     refine TL.nil ?_
     obtain rfl := osi ht3
     exact ⟨_, Gst.only [1, 2, 3, 6, 7, 31] rfl, rfl⟩
   refine TL.on rfl rfl rfl rfl (eF c6) ?_
   refine aA rfl rfl ?_
   refine TL.on rfl rfl rfl rfl (eF c6) ?_
   refine aA rfl rfl ?_
   refine TL.on rfl rfl rfl rfl (eF c6) ?_
   refine aA rfl rfl ?_
   refine TL.op1 (OpR.pickF rfl (eF c6) rfl) rfl ?_
   refine TL.nil ?_
   obtain rfl := osi ht3
   exact ⟨_, Gst.only [1, 2, 3, 6, 7, 31] rfl, rfl⟩
 rintro _ rfl
 show T X _ _ _
 rcases ite_some h0 with ⟨c7, h0⟩ | ⟨c7, h0⟩
 · refine T.condT rfl (c7) ?_
   refine aS ?_
   refine TL.op1 (OpR.build rfl rfl rfl rfl rfl) rfl ?_
   refine TL.op0 (OpR.store 0 rfl rfl rfl rfl rfl rfl rfl rfl) ?_
   refine aA rfl rfl ?_
   refine aN rfl ?_
   refine T.ret ?_
   obtain rfl := osi h0
   exact PostG.retP (ks := []) (Gst.trans (Gst.only [6, 7] rfl) (Gst.denil (ReS.cons Re.refl (ReS.cons Re.refl ReS.nil)) (ReO.var (ReL.cons (Re.base .nil) (ReL.cons Re.refl (ReL.cons Re.refl ReL.nil))) ReO.nil))) undef (cV 0 rfl rfl rfl rfl (cT rfl ResL.nil)) rfl rfl rfl rfl
 refine T.condF rfl (eq_false_of_ne_true c7) ?_
 refine aK rfl ?_
 refine T.seq ?_
 refine aS ?_
 iterate 3 refine aA rfl rfl ?_
 refine aN rfl ?_
 rcases ite_some h0 with ⟨c8, h0⟩ | ⟨c8, h0⟩
 · refine T.condT rfl (beq_iff_eq.2 c8) ?_
   refine aS ?_
   refine aA rfl rfl ?_
   refine TL.op0 (OpR.store 0 rfl rfl rfl rfl rfl rfl rfl rfl) ?_
   refine aA rfl rfl ?_
   refine aN rfl ?_
   refine T.ret ?_
   obtain rfl := osi h0
   exact rO [] [6, 7] rfl undef (cV 0 rfl rfl rfl rfl (cT rfl ResL.nil)) rfl rfl rfl rfl
 refine T.condF rfl (beq_eq_false_iff_ne.2 c8) ?_
 refine aK rfl ?_
 refine aS ?_
 iterate 4 refine aA rfl rfl ?_
 refine aN rfl ?_
 refine T.seq ?_
 refine aS ?_
 iterate 3 refine aA rfl rfl ?_
 refine aN rfl ?_
 obtain ⟨t9, ht9, h0⟩ := bS h0
 refine T.cutC (fun S' => S' = ⟨[(10, (dN t9.2)), (9, (dN t9.1)), (7, (dN 0)), (6, (dP (blk p1))), (3, .nod [.sl 3 (List.map e_ref08_Row a0.fRows), dT a0.fTail, dN a0.fEnd]), (2, (dN a2)), (1, (dN a1))], [.var (blk p1) [.val (.slice none 0 0), dT false, dN 0] 31], 74⟩) (fun _ h => h) ?_ ?_
 · rcases ite_some ht9 with ⟨c10, ht9⟩ | ⟨c10, ht9⟩
   rotate_left
   · refine T.condF rfl (eF c10) ?_
     refine T.skip ?_
     obtain rfl := osi ht9
     exact ⟨_, Gst.only [1, 2, 3, 6, 7, 9, 10] rfl, rfl⟩
   refine T.condT rfl (eT c10) ?_
   refine T.region ?_
   iterate 4 refine aA rfl rfl ?_
   refine TL.nil ?_
   obtain rfl := osi ht9
   exact ⟨_, Gst.only [1, 2, 3, 6, 7, 9, 10] rfl, rfl⟩
 rintro _ rfl
 show T X _ _ _
 refine aS ?_
 refine aA rfl rfl ?_
 refine aN rfl ?_
 refine T.seq ?_
 refine aS ?_
 iterate 2 refine aA rfl rfl ?_
 refine TL.op1 (OpR.cast (OpR.pure rfl) (intE (lenM _ _))) rfl ?_
 refine aA rfl rfl ?_
 refine aN rfl ?_
 obtain ⟨t11, ht11, h0⟩ := bS h0
 refine T.cutC (fun S' => ∃ y12 : Value, S' = ⟨[(11, .val y12), (7, (dN 0)), (6, (dP (blk p1))), (3, .nod [.sl 3 (List.map e_ref08_Row a0.fRows), dT a0.fTail, dN a0.fEnd])], [.var (blk p1) [.val (.slice none 0 0), dT false, dN 0] 31, .row y12 (List.map e_ref08_Row t11) 3 60], 74⟩) (fun _ h => h) ?_ ?_
 rotate_left
 · rintro _ ⟨y12, rfl⟩
   show T X _ _ _
   refine aS ?_
   iterate 2 refine aA rfl rfl ?_
   obtain ⟨x31, hx31, h0⟩ := bS h0
   refine TL.op1 (OpR.call [1] fn122 (ref11_With_c hx31) rfl rfl rfl (fun _ => rfl)) rfl ?_
   refine TL.op0 (OpR.store 0 rfl rfl rfl rfl rfl rfl rfl rfl) ?_
   refine aA rfl rfl ?_
   refine aN rfl ?_
   refine T.ret ?_
   obtain rfl := osi h0
   exact PostG.retP (ks := []) (Gst.trans (Gst.only [6, 7] rfl) (Gst.trans (Gst.freezeRow 1 rfl rfl (ReS.cons Re.refl (ReS.cons Re.refl ReS.nil)) (ReO.var (ReL.cons (Re.base .all) (ReL.cons Re.refl (ReL.cons Re.refl ReL.nil))) (ReO.same ReO.nil))) (Gst.pick [0] rfl rfl))) undef (cV 0 rfl rfl rfl rfl (cT rfl ResL.nil)) rfl rfl rfl rfl
 refine T.block ?_
 obtain ⟨n15, n20⟩ := loop_some ht11
 refine T.loop (fun n S' => ∃ S'', Gst S' S'' ∧ ∃ y13 : Value, ∃ s14 : Int × (List ref08_Row), S'' = ⟨[(47, (dN s14.1)), (46, (dN (a0.fRows.length : Int))), (45, .sl 3 (List.map e_ref08_Row a0.fRows)), (11, .val y13), (10, (dN t9.2)), (9, (dN t9.1)), (7, (dN 0)), (6, (dP (blk p1))), (3, .nod [.sl 3 (List.map e_ref08_Row a0.fRows), dT a0.fTail, dN a0.fEnd]), (2, (dN a2)), (1, (dN a1))], [.var (blk p1) [.val (.slice none 0 0), dT false, dN 0] 31, .row y13 (List.map e_ref08_Row s14.2) 3 60], 74⟩ ∧ iter (ref12_Move.l1 a0 a1 a2 t9) n s14 = some t11) n15 ?_ ?_
 · exact ⟨_, Gst.trans (Gst.only [1, 2, 3, 6, 7, 9, 10, 11, 45, 46, 47] rfl) (Gst.nilRow (ow := [.var (blk p1) [.val (.slice none 0 0), dT false, dN 0] 31]) 3 60 rfl), (.slice none 0 0), (0, []), rfl, n20⟩
 rintro n15 _ ⟨_, g, y13, s14, rfl, i19⟩
 refine T.ghost g ?_
 obtain ⟨m16, q17, rfl, q18, i19⟩ := iter_succ i19
 unfold ref12_Move.l1 at q18
 refine aS ?_
 refine aA rfl rfl ?_
 refine aN rfl ?_
 refine T.seq ?_
 rcases ite_some q18 with ⟨c22, q18⟩ | ⟨c22, q18⟩
 rotate_left
 · refine T.condF rfl (eF c22) ?_
   refine T.exit ?_
   obtain rfl := osi q18
   obtain rfl : _ = _ := i19
   exact ⟨_, Gst.only [3, 6, 7, 11] rfl, y13, rfl⟩
 refine T.condT rfl (eT c22) ?_
 refine aK rfl ?_
 refine T.seq ?_
 refine T.block ?_
 refine aS ?_
 obtain ⟨x23, hx23, q18⟩ := bS q18
 refine TL.op1 (OpR.indexM e_ref08_Row hx23 rfl rfl rfl rfl rfl) rfl ?_
 refine aA rfl rfl ?_
 refine TL.op (OpR.alloc rfl rfl (fun _ => rfl)) rfl (fun p24 => ?_)
 refine TL.op0 (OpR.store 2 rfl rfl rfl rfl rfl rfl rfl rfl) ?_
 refine aN rfl ?_
 refine T.seq ?_
 refine aS ?_
 refine aA rfl rfl ?_
 refine TL.op1 (OpR.loadPtr 2 rfl rfl rfl rfl) rfl ?_
 refine TL.op1 (OpR.cast (OpR.pure rfl) (intE (lenM _ _))) rfl ?_
 iterate 2 refine aA rfl rfl ?_
 refine aN rfl ?_
 obtain ⟨t25, ht25, q18⟩ := bS q18
 refine T.cutC (fun S' => S' = ⟨[(47, (dN s14.1)), (46, (dN (a0.fRows.length : Int))), (45, .sl 3 (List.map e_ref08_Row a0.fRows)), (13, (dP (blk p24))), (11, .val y13), (10, (dN t9.2)), (9, (dN t9.1)), (7, (dN 0)), (6, (dP (blk p1))), (3, .nod [.sl 3 (List.map e_ref08_Row a0.fRows), dT a0.fTail, dN a0.fEnd]), (2, (dN a2)), (1, (dN a1))], [.var (blk p1) [.val (.slice none 0 0), dT false, dN 0] 31, .row y13 (List.map e_ref08_Row s14.2) 3 60, .var (blk p24) [.sl 3 (List.map e_ref07_Cell t25.1), dN t25.2.1, dT t25.2.2] 60], 74⟩) (fun _ h => h) ?_ ?_
 rotate_left
 · rintro _ rfl
   show T X _ _ _
   refine T.region ?_
   refine aA rfl rfl ?_
   refine TL.op1 (OpR.loadPtr 2 rfl rfl rfl rfl) rfl ?_
   refine TL.op1 (OpR.lit rfl rfl rfl rfl rfl rfl rfl) rfl ?_
   obtain ⟨x29, hx29, q18⟩ := bS q18
   refine TL.op (OpR.appendM (m := [(⟨t25.1, t25.2.1, t25.2.2⟩ : ref08_Row)]) e_ref08_Row 1 hx29 rfl rfl rfl rfl rfl rfl rfl rfl rfl (fun _ => rfl)) rfl (fun v30 => ?_)
   refine aA rfl rfl ?_
   refine aN rfl ?_
   refine T.region ?_
   iterate 2 refine aA rfl rfl ?_
   refine TL.nil ?_
   obtain rfl := osi q18
   exact ⟨m16, Nat.lt_succ_self _, _, gP [1, 2, 3, 6, 7, 9, 10, 11, 45, 46, 47] [0, 1] rfl rfl rfl, v30, (w64 (s14.1 + 1), x29), rfl, i19⟩
 rcases ite_some ht25 with ⟨c26, ht25⟩ | ⟨c26, ht25⟩
 rotate_left
 · refine T.condF rfl (eF c26) ?_
   refine T.skip ?_
   obtain rfl := osi ht25
   exact ⟨_, Gst.only [1, 2, 3, 6, 7, 9, 10, 11, 13, 45, 46, 47] rfl, rfl⟩
 refine T.condT rfl (eT c26) ?_
 refine T.region ?_
 refine TL.op1 (OpR.loadPtr 2 rfl rfl rfl rfl) rfl ?_
 iterate 2 refine aA rfl rfl ?_
 obtain ⟨x27, hx27, ht25⟩ := bS ht25
 refine TL.op1 (OpR.call0 fn143 (ref08_Pad_2_c hx27) rfl) rfl ?_
 iterate 2 refine aA rfl rfl ?_
 obtain ⟨x28, hx28, ht25⟩ := bS ht25
 refine TL.op1 (OpR.call0 fn142 (ref08_Move_c hx28) rfl) rfl ?_
 iterate 3 refine aA rfl rfl ?_
 refine TL.op0 (OpR.store 2 rfl rfl rfl rfl rfl rfl rfl rfl) ?_
 refine TL.nil ?_
 obtain rfl := osi ht25
 exact ⟨_, Gst.only [1, 2, 3, 6, 7, 9, 10, 11, 13, 45, 46, 47] rfl, rfl⟩
noncomputable def cols_Pad_1 (a0 : Int) (a1 : row_Row) (a2 : Int) : Option row_Row :=
  bnd (row_Row_Pad a1 a2) fun x2 =>
  some x2
theorem cols_Pad_1_c {a0 : Int} {a1 : row_Row} {a2 : Int} {b0 : Nat} {res : row_Row} (h0 : cols_Pad_1 a0 a1 a2 = some res) : CallF X 138 [dN a0, .agg [.sl 5 (List.map e_cell_Cell a1.fCells), dN a1.fEnd, dT a1.fHidden], dP b0] [.var b0 [dN a2] 3] (fun x => .agg [.sl 5 (List.map e_cell_Cell res.fCells), dN res.fEnd, dT res.fHidden]) (fun x => [.var b0 [dN a2] 3]) := by
 unfold cols_Pad_1 at h0
 refine CallF.mkG (X := X) rfl Tryz.func138 rfl rfl Tryz.ntmps138 rfl rfl ?_
 refine aS ?_
 refine TL.op1 (OpR.boxImm rfl rfl) rfl ?_
 refine TL.op (OpR.alloc rfl rfl (fun _ => rfl)) rfl (fun p1 => ?_)
 refine aN rfl ?_
 refine aS ?_
 refine aA rfl rfl ?_
 refine TL.op1 (OpR.loadPtr 0 rfl rfl rfl rfl) rfl ?_
 obtain ⟨x2, hx2, h0⟩ := bS h0
 refine TL.op1 (OpR.call0 fn90 (row_Row_Pad_c hx2) rfl) rfl ?_
 refine TL.op0 (OpR.store 1 rfl rfl rfl rfl rfl rfl rfl rfl) ?_
 refine aN rfl ?_
 refine T.ret ?_
 obtain rfl := osi h0
 exact rO [0] [5] rfl undef (cV 1 rfl rfl rfl rfl ResL.nil) rfl rfl rfl rfl
noncomputable def walk_Map_row_Row_2.l1 (a1 : Int) (x3 : (List row_Row)) (s6 : Int × (List row_Row)) : Option (Lp (Int × (List row_Row)) (List row_Row)) :=
  if s6.1 < (x3.length : Int) then
    bnd (idx s6.2 s6.1) fun x15 =>
    bnd (cols_Pad_1 s6.1 x15 a1) fun x17 =>
    some (Lp.next (w64 (s6.1 + 1), (s6.2.set s6.1.toNat x17)))
  else
    some (Lp.done s6.2)
noncomputable def walk_Map_row_Row_2 (a0 : tTr) (a1 : Int) : Option tTr :=
  bnd (walk_All_row_Row a0) fun x2 =>
  bnd (slices_Clone_row_Row_row_Row x2) fun x3 =>
  bnd (loop (walk_Map_row_Row_2.l1 a1 x3) (0, x3) : Option (List row_Row)) fun t5 =>
  bnd (tree_Of_row_Row t5) fun x18 =>
  some x18
theorem walk_Map_row_Row_2_c {a0 : tTr} {a1 : Int} {b0 : Nat} {res : tTr} (h0 : walk_Map_row_Row_2 a0 a1 = some res) : CallF X 137 [.agg [(eOP a0.fRoot)], .fn (.func 138) [] [dP b0]] [.var b0 [dN a1] 3] (fun x => .agg [(eOP res.fRoot)]) (fun x => [.var b0 [dN a1] 3]) := by
 unfold walk_Map_row_Row_2 at h0
 refine CallF.mkG (X := X) rfl Tryz.func137 rfl rfl Tryz.ntmps137 rfl rfl ?_
 refine aS ?_
 refine TL.op1 (OpR.boxImm rfl rfl) rfl ?_
 refine TL.op (OpR.alloc rfl rfl (fun _ => rfl)) rfl (fun p1 => ?_)
 refine aN rfl ?_
 refine aS ?_
 refine aA rfl rfl ?_
 obtain ⟨x2, hx2, h0⟩ := bS h0
 refine TL.op1 (OpR.call0 fn100 (walk_All_row_Row_c hx2) rfl) rfl ?_
 obtain ⟨x3, hx3, h0⟩ := bS h0
 refine TL.op (OpR.call [] fn191 (slices_Clone_row_Row_row_Row_c hx3) rfl rfl rfl (fun _ => rfl)) rfl (fun w4 => ?_)
 refine aA rfl rfl ?_
 refine aN rfl ?_
 refine T.seq ?_
 refine aS ?_
 refine aA rfl rfl ?_
 refine TL.op1 (OpR.rowLenM e_row_Row 2 rfl rfl rfl rfl) rfl ?_
 refine aA rfl rfl ?_
 refine aN rfl ?_
 obtain ⟨t5, ht5, h0⟩ := bS h0
 refine T.cutC (fun S' => S' = ⟨[(5, .val (vn w4 0)), (4, (dP (blk p1)))], [.var b0 [dN a1] 3, .var (blk p1) [(eOP none)] 25, .row (vn w4 0) (List.map e_row_Row t5) 3 49], 28⟩) (fun _ h => h) ?_ ?_
 rotate_left
 · rintro _ rfl
   show T X _ _ _
   refine aS ?_
   refine aA rfl rfl ?_
   refine TL.ghost (Gst.freezeRow 2 rfl rfl (ReS.cons (Re.base .all) (ReS.refl _)) (ReO.same (ReO.same (ReO.same ReO.nil)))) ?_
   obtain ⟨x18, hx18, h0⟩ := bS h0
   refine TL.op1 (OpR.call0 fn101 (tree_Of_row_Row_c hx18) rfl) rfl ?_
   refine TL.op0 (OpR.store 1 rfl rfl rfl rfl rfl rfl rfl rfl) ?_
   refine aN rfl ?_
   refine T.ret ?_
   obtain rfl := osi h0
   exact rP [0] [4] [0, 1] rfl rfl rfl undef (cV 1 rfl rfl rfl rfl ResL.nil) rfl rfl rfl rfl
 refine T.block ?_
 obtain ⟨n7, n12⟩ := loop_some ht5
 refine T.loop (fun n S' => ∃ S'', Gst S' S'' ∧ ∃ s6 : Int × (List row_Row), S'' = ⟨[(13, (dN s6.1)), (12, (dN (x3.length : Int))), (11, .val (vn w4 0)), (5, .val (vn w4 0)), (4, (dP (blk p1))), (1, .fn (.func 138) [] [dP b0])], [.var b0 [dN a1] 3, .var (blk p1) [(eOP none)] 25, .row (vn w4 0) (List.map e_row_Row s6.2) 3 49], 28⟩ ∧ iter (walk_Map_row_Row_2.l1 a1 x3) n s6 = some t5) n7 ?_ ?_
 · exact ⟨_, Gst.only [1, 4, 5, 11, 12, 13] rfl, (0, x3), rfl, n12⟩
 rintro n7 _ ⟨_, g, s6, rfl, i11⟩
 refine T.ghost g ?_
 obtain ⟨m8, q9, rfl, q10, i11⟩ := iter_succ i11
 unfold walk_Map_row_Row_2.l1 at q10
 refine aS ?_
 refine aA rfl rfl ?_
 refine aN rfl ?_
 refine T.seq ?_
 rcases ite_some q10 with ⟨c14, q10⟩ | ⟨c14, q10⟩
 rotate_left
 · refine T.condF rfl (eF c14) ?_
   refine T.exit ?_
   obtain rfl := osi q10
   obtain rfl : _ = _ := i11
   exact ⟨_, Gst.only [4, 5] rfl, rfl⟩
 refine T.condT rfl (eT c14) ?_
 refine aK rfl ?_
 refine T.seq ?_
 refine T.block ?_
 refine aS ?_
 refine aA rfl rfl ?_
 obtain ⟨x15, hx15, q10⟩ := bS q10
 refine TL.op1 (OpR.rowIndexM e_row_Row 2 hx15 rfl rfl rfl rfl rfl rfl rfl) rfl ?_
 refine TL.op1 (OpR.rowLoad0M (j := s6.1) e_row_Row 2 hx15 rfl rfl rfl rfl) rfl ?_
 refine TL.op (OpR.alloc rfl rfl (fun _ => rfl)) rfl (fun p16 => ?_)
 refine aA rfl rfl ?_
 refine TL.op0 (OpR.store 3 rfl rfl rfl rfl rfl rfl rfl rfl) ?_
 refine aN rfl ?_
 refine T.region ?_
 iterate 4 refine aA rfl rfl ?_
 refine TL.op1 (OpR.loadPtr 3 rfl rfl rfl rfl) rfl ?_
 obtain ⟨x17, hx17, q10⟩ := bS q10
 refine TL.op1 (OpR.callV [0] rfl fn138 (cols_Pad_1_c hx17) rfl rfl rfl (fun _ => rfl)) rfl ?_
 refine TL.op1 (OpR.rowIndexM e_row_Row 2 hx15 rfl rfl rfl rfl rfl rfl rfl) rfl ?_
 refine TL.op0 (OpR.rowStore0M (j := s6.1) e_row_Row x17 2 hx15 rfl rfl rfl rfl rfl rfl rfl rfl rfl) ?_
 refine aN rfl ?_
 refine T.region ?_
 iterate 2 refine aA rfl rfl ?_
 refine TL.nil ?_
 obtain rfl := osi q10
 exact ⟨m8, Nat.lt_succ_self _, _, gP [1, 4, 5, 11, 12, 13] [0, 1, 2] rfl rfl rfl, (w64 (s6.1 + 1), (s6.2.set s6.1.toNat x17)), rfl, i11⟩
noncomputable def cols_Pad (a0 : grid_Grid) : Option grid_Grid :=
  bnd (grid_Grid_Width a0) fun x3 =>
  bnd (walk_Map_row_Row_2 a0.fRows x3) fun x5 =>
  some (⟨x5, a0.fTail, a0.fEnd⟩ : grid_Grid)
theorem cols_Pad_c {a0 : grid_Grid} {res : grid_Grid} (h0 : cols_Pad a0 = some res) : CallF X 70 [.agg [(eOP a0.fRows.fRoot), dT a0.fTail, dN a0.fEnd]] [] (fun x => .agg [(eOP res.fRows.fRoot), dT res.fTail, dN res.fEnd]) (fun x => []) := by
 unfold cols_Pad at h0
 refine CallF.mkG (X := X) rfl Tryz.func70 rfl rfl Tryz.ntmps70 rfl rfl ?_
 refine aS ?_
 refine TL.op (OpR.boxVar rfl rfl (fun _ => rfl)) rfl (fun p1 => ?_)
 refine TL.op (OpR.alloc rfl rfl (fun _ => rfl)) rfl (fun p2 => ?_)
 refine aN rfl ?_
 refine aS ?_
 refine TL.op1 (OpR.loadPtr 0 rfl rfl rfl rfl) rfl ?_
 obtain ⟨x3, hx3, h0⟩ := bS h0
 refine TL.op1 (OpR.call0 fn23 (grid_Grid_Width_c hx3) rfl) rfl ?_
 refine TL.op (OpR.alloc rfl rfl (fun _ => rfl)) rfl (fun p4 => ?_)
 refine TL.op0 (OpR.store 2 rfl rfl rfl rfl rfl rfl rfl rfl) ?_
 refine aN rfl ?_
 refine aS ?_
 refine aA rfl rfl ?_
 refine TL.op1 (OpR.loadPtr 0 rfl rfl rfl rfl) rfl ?_
 refine aA rfl rfl ?_
 obtain ⟨x5, hx5, h0⟩ := bS h0
 refine TL.op1 (OpR.call [2] fn137 (walk_Map_row_Row_2_c hx5) rfl rfl rfl (fun _ => rfl)) rfl ?_
 refine aA rfl rfl ?_
 refine TL.op0 (OpR.store 0 rfl rfl rfl rfl rfl rfl rfl rfl) ?_
 refine aN rfl ?_
 refine aS ?_
 refine TL.op1 (OpR.loadPtr 0 rfl rfl rfl rfl) rfl ?_
 refine TL.op0 (OpR.store 1 rfl rfl rfl rfl rfl rfl rfl rfl) ?_
 refine aN rfl ?_
 refine T.ret ?_
 obtain rfl := osi h0
 exact rP [] [2] [1] rfl rfl rfl undef (cV 0 rfl rfl rfl rfl ResL.nil) rfl rfl rfl rfl
end Go.Proofs.YtpmhiiemklhbhaaGreat.S
