/- Printed by a program of this session's own (gen.py): Lean functions for Go functions, and the proofs that the Go code comes to their answers. -/
import Derived.Test.YtpmhiiemklhbhaaGreatG1xb
import Derived.Test.YtpmhiiemklhbhaaGreatG1xa
set_option maxHeartbeats 4000000
set_option linter.unusedVariables false
set_option linter.unusedSimpArgs false
set_option maxRecDepth 20000
namespace Go.Proofs.YtpmhiiemklhbhaaGreat.S
open Go Go.Sm
attribute [local irreducible] T TL OpR CallT iter loop
theorem row_Row_ahead_c_2 {a0 : row_Row} {a1 : Int} {res : (List cell_Cell)} (h0 : row_Row_ahead a0 a1 = some res) : CallF X 156 [.agg [.sl 5 (List.map e_cell_Cell a0.fCells), dN a0.fEnd, dT a0.fHidden], dN a1] [] (fun x => .slx 5 (List.map e_cell_Cell res)) (fun x => []) := by
 unfold row_Row_ahead at h0
 refine CallF.mkG (X := X) rfl Tryz.func156 rfl rfl Tryz.ntmps156 rfl rfl ?_
 refine aS ?_
 refine TL.op1 (OpR.boxImm rfl rfl) rfl ?_
 refine aA rfl rfl ?_
 refine aN rfl ?_
 refine aS ?_
 iterate 4 refine aA rfl rfl ?_
 obtain ⟨x1, hx1, h0⟩ := bS h0
 refine TL.op1 (OpR.slice3M (sz := 5) e_cell_Cell hx1 rfl rfl rfl rfl (BdM.some rfl) rfl rfl rfl) rfl ?_
 refine aA rfl rfl ?_
 refine aN rfl ?_
 refine T.ret ?_
 obtain rfl := osi h0
 exact rO [] [4] rfl undef (cT rfl ResL.nil) rfl rfl rfl rfl
noncomputable def slices_Grow_cell_Cell_cell_Cell (a0 : Int) : Option (List cell_Cell) :=
  if a0 < 0 then
    none
  else
    bnd (if (w64 (a0 - 0)) > 0 then
      bnd (mkg 56 (w64 (a0 - 0))) fun x5 =>
      some []
    else
      some [] : Option (List cell_Cell)) fun t2 =>
    some t2
theorem slices_Grow_cell_Cell_cell_Cell_c {a0 : Int} {res : (List cell_Cell)} (h0 : slices_Grow_cell_Cell_cell_Cell a0 = some res) : CallF X 202 [.val (.slice none 0 0), dN a0] [] (fun x => .val (vn x 0)) (fun x => [.row (vn x 0) (List.map e_cell_Cell res) 5 144]) := by
 unfold slices_Grow_cell_Cell_cell_Cell at h0
 refine CallF.mkG (X := X) rfl Tryz.func202 rfl rfl Tryz.ntmps202 rfl rfl ?_
 refine aS ?_
 refine aA rfl rfl ?_
 refine aN rfl ?_
 refine T.seq ?_
 refine aS ?_
 iterate 2 refine aA rfl rfl ?_
 refine aN rfl ?_
 rcases ite_some h0 with ⟨c1, h0⟩ | ⟨c1, h0⟩
 · refine T.condT rfl (eT c1) ?_
   cases h0
 refine T.condF rfl (eF c1) ?_
 refine aK rfl ?_
 refine T.seq ?_
 refine aS ?_
 iterate 2 refine aA rfl rfl ?_
 refine TL.op1 (OpR.capNil rfl rfl rfl) rfl ?_
 iterate 2 refine aA rfl rfl ?_
 refine TL.op1 (OpR.cast (OpR.pure rfl) (intE (show w64 (0 - 0) = 0 by decide))) rfl ?_
 iterate 2 refine aA rfl rfl ?_
 refine aN rfl ?_
 refine aS ?_
 iterate 2 refine aA rfl rfl ?_
 refine aN rfl ?_
 obtain ⟨t2, ht2, h0⟩ := bS h0
 refine T.cutC (fun S' => ∃ y3 : Value, S' = ⟨[(4, .val (.slice none 0 0)), (0, .val y3)], [.row y3 (List.map e_cell_Cell t2) 5 144], 27⟩) (fun _ h => h) ?_ ?_
 rotate_left
 · rintro _ ⟨y3, rfl⟩
   show T X _ _ _
   refine aS ?_
   iterate 2 refine aA rfl rfl ?_
   refine aN rfl ?_
   refine T.ret ?_
   obtain rfl := osi h0
   exact rO [0] [4] rfl (.tuple #[y3]) (cT rfl ResL.nil) rfl rfl rfl rfl
 rcases ite_some ht2 with ⟨c4, ht2⟩ | ⟨c4, ht2⟩
 rotate_left
 · refine T.condF rfl (eF c4) ?_
   refine T.skip ?_
   obtain rfl := osi ht2
   exact ⟨_, Gst.trans (Gst.only [0, 4] rfl) (Gst.nilRow (ow := []) 5 144 rfl), (.slice none 0 0), rfl⟩
 refine T.condT rfl (eT c4) ?_
 refine T.region ?_
 iterate 2 refine aA rfl rfl ?_
 refine TL.op1 (OpR.capNil rfl rfl rfl) rfl ?_
 refine TL.op1 (OpR.sliceNil rfl rfl rfl rfl rfl) rfl ?_
 refine aA rfl rfl ?_
 obtain ⟨x5, hx5, ht2⟩ := bS ht2
 refine TL.op (OpR.appendZ hx5 rfl rfl rfl rfl rfl rfl rfl rfl rfl rfl (fun _ => rfl)) rfl (fun v6 => ?_)
 iterate 2 refine aA rfl rfl ?_
 refine TL.op1 (OpR.slice0 0 rfl rfl rfl rfl rfl rfl) rfl ?_
 refine aA rfl rfl ?_
 refine TL.nil ?_
 obtain rfl := osi ht2
 exact ⟨_, Gst.only [0, 4] rfl, (cut0 v6), rfl⟩
noncomputable def slices_Concat_cell_Cell_cell_Cell.l1 (a0 : List (List cell_Cell)) (s2 : Int × Int) : Option (Lp (Int × Int) Int) :=
  if s2.2 < (a0.length : Int) then
    bnd (idx a0 s2.2) fun x11 =>
    if (w64 (s2.1 + (x11.length : Int))) < 0 then
      none
    else
      some (Lp.next (w64 (s2.1 + (x11.length : Int)), w64 (s2.2 + 1)))
  else
    some (Lp.done s2.1)
noncomputable def slices_Concat_cell_Cell_cell_Cell.l2 (a0 : List (List cell_Cell)) (s18 : Int × (List cell_Cell)) : Option (Lp (Int × (List cell_Cell)) (List cell_Cell)) :=
  if s18.1 < (a0.length : Int) then
    bnd (idx a0 s18.1) fun x27 =>
    bnd (app 56 s18.2 x27) fun x28 =>
    some (Lp.next (w64 (s18.1 + 1), x28))
  else
    some (Lp.done s18.2)
noncomputable def slices_Concat_cell_Cell_cell_Cell (a0 : List (List cell_Cell)) : Option (List cell_Cell) :=
  bnd (loop (slices_Concat_cell_Cell_cell_Cell.l1 a0) (0, 0) : Option Int) fun t1 =>
  bnd (slices_Grow_cell_Cell_cell_Cell t1) fun x13 =>
  bnd (loop (slices_Concat_cell_Cell_cell_Cell.l2 a0) (0, x13) : Option (List cell_Cell)) fun t15 =>
  some t15
theorem slices_Concat_cell_Cell_cell_Cell_c {a0 : List (List cell_Cell)} {res : (List cell_Cell)} (h0 : slices_Concat_cell_Cell_cell_Cell a0 = some res) : CallF X 159 [.sl 1 (List.map e_sl47 a0)] [] (fun x => .sl 5 (List.map e_cell_Cell res)) (fun x => []) := by
 unfold slices_Concat_cell_Cell_cell_Cell at h0
 refine CallF.mkG (X := X) rfl Tryz.func159 rfl rfl Tryz.ntmps159 rfl rfl ?_
 refine aS ?_
 refine aA rfl rfl ?_
 refine aN rfl ?_
 refine aS ?_
 refine aA rfl rfl ?_
 refine aN rfl ?_
 refine T.seq ?_
 refine aS ?_
 refine aA rfl rfl ?_
 refine TL.op1 (OpR.cast (OpR.pure rfl) (intE (lenM _ _))) rfl ?_
 refine aA rfl rfl ?_
 refine aN rfl ?_
 obtain ⟨t1, ht1, h0⟩ := bS h0
 refine T.cutC (fun S' => S' = ⟨[(3, (dN t1)), (2, .val (.slice none 0 0)), (0, .sl 1 (List.map e_sl47 a0))], [], 36⟩) (fun _ h => h) ?_ ?_
 · refine T.block ?_
   obtain ⟨n3, n8⟩ := loop_some ht1
   refine T.loop (fun n S' => ∃ S'', Gst S' S'' ∧ ∃ s2 : Int × Int, S'' = ⟨[(11, (dN s2.2)), (10, (dN (a0.length : Int))), (9, .sl 1 (List.map e_sl47 a0)), (3, (dN s2.1)), (2, .val (.slice none 0 0)), (0, .sl 1 (List.map e_sl47 a0))], [], 36⟩ ∧ iter (slices_Concat_cell_Cell_cell_Cell.l1 a0) n s2 = some t1) n3 ?_ ?_
   · exact ⟨_, Gst.only [0, 2, 3, 9, 10, 11] rfl, (0, 0), rfl, n8⟩
   rintro n3 _ ⟨_, g, s2, rfl, i7⟩
   refine T.ghost g ?_
   obtain ⟨m4, q5, rfl, q6, i7⟩ := iter_succ i7
   unfold slices_Concat_cell_Cell_cell_Cell.l1 at q6
   refine aS ?_
   refine aA rfl rfl ?_
   refine aN rfl ?_
   refine T.seq ?_
   rcases ite_some q6 with ⟨c10, q6⟩ | ⟨c10, q6⟩
   rotate_left
   · refine T.condF rfl (eF c10) ?_
     refine T.exit ?_
     obtain rfl := osi q6
     obtain rfl : _ = _ := i7
     exact ⟨_, Gst.only [0, 2, 3] rfl, rfl⟩
   refine T.condT rfl (eT c10) ?_
   refine aK rfl ?_
   refine T.seq ?_
   refine T.block ?_
   refine aS ?_
   obtain ⟨x11, hx11, q6⟩ := bS q6
   refine TL.op1 (OpR.indexM e_sl47 hx11 rfl rfl rfl rfl rfl) rfl ?_
   iterate 2 refine aA rfl rfl ?_
   refine aN rfl ?_
   refine aS ?_
   iterate 2 refine aA rfl rfl ?_
   refine TL.op1 (OpR.cast (OpR.pure rfl) (intE (lenM _ _))) rfl ?_
   iterate 2 refine aA rfl rfl ?_
   refine aN rfl ?_
   refine aS ?_
   iterate 2 refine aA rfl rfl ?_
   refine aN rfl ?_
   rcases ite_some q6 with ⟨c12, q6⟩ | ⟨c12, q6⟩
   · refine T.condT rfl (eT c12) ?_
     cases q6
   refine T.condF rfl (eF c12) ?_
   refine aK rfl ?_
   refine T.region ?_
   iterate 2 refine aA rfl rfl ?_
   refine TL.nil ?_
   obtain rfl := osi q6
   exact ⟨m4, Nat.lt_succ_self _, _, Gst.only [0, 2, 3, 9, 10, 11] rfl, (w64 (s2.1 + (x11.length : Int)), w64 (s2.2 + 1)), rfl, i7⟩
 rintro _ rfl
 show T X _ _ _
 refine aS ?_
 refine aA rfl rfl ?_
 obtain ⟨x13, hx13, h0⟩ := bS h0
 refine TL.op (OpR.call [] fn202 (slices_Grow_cell_Cell_cell_Cell_c hx13) rfl rfl rfl (fun _ => rfl)) rfl (fun w14 => ?_)
 refine aA rfl rfl ?_
 refine aN rfl ?_
 refine T.seq ?_
 refine aS ?_
 refine aA rfl rfl ?_
 refine TL.op1 (OpR.cast (OpR.pure rfl) (intE (lenM _ _))) rfl ?_
 refine aA rfl rfl ?_
 refine aN rfl ?_
 obtain ⟨t15, ht15, h0⟩ := bS h0
 refine T.cutC (fun S' => ∃ y16 : Value, S' = ⟨[(6, .val y16), (2, .val (.slice none 0 0))], [.row y16 (List.map e_cell_Cell t15) 5 144], 36⟩) (fun _ h => h) ?_ ?_
 rotate_left
 · rintro _ ⟨y16, rfl⟩
   show T X _ _ _
   refine aS ?_
   iterate 2 refine aA rfl rfl ?_
   refine aN rfl ?_
   refine T.ret ?_
   obtain rfl := osi h0
   exact PostG.retP (ks := []) (Gst.trans (Gst.only [2] rfl) (Gst.trans (Gst.freezeRow 0 rfl rfl (ReS.cons (Re.base .all) ReS.nil) (ReO.same ReO.nil)) (Gst.pick [] rfl rfl))) undef (cT rfl ResL.nil) rfl rfl rfl rfl
 refine T.block ?_
 obtain ⟨n19, n24⟩ := loop_some ht15
 refine T.loop (fun n S' => ∃ S'', Gst S' S'' ∧ ∃ y17 : Value, ∃ s18 : Int × (List cell_Cell), S'' = ⟨[(27, (dN s18.1)), (26, (dN (a0.length : Int))), (25, .sl 1 (List.map e_sl47 a0)), (6, .val y17), (2, .val (.slice none 0 0))], [.row y17 (List.map e_cell_Cell s18.2) 5 144], 36⟩ ∧ iter (slices_Concat_cell_Cell_cell_Cell.l2 a0) n s18 = some t15) n19 ?_ ?_
 · exact ⟨_, Gst.only [2, 6, 25, 26, 27] rfl, (vn w14 0), (0, x13), rfl, n24⟩
 rintro n19 _ ⟨_, g, y17, s18, rfl, i23⟩
 refine T.ghost g ?_
 obtain ⟨m20, q21, rfl, q22, i23⟩ := iter_succ i23
 unfold slices_Concat_cell_Cell_cell_Cell.l2 at q22
 refine aS ?_
 refine aA rfl rfl ?_
 refine aN rfl ?_
 refine T.seq ?_
 rcases ite_some q22 with ⟨c26, q22⟩ | ⟨c26, q22⟩
 rotate_left
 · refine T.condF rfl (eF c26) ?_
   refine T.exit ?_
   obtain rfl := osi q22
   obtain rfl : _ = _ := i23
   exact ⟨_, Gst.only [2, 6] rfl, y17, rfl⟩
 refine T.condT rfl (eT c26) ?_
 refine aK rfl ?_
 refine T.seq ?_
 refine T.block ?_
 refine aS ?_
 obtain ⟨x27, hx27, q22⟩ := bS q22
 refine TL.op1 (OpR.indexM e_sl47 hx27 rfl rfl rfl rfl rfl) rfl ?_
 iterate 2 refine aA rfl rfl ?_
 refine aN rfl ?_
 refine T.region ?_
 iterate 2 refine aA rfl rfl ?_
 obtain ⟨x28, hx28, q22⟩ := bS q22
 refine TL.op (OpR.appendM (m := x27) e_cell_Cell 0 hx28 rfl rfl rfl rfl rfl rfl rfl rfl rfl (fun _ => rfl)) rfl (fun v29 => ?_)
 refine aA rfl rfl ?_
 refine aN rfl ?_
 refine T.region ?_
 iterate 2 refine aA rfl rfl ?_
 refine TL.nil ?_
 obtain rfl := osi q22
 exact ⟨m20, Nat.lt_succ_self _, _, Gst.only [2, 6, 25, 26, 27] rfl, v29, (w64 (s18.1 + 1), x28), rfl, i23⟩
noncomputable def row_Row_with_2 (a0 : row_Row) (a1 : List cell_Cell) : Option row_Row :=
  some (⟨a1, a0.fEnd, a0.fHidden⟩ : row_Row)
theorem row_Row_with_2_c {a0 : row_Row} {a1 : List cell_Cell} {res : row_Row} (h0 : row_Row_with_2 a0 a1 = some res) : CallF X 155 [.agg [.sl 5 (List.map e_cell_Cell a0.fCells), dN a0.fEnd, dT a0.fHidden], .sl 5 (List.map e_cell_Cell a1)] [] (fun x => .agg [.sl 5 (List.map e_cell_Cell res.fCells), dN res.fEnd, dT res.fHidden]) (fun x => []) := by
 unfold row_Row_with_2 at h0
 refine CallF.mkG (X := X) rfl Tryz.func155 rfl rfl Tryz.ntmps155 rfl rfl ?_
 refine aS ?_
 refine TL.op (OpR.boxVar rfl rfl (fun _ => rfl)) rfl (fun p1 => ?_)
 refine TL.op (OpR.alloc rfl rfl (fun _ => rfl)) rfl (fun p2 => ?_)
 refine aN rfl ?_
 refine aS ?_
 iterate 2 refine aA rfl rfl ?_
 refine TL.op0 (OpR.store 0 rfl rfl rfl rfl rfl rfl rfl rfl) ?_
 refine aN rfl ?_
 refine aS ?_
 refine TL.op1 (OpR.loadPtr 0 rfl rfl rfl rfl) rfl ?_
 refine TL.op0 (OpR.store 1 rfl rfl rfl rfl rfl rfl rfl rfl) ?_
 refine aN rfl ?_
 refine T.ret ?_
 obtain rfl := osi h0
 exact rP [] [4] [1] rfl rfl rfl undef (cV 0 rfl rfl rfl rfl ResL.nil) rfl rfl rfl rfl
noncomputable def row_Row_Delete (a0 : row_Row) (a1 : Int) : Option (row_Row × Int) :=
  bnd (row_Row_has a0 a1) fun x2 =>
  if x2 = true then
    if (a0.fCells.length : Int) = 1 then
      some ((⟨[], 0, false⟩ : row_Row), 9)
    else
      bnd (row_Row_ahead a0 a1) fun x6 =>
      bnd (row_Row_behind a0 (w64 (a1 + 1))) fun x7 =>
      bnd (slices_Concat_cell_Cell_cell_Cell [x6, x7]) fun x8 =>
      bnd (row_Row_with_2 a0 x8) fun x9 =>
      some (x9, 0)
  else
    some ((⟨[], 0, false⟩ : row_Row), 5)
theorem row_Row_Delete_c {a0 : row_Row} {a1 : Int} {res : row_Row × Int} (h0 : row_Row_Delete a0 a1 = some res) : CallF X 87 [.agg [.sl 5 (List.map e_cell_Cell a0.fCells), dN a0.fEnd, dT a0.fHidden], dN a1] [] (fun x => .tup [.agg [.sl 5 (List.map e_cell_Cell res.1.fCells), dN res.1.fEnd, dT res.1.fHidden], dN res.2]) (fun x => []) := by
 unfold row_Row_Delete at h0
 refine CallF.mkG (X := X) rfl Tryz.func87 rfl rfl Tryz.ntmps87 rfl rfl ?_
 refine aS ?_
 refine TL.op1 (OpR.boxImm rfl rfl) rfl ?_
 refine TL.op (OpR.alloc rfl rfl (fun _ => rfl)) rfl (fun p1 => ?_)
 refine aA rfl rfl ?_
 refine aN rfl ?_
 refine T.seq ?_
 refine T.block ?_
 refine aS ?_
 iterate 2 refine aA rfl rfl ?_
 obtain ⟨x2, hx2, h0⟩ := bS h0
 refine TL.op1 (OpR.call0 fn158 (row_Row_has_c hx2) rfl) rfl ?_
 iterate 2 refine aA rfl rfl ?_
 refine aN rfl ?_
 rcases ite_some h0 with ⟨c3, h0⟩ | ⟨c3, h0⟩
 rotate_left
 · refine T.condT rfl (not_f (eq_false_of_ne_true c3)) ?_
   refine aS ?_
   refine TL.op1 (OpR.build rfl rfl rfl rfl rfl) rfl ?_
   refine TL.op0 (OpR.store 0 rfl rfl rfl rfl rfl rfl rfl rfl) ?_
   refine aA rfl rfl ?_
   refine aN rfl ?_
   refine T.ret ?_
   obtain rfl := osi h0
   exact PostG.retP (ks := []) (Gst.trans (Gst.only [4, 5] rfl) (Gst.denil (ReS.cons Re.refl (ReS.cons Re.refl ReS.nil)) (ReO.var (ReL.cons (Re.base .nil) (ReL.cons Re.refl (ReL.cons Re.refl ReL.nil))) ReO.nil))) undef (cV 0 rfl rfl rfl rfl (cT rfl ResL.nil)) rfl rfl rfl rfl
 refine T.condF rfl (not_t (c3)) ?_
 refine aS ?_
 iterate 2 refine aA rfl rfl ?_
 refine TL.op1 (OpR.cast (OpR.pure rfl) (intE (lenM _ _))) rfl ?_
 iterate 2 refine aA rfl rfl ?_
 refine aN rfl ?_
 rcases ite_some h0 with ⟨c4, h0⟩ | ⟨c4, h0⟩
 · refine T.condT rfl (beq_iff_eq.2 c4) ?_
   refine aS ?_
   refine TL.op1 (OpR.build rfl rfl rfl rfl rfl) rfl ?_
   refine TL.op0 (OpR.store 0 rfl rfl rfl rfl rfl rfl rfl rfl) ?_
   refine aA rfl rfl ?_
   refine aN rfl ?_
   refine T.ret ?_
   obtain rfl := osi h0
   exact PostG.retP (ks := []) (Gst.trans (Gst.only [4, 5] rfl) (Gst.denil (ReS.cons Re.refl (ReS.cons Re.refl ReS.nil)) (ReO.var (ReL.cons (Re.base .nil) (ReL.cons Re.refl (ReL.cons Re.refl ReL.nil))) ReO.nil))) undef (cV 0 rfl rfl rfl rfl (cT rfl ResL.nil)) rfl rfl rfl rfl
 refine T.condF rfl (beq_eq_false_iff_ne.2 c4) ?_
 refine aK rfl ?_
 refine T.seq ?_
 obtain ⟨x6, hx6, h0⟩ := bS h0
 obtain ⟨x7, hx7, h0⟩ := bS h0
 obtain ⟨x8, hx8, h0⟩ := bS h0
 obtain ⟨x9, hx9, h0⟩ := bS h0
 refine T.drawS drawsX (fun env5 => [.agg [.sl 5 (List.map e_cell_Cell a0.fCells), dN a0.fEnd, dT a0.fHidden], .agg [.sl 5 (List.map e_cell_Cell a0.fCells), dN a0.fEnd, dT a0.fHidden], dN a1, .sl 5 (List.map e_cell_Cell x6), .agg [.sl 5 (List.map e_cell_Cell a0.fCells), dN a0.fEnd, dT a0.fHidden], dN a1, dN (w64 (a1 + 1)), .sl 5 (List.map e_cell_Cell x7), .sl 1 (List.map e_sl47 [x6, x7]), .sl 5 (List.map e_cell_Cell x8), .agg [.sl 5 (List.map e_cell_Cell x9.fCells), dN x9.fEnd, dT x9.fHidden], .dead, dN 0]) (fun D env5 => [(bif D 11 then .var (blk p1) [.sl 5 (List.map e_cell_Cell x9.fCells), dN x9.fEnd, dT x9.fHidden] 49 else .var (blk p1) [.val (.slice none 0 0), dN 0, dT false] 49)]) [0, 0, 0, 6, 0, 0, 32, 126, 254, 510, 1023, 2047, 4095] [4, 5] _ (by decide +kernel) (by decide +kernel) (fun _ => rfl) (fun _ => rfl) ?_ (fun _ => rfl) (fun _ => rfl) ?_
 rotate_left
 · intro env5
   show T X _ _ _
   refine T.ret ?_
   obtain rfl := osi h0
   exact rO [] [4, 5] rfl undef (cV 0 rfl rfl rfl rfl (cT rfl ResL.nil)) rfl rfl rfl rfl
 iterate 3 refine aC ?_
 refine oT (.sl 5 (List.map e_cell_Cell x6)) (fun _ _ => OpR.unx (OpR.call0 fn156 (row_Row_ahead_c_2 hx6) rfl)) ?_
 iterate 3 refine aC ?_
 refine oT (.sl 5 (List.map e_cell_Cell x7)) (fun _ _ => OpR.unx (OpR.call0 fn157 (row_Row_behind_c hx7) rfl)) ?_
 refine oT (.sl 1 (List.map e_sl47 [x6, x7])) (fun _ _ => OpR.lit rfl rfl rfl rfl rfl rfl rfl) ?_
 refine oT (.sl 5 (List.map e_cell_Cell x8)) (fun _ _ => OpR.call0 fn159 (slices_Concat_cell_Cell_cell_Cell_c hx8) rfl) ?_
 refine oT (.agg [.sl 5 (List.map e_cell_Cell x9.fCells), dN x9.fEnd, dT x9.fHidden]) (fun _ _ => OpR.call0 fn155 (row_Row_with_2_c hx9) rfl) ?_
 refine OpsS.cons' true ?_ (fun _ _ _ _ _ _ _ => rfl) ?_
 · intro D env5 hA
   exact OpS.yp [(11, false)] ⟨hA.me, trivial⟩ (Want.plain rfl) (OpR.store 0 rfl rfl rfl rfl rfl rfl rfl rfl) (fun x => rfl) (fun x => rfl)
 refine aC ?_
 exact trivial
noncomputable def cols_Delete_1 (a0 : row_Row) (a1 : Int) : Option (row_Row × Int) :=
  bnd (row_Row_Len a0) fun x3 =>
  if x3 ≤ a1 then
    some (a0, 0)
  else
    bnd (row_Row_Len a0) fun x5 =>
    if x5 = 1 then
      bnd (row_Row_Set a0 a1 (⟨(⟨[], 0⟩ : piece_Text), (⟨0, 0⟩ : arena_Span), false⟩ : cell_Cell)) fun x7 =>
      some (x7.1, x7.2)
    else
      bnd (row_Row_Delete a0 a1) fun x8 =>
      some (x8.1, x8.2)
theorem cols_Delete_1_c {a0 : row_Row} {a1 : Int} {b0 : Nat} {res : row_Row × Int} (h0 : cols_Delete_1 a0 a1 = some res) : CallF X 85 [.agg [.sl 5 (List.map e_cell_Cell a0.fCells), dN a0.fEnd, dT a0.fHidden], dP b0] [.var b0 [dN a1] 3] (fun x => .tup [.agg [.sl 5 (List.map e_cell_Cell res.1.fCells), dN res.1.fEnd, dT res.1.fHidden], dN res.2]) (fun x => [.var b0 [dN a1] 3]) := by
 unfold cols_Delete_1 at h0
 refine CallF.mkG (X := X) rfl Tryz.func85 rfl rfl Tryz.ntmps85 rfl rfl ?_
 refine aS ?_
 refine TL.op1 (OpR.boxImm rfl rfl) rfl ?_
 refine TL.op (OpR.alloc rfl rfl (fun _ => rfl)) rfl (fun p1 => ?_)
 refine aA rfl rfl ?_
 refine aN rfl ?_
 refine T.seq ?_
 refine T.block ?_
 refine T.seq ?_
 obtain ⟨x3, hx3, h0⟩ := bS h0
 refine T.drawQ drawsX [.agg [.sl 5 (List.map e_cell_Cell a0.fCells), dN a0.fEnd, dT a0.fHidden], dN x3, dN a1, dT (decide (x3 ≤ a1)), dT (decide (x3 ≤ a1))] [1, 2, 3, 4, 5] (by decide +kernel) rfl ?_ rfl ?_
 · refine aB rfl rfl rfl ?_
   refine OpsQ.yes (Want.plain rfl) rfl (OpR.call0 fn25 (row_Row_Len_c hx3) rfl) ?_
   refine OpsQ.yes (Want.plain rfl) rfl (OpR.loadPtr 0 rfl rfl rfl rfl) ?_
   iterate 2 refine aB rfl rfl rfl ?_
   exact OpsQ.nil
 show T X _ _ _
 rcases ite_some h0 with ⟨c4, h0⟩ | ⟨c4, h0⟩
 · refine T.condT rfl (eT c4) ?_
   refine aS ?_
   refine aA rfl rfl ?_
   refine TL.op0 (OpR.store 1 rfl rfl rfl rfl rfl rfl rfl rfl) ?_
   refine aA rfl rfl ?_
   refine aN rfl ?_
   refine T.ret ?_
   obtain rfl := osi h0
   exact rO [0] [3, 4] rfl undef (cV 1 rfl rfl rfl rfl (cT rfl ResL.nil)) rfl rfl rfl rfl
 refine T.condF rfl (eF c4) ?_
 refine aS ?_
 refine aA rfl rfl ?_
 obtain ⟨x5, hx5, h0⟩ := bS h0
 refine TL.op1 (OpR.call0 fn25 (row_Row_Len_c hx5) rfl) rfl ?_
 iterate 2 refine aA rfl rfl ?_
 refine aN rfl ?_
 rcases ite_some h0 with ⟨c6, h0⟩ | ⟨c6, h0⟩
 rotate_left
 · refine T.condF rfl (beq_eq_false_iff_ne.2 c6) ?_
   refine aK rfl ?_
   refine aS ?_
   refine aA rfl rfl ?_
   refine TL.op1 (OpR.loadPtr 0 rfl rfl rfl rfl) rfl ?_
   obtain ⟨x8, hx8, h0⟩ := bS h0
   refine TL.op1 (OpR.call0 fn87 (row_Row_Delete_c hx8) rfl) rfl ?_
   iterate 2 refine aA rfl rfl ?_
   refine TL.op0 (OpR.store 1 rfl rfl rfl rfl rfl rfl rfl rfl) ?_
   refine aA rfl rfl ?_
   refine aN rfl ?_
   refine T.ret ?_
   obtain rfl := osi h0
   exact rO [0] [3, 4] rfl undef (cV 1 rfl rfl rfl rfl (cT rfl ResL.nil)) rfl rfl rfl rfl
 refine T.condT rfl (beq_iff_eq.2 c6) ?_
 refine aS ?_
 refine aA rfl rfl ?_
 refine TL.op1 (OpR.loadPtr 0 rfl rfl rfl rfl) rfl ?_
 refine TL.op1 (OpR.wk (d' := fun _ => .agg [.sl 2 (List.map e_arena_Span []), dN 0, dN 0, dN 0, dT false]) (OpR.build rfl rfl rfl rfl rfl) (fun _ => Re.agg (ReL.cons (Re.base .nil) (ReL.cons Re.refl (ReL.cons Re.refl (ReL.cons Re.refl (ReL.cons Re.refl ReL.nil))))) (fun _ _ h => by cases h; exact ⟨_, rfl⟩))) rfl ?_
 obtain ⟨x7, hx7, h0⟩ := bS h0
 refine TL.op1 (OpR.call0 fn86 (row_Row_Set_c hx7) rfl) rfl ?_
 iterate 2 refine aA rfl rfl ?_
 refine TL.op0 (OpR.store 1 rfl rfl rfl rfl rfl rfl rfl rfl) ?_
 refine aA rfl rfl ?_
 refine aN rfl ?_
 refine T.ret ?_
 obtain rfl := osi h0
 exact rO [0] [3, 4] rfl undef (cV 1 rfl rfl rfl rfl (cT rfl ResL.nil)) rfl rfl rfl rfl
noncomputable def cols_each_1_2 (a0 : Int) (a1 : row_Row) (a2 : Int) (a3 : Int) : Option (row_Row × Int) :=
  bnd (cols_Delete_1 a1 a3) fun x2 =>
  bnd (if x2.2 = 0 then
    some false
  else
    some (a2 == 0) : Option Bool) fun t4 =>
  bnd (if t4 = true then
    some x2.2
  else
    some a2 : Option Int) fun t6 =>
  some (x2.1, t6)
theorem cols_each_1_2_c {a0 : Int} {a1 : row_Row} {a2 : Int} {a3 : Int} {b0 : Nat} {b1 : Nat} {b2 : Nat} {res : row_Row × Int} (h0 : cols_each_1_2 a0 a1 a2 a3 = some res) : CallF X 154 [dN a0, .agg [.sl 5 (List.map e_cell_Cell a1.fCells), dN a1.fEnd, dT a1.fHidden], dP b0, dP b1] [.var b0 [.fn (.func 85) [] [dP b2]] 145, .var b1 [dN a2] 53, .var b2 [dN a3] 3] (fun x => .agg [.sl 5 (List.map e_cell_Cell res.1.fCells), dN res.1.fEnd, dT res.1.fHidden]) (fun x => [.var b0 [.fn (.func 85) [] [dP b2]] 145, .var b1 [dN res.2] 53, .var b2 [dN a3] 3]) := by
 unfold cols_each_1_2 at h0
 refine CallF.mkG (X := X) rfl Tryz.func154 rfl rfl Tryz.ntmps154 rfl rfl ?_
 refine aS ?_
 refine TL.op1 (OpR.boxImm rfl rfl) rfl ?_
 refine TL.op (OpR.alloc rfl rfl (fun _ => rfl)) rfl (fun p1 => ?_)
 refine aN rfl ?_
 refine aS ?_
 refine TL.op1 (OpR.loadPtr 0 rfl rfl rfl rfl) rfl ?_
 refine aA rfl rfl ?_
 obtain ⟨x2, hx2, h0⟩ := bS h0
 refine TL.op1 (OpR.callV [2] rfl fn85 (cols_Delete_1_c hx2) rfl rfl rfl (fun _ => rfl)) rfl ?_
 iterate 3 refine aA rfl rfl ?_
 refine TL.op (OpR.alloc rfl rfl (fun _ => rfl)) rfl (fun p3 => ?_)
 refine TL.op0 (OpR.store 4 rfl rfl rfl rfl rfl rfl rfl rfl) ?_
 refine aA rfl rfl ?_
 refine aN rfl ?_
 refine T.seq ?_
 refine T.seq ?_
 obtain ⟨t4, ht4, h0⟩ := bS h0
 refine T.cutC (fun S' => S' = ⟨[(20, (dT t4)), (8, (dN x2.2)), (7, (dP (blk p3))), (6, (dP (blk p1))), (3, (dP b1))], [.var b0 [.fn (.func 85) [] [dP b2]] 145, .var b1 [dN a2] 53, .var b2 [dN a3] 3, .var (blk p1) [.val (.slice none 0 0), dN 0, dT false] 49, .var (blk p3) [.sl 5 (List.map e_cell_Cell x2.1.fCells), dN x2.1.fEnd, dT x2.1.fHidden] 49], 23⟩) (fun _ h => h) ?_ ?_
 · refine T.region ?_
   iterate 3 refine aA rfl rfl ?_
   rcases ite_some ht4 with ⟨c5, ht4⟩ | ⟨c5, ht4⟩
   · refine TL.off rfl rfl rfl rfl (not_t (beq_iff_eq.2 c5)) rfl rfl ?_
     refine TL.off rfl rfl rfl rfl (not_t (beq_iff_eq.2 c5)) rfl rfl ?_
     refine TL.op1 (OpR.pickF rfl (not_t (beq_iff_eq.2 c5)) rfl) rfl ?_
     refine TL.nil ?_
     obtain rfl := osi ht4
     exact ⟨_, Gst.only [3, 6, 7, 8, 20] rfl, rfl⟩
   refine TL.on rfl rfl rfl rfl (not_f (beq_eq_false_iff_ne.2 c5)) ?_
   refine TL.op1 (OpR.loadPtr 1 rfl rfl rfl rfl) rfl ?_
   refine TL.on rfl rfl rfl rfl (not_f (beq_eq_false_iff_ne.2 c5)) ?_
   refine aA rfl rfl ?_
   refine TL.op1 (OpR.pickT rfl (not_f (beq_eq_false_iff_ne.2 c5)) rfl) rfl ?_
   refine TL.nil ?_
   obtain rfl := osi ht4
   exact ⟨_, Gst.only [3, 6, 7, 8, 20] rfl, rfl⟩
 rintro _ rfl
 show T X _ _ _
 obtain ⟨t6, ht6, h0⟩ := bS h0
 refine T.cutC (fun S' => S' = ⟨[(7, (dP (blk p3))), (6, (dP (blk p1)))], [.var b0 [.fn (.func 85) [] [dP b2]] 145, .var b1 [dN t6] 53, .var b2 [dN a3] 3, .var (blk p1) [.val (.slice none 0 0), dN 0, dT false] 49, .var (blk p3) [.sl 5 (List.map e_cell_Cell x2.1.fCells), dN x2.1.fEnd, dT x2.1.fHidden] 49], 23⟩) (fun _ h => h) ?_ ?_
 rotate_left
 · rintro _ rfl
   show T X _ _ _
   refine aS ?_
   refine TL.op1 (OpR.loadPtr 4 rfl rfl rfl rfl) rfl ?_
   refine TL.op0 (OpR.store 3 rfl rfl rfl rfl rfl rfl rfl rfl) ?_
   refine aN rfl ?_
   refine T.ret ?_
   obtain rfl := osi h0
   exact rP [0, 1, 2] [6] [0, 1, 2, 3] rfl rfl rfl undef (cV 3 rfl rfl rfl rfl ResL.nil) rfl rfl rfl rfl
 rcases ite_some ht6 with ⟨c7, ht6⟩ | ⟨c7, ht6⟩
 rotate_left
 · refine T.condF rfl (eq_false_of_ne_true c7) ?_
   refine T.skip ?_
   obtain rfl := osi ht6
   exact ⟨_, Gst.only [6, 7] rfl, rfl⟩
 refine T.condT rfl (c7) ?_
 refine T.region ?_
 refine aA rfl rfl ?_
 refine TL.op0 (OpR.store 1 rfl rfl rfl rfl rfl rfl rfl rfl) ?_
 refine TL.nil ?_
 obtain rfl := osi ht6
 exact ⟨_, Gst.only [6, 7] rfl, rfl⟩
noncomputable def walk_Map_row_Row_3.l1 (a2 : Int) (x3 : (List row_Row)) (s6 : Int × Int × (List row_Row)) : Option (Lp (Int × Int × (List row_Row)) (Int × (List row_Row))) :=
  if s6.1 < (x3.length : Int) then
    bnd (idx s6.2.2 s6.1) fun x15 =>
    bnd (cols_each_1_2 s6.1 x15 s6.2.1 a2) fun x17 =>
    some (Lp.next (w64 (s6.1 + 1), x17.2, (s6.2.2.set s6.1.toNat x17.1)))
  else
    some (Lp.done (s6.2.1, s6.2.2))
noncomputable def walk_Map_row_Row_3 (a0 : tTr) (a1 : Int) (a2 : Int) : Option (tTr × Int) :=
  bnd (walk_All_row_Row a0) fun x2 =>
  bnd (slices_Clone_row_Row_row_Row x2) fun x3 =>
  bnd (loop (walk_Map_row_Row_3.l1 a2 x3) (0, a1, x3) : Option (Int × (List row_Row))) fun t5 =>
  bnd (tree_Of_row_Row t5.2) fun x18 =>
  some (x18, t5.1)
theorem walk_Map_row_Row_3_c {a0 : tTr} {a1 : Int} {a2 : Int} {b0 : Nat} {b1 : Nat} {b2 : Nat} {res : tTr × Int} (h0 : walk_Map_row_Row_3 a0 a1 a2 = some res) : CallF X 137 [.agg [(eOP a0.fRoot)], .fn (.func 154) [] [dP b0, dP b1]] [.var b0 [.fn (.func 85) [] [dP b2]] 145, .var b1 [dN a1] 53, .var b2 [dN a2] 3] (fun x => .agg [(eOP res.1.fRoot)]) (fun x => [.var b0 [.fn (.func 85) [] [dP b2]] 145, .var b1 [dN res.2] 53, .var b2 [dN a2] 3]) := by
 unfold walk_Map_row_Row_3 at h0
 refine CallF.mkG (X := X) rfl Tryz.func137 rfl rfl Tryz.ntmps137 rfl rfl ?_
 refine aS ?_
 refine TL.op1 (OpR.boxImm rfl rfl) rfl ?_
 refine TL.op (OpR.alloc rfl rfl (fun _ => rfl)) rfl (fun p1 => ?_)
 refine aN rfl ?_
 refine aS ?_
 refine aA rfl rfl ?_
 obtain ⟨x2, hx2, h0⟩ := bS h0
 refine TL.op1 (OpR.call0 fn100 (walk_All_row_Row_c hx2) rfl) rfl ?_
 obtain ⟨x3, hx3, h0⟩ := bS h0
 refine TL.op (OpR.call [] fn191 (slices_Clone_row_Row_row_Row_c hx3) rfl rfl rfl (fun _ => rfl)) rfl (fun w4 => ?_)
 refine aA rfl rfl ?_
 refine aN rfl ?_
 refine T.seq ?_
 refine aS ?_
 refine aA rfl rfl ?_
 refine TL.op1 (OpR.rowLenM e_row_Row 4 rfl rfl rfl rfl) rfl ?_
 refine aA rfl rfl ?_
 refine aN rfl ?_
 obtain ⟨t5, ht5, h0⟩ := bS h0
 refine T.cutC (fun S' => S' = ⟨[(5, .val (vn w4 0)), (4, (dP (blk p1)))], [.var b0 [.fn (.func 85) [] [dP b2]] 145, .var b1 [dN t5.1] 53, .var b2 [dN a2] 3, .var (blk p1) [(eOP none)] 25, .row (vn w4 0) (List.map e_row_Row t5.2) 3 49], 28⟩) (fun _ h => h) ?_ ?_
 rotate_left
 · rintro _ rfl
   show T X _ _ _
   refine aS ?_
   refine aA rfl rfl ?_
   refine TL.ghost (Gst.freezeRow 4 rfl rfl (ReS.cons (Re.base .all) (ReS.refl _)) (ReO.same (ReO.same (ReO.same (ReO.same (ReO.same ReO.nil)))))) ?_
   obtain ⟨x18, hx18, h0⟩ := bS h0
   refine TL.op1 (OpR.call0 fn101 (tree_Of_row_Row_c hx18) rfl) rfl ?_
   refine TL.op0 (OpR.store 3 rfl rfl rfl rfl rfl rfl rfl rfl) ?_
   refine aN rfl ?_
   refine T.ret ?_
   obtain rfl := osi h0
   exact rP [0, 1, 2] [4] [0, 1, 2, 3] rfl rfl rfl undef (cV 3 rfl rfl rfl rfl ResL.nil) rfl rfl rfl rfl
 refine T.block ?_
 obtain ⟨n7, n12⟩ := loop_some ht5
 refine T.loop (fun n S' => ∃ S'', Gst S' S'' ∧ ∃ s6 : Int × Int × (List row_Row), S'' = ⟨[(13, (dN s6.1)), (12, (dN (x3.length : Int))), (11, .val (vn w4 0)), (5, .val (vn w4 0)), (4, (dP (blk p1))), (1, .fn (.func 154) [] [dP b0, dP b1])], [.var b0 [.fn (.func 85) [] [dP b2]] 145, .var b1 [dN s6.2.1] 53, .var b2 [dN a2] 3, .var (blk p1) [(eOP none)] 25, .row (vn w4 0) (List.map e_row_Row s6.2.2) 3 49], 28⟩ ∧ iter (walk_Map_row_Row_3.l1 a2 x3) n s6 = some t5) n7 ?_ ?_
 · exact ⟨_, Gst.only [1, 4, 5, 11, 12, 13] rfl, (0, a1, x3), rfl, n12⟩
 rintro n7 _ ⟨_, g, s6, rfl, i11⟩
 refine T.ghost g ?_
 obtain ⟨m8, q9, rfl, q10, i11⟩ := iter_succ i11
 unfold walk_Map_row_Row_3.l1 at q10
 refine aS ?_
 refine aA rfl rfl ?_
 refine aN rfl ?_
 refine T.seq ?_
 rcases ite_some q10 with ⟨c14, q10⟩ | ⟨c14, q10⟩
 rotate_left
 · refine T.condF rfl (eF c14) ?_
   refine T.exit ?_
   obtain rfl := osi q10
   obtain rfl : _ = _ := i11
   exact ⟨_, Gst.only [4, 5] rfl, rfl⟩
 refine T.condT rfl (eT c14) ?_
 refine aK rfl ?_
 refine T.seq ?_
 refine T.block ?_
 refine aS ?_
 refine aA rfl rfl ?_
 obtain ⟨x15, hx15, q10⟩ := bS q10
 refine TL.op1 (OpR.rowIndexM e_row_Row 4 hx15 rfl rfl rfl rfl rfl rfl rfl) rfl ?_
 refine TL.op1 (OpR.rowLoad0M (j := s6.1) e_row_Row 4 hx15 rfl rfl rfl rfl) rfl ?_
 refine TL.op (OpR.alloc rfl rfl (fun _ => rfl)) rfl (fun p16 => ?_)
 refine aA rfl rfl ?_
 refine TL.op0 (OpR.store 5 rfl rfl rfl rfl rfl rfl rfl rfl) ?_
 refine aN rfl ?_
 refine T.region ?_
 iterate 4 refine aA rfl rfl ?_
 refine TL.op1 (OpR.loadPtr 5 rfl rfl rfl rfl) rfl ?_
 obtain ⟨x17, hx17, q10⟩ := bS q10
 refine TL.op1 (OpR.callV [0, 1, 2] rfl fn154 (cols_each_1_2_c hx17) rfl rfl rfl (fun _ => rfl)) rfl ?_
 refine TL.op1 (OpR.rowIndexM e_row_Row 4 hx15 rfl rfl rfl rfl rfl rfl rfl) rfl ?_
 refine TL.op0 (OpR.rowStore0M (j := s6.1) e_row_Row x17.1 4 hx15 rfl rfl rfl rfl rfl rfl rfl rfl rfl) ?_
 refine aN rfl ?_
 refine T.region ?_
 iterate 2 refine aA rfl rfl ?_
 refine TL.nil ?_
 obtain rfl := osi q10
 exact ⟨m8, Nat.lt_succ_self _, _, gP [1, 4, 5, 11, 12, 13] [0, 1, 2, 3, 4] rfl rfl rfl, (w64 (s6.1 + 1), x17.2, (s6.2.2.set s6.1.toNat x17.1)), rfl, i11⟩
noncomputable def cols_each_2 (a0 : grid_Grid) (a1 : Int) : Option (grid_Grid × Int) :=
  bnd (walk_Map_row_Row_3 a0.fRows 0 a1) fun x5 =>
  if x5.2 = 0 then
    some ((⟨x5.1, a0.fTail, a0.fEnd⟩ : grid_Grid), 0)
  else
    some ((⟨(⟨none⟩ : tTr), false, 0⟩ : grid_Grid), x5.2)
theorem cols_each_2_c {a0 : grid_Grid} {a1 : Int} {b0 : Nat} {res : grid_Grid × Int} (h0 : cols_each_2 a0 a1 = some res) : CallF X 82 [.agg [(eOP a0.fRows.fRoot), dT a0.fTail, dN a0.fEnd], .fn (.func 85) [] [dP b0]] [.var b0 [dN a1] 3] (fun x => .tup [.agg [(eOP res.1.fRows.fRoot), dT res.1.fTail, dN res.1.fEnd], dN res.2]) (fun x => [.var b0 [dN a1] 3]) := by
 unfold cols_each_2 at h0
 refine CallF.mkG (X := X) rfl Tryz.func82 rfl rfl Tryz.ntmps82 rfl rfl ?_
 refine aS ?_
 refine TL.op (OpR.boxVar rfl rfl (fun _ => rfl)) rfl (fun p1 => ?_)
 refine TL.op (OpR.boxVar rfl rfl (fun _ => rfl)) rfl (fun p2 => ?_)
 refine TL.op (OpR.alloc rfl rfl (fun _ => rfl)) rfl (fun p3 => ?_)
 refine aA rfl rfl ?_
 refine aN rfl ?_
 refine aS ?_
 refine TL.op (OpR.alloc rfl rfl (fun _ => rfl)) rfl (fun p4 => ?_)
 refine TL.op0 (OpR.store 4 rfl rfl rfl rfl rfl rfl rfl rfl) ?_
 refine aN rfl ?_
 refine aS ?_
 refine aA rfl rfl ?_
 refine TL.op1 (OpR.loadPtr 1 rfl rfl rfl rfl) rfl ?_
 refine aA rfl rfl ?_
 obtain ⟨x5, hx5, h0⟩ := bS h0
 refine TL.op1 (OpR.call [2, 4, 0] fn137 (walk_Map_row_Row_3_c hx5) rfl rfl rfl (fun _ => rfl)) rfl ?_
 refine aA rfl rfl ?_
 refine TL.op0 (OpR.store 1 rfl rfl rfl rfl rfl rfl rfl rfl) ?_
 refine aN rfl ?_
 refine T.seq ?_
 refine aS ?_
 refine TL.op1 (OpR.loadPtr 4 rfl rfl rfl rfl) rfl ?_
 refine aA rfl rfl ?_
 refine aN rfl ?_
 rcases ite_some h0 with ⟨c6, h0⟩ | ⟨c6, h0⟩
 · refine T.condF rfl (not_t (beq_iff_eq.2 c6)) ?_
   refine aK rfl ?_
   refine aS ?_
   refine TL.op1 (OpR.loadPtr 1 rfl rfl rfl rfl) rfl ?_
   refine TL.op0 (OpR.store 3 rfl rfl rfl rfl rfl rfl rfl rfl) ?_
   refine aA rfl rfl ?_
   refine aN rfl ?_
   refine T.ret ?_
   obtain rfl := osi h0
   exact rP [0] [4, 5] [0, 3] rfl rfl rfl undef (cV 1 rfl rfl rfl rfl (cT rfl ResL.nil)) rfl rfl rfl rfl
 refine T.condT rfl (not_f (beq_eq_false_iff_ne.2 c6)) ?_
 refine T.seq ?_
 refine T.drawQ drawsX [.agg [(eOP none), dT false, dN 0], dN x5.2, .dead, dN x5.2] [2, 4, 5] (by decide +kernel) rfl ?_ rfl ?_
 rotate_left
 · show T X _ _ _
   refine T.ret ?_
   obtain rfl := osi h0
   exact rP [0] [4, 5] [0, 3] rfl rfl rfl undef (cV 1 rfl rfl rfl rfl (cT rfl ResL.nil)) rfl rfl rfl rfl
 refine OpsQ.yes (Want.plain rfl) rfl (OpR.build rfl rfl rfl rfl rfl) ?_
 refine OpsQ.yes (Want.plain rfl) rfl (OpR.loadPtr 4 rfl rfl rfl rfl) ?_
 refine OpsQ.yes (Want.plain rfl) rfl (OpR.store 3 rfl rfl rfl rfl rfl rfl rfl rfl) ?_
 refine aB rfl rfl rfl ?_
 exact OpsQ.nil
noncomputable def cols_Delete (a0 : grid_Grid) (a1 : Int) : Option (grid_Grid × Int) :=
  bnd (grid_Grid_Width a0) fun x3 =>
  bnd (grid_Grid_Len a0) fun x4 =>
  if x4 = 0 then
    some ((⟨(⟨none⟩ : tTr), false, 0⟩ : grid_Grid), 9)
  else
    bnd (if a1 < 0 then
      some true
    else
      some (decide (a1 ≥ x3)) : Option Bool) fun t6 =>
    if t6 = true then
      some ((⟨(⟨none⟩ : tTr), false, 0⟩ : grid_Grid), 5)
    else
      if x3 = 1 then
        some ((⟨(⟨none⟩ : tTr), false, 0⟩ : grid_Grid), 9)
      else
        bnd (cols_each_2 a0 a1) fun x10 =>
        some (x10.1, x10.2)
theorem cols_Delete_c {a0 : grid_Grid} {a1 : Int} {res : grid_Grid × Int} (h0 : cols_Delete a0 a1 = some res) : CallF X 27 [.agg [(eOP a0.fRows.fRoot), dT a0.fTail, dN a0.fEnd], dN a1] [] (fun x => .tup [.agg [(eOP res.1.fRows.fRoot), dT res.1.fTail, dN res.1.fEnd], dN res.2]) (fun x => []) := by
 unfold cols_Delete at h0
 refine CallF.mkG (X := X) rfl Tryz.func27 rfl rfl Tryz.ntmps27 rfl rfl ?_
 refine aS ?_
 refine TL.op1 (OpR.boxImm rfl rfl) rfl ?_
 refine TL.op (OpR.boxVar rfl rfl (fun _ => rfl)) rfl (fun p1 => ?_)
 refine TL.op (OpR.alloc rfl rfl (fun _ => rfl)) rfl (fun p2 => ?_)
 refine aA rfl rfl ?_
 refine aN rfl ?_
 refine aS ?_
 refine aA rfl rfl ?_
 obtain ⟨x3, hx3, h0⟩ := bS h0
 refine TL.op1 (OpR.call0 fn23 (grid_Grid_Width_c hx3) rfl) rfl ?_
 refine aA rfl rfl ?_
 refine aN rfl ?_
 refine T.seq ?_
 refine T.block ?_
 refine aS ?_
 refine aA rfl rfl ?_
 obtain ⟨x4, hx4, h0⟩ := bS h0
 refine TL.op1 (OpR.call0 fn22 (grid_Grid_Len_c hx4) rfl) rfl ?_
 iterate 2 refine aA rfl rfl ?_
 refine aN rfl ?_
 rcases ite_some h0 with ⟨c5, h0⟩ | ⟨c5, h0⟩
 · refine T.condT rfl (beq_iff_eq.2 c5) ?_
   refine aS ?_
   refine TL.op1 (OpR.build rfl rfl rfl rfl rfl) rfl ?_
   refine TL.op0 (OpR.store 1 rfl rfl rfl rfl rfl rfl rfl rfl) ?_
   refine aA rfl rfl ?_
   refine aN rfl ?_
   refine T.ret ?_
   obtain rfl := osi h0
   exact rP [] [4, 5] [1] rfl rfl rfl undef (cV 0 rfl rfl rfl rfl (cT rfl ResL.nil)) rfl rfl rfl rfl
 refine T.condF rfl (beq_eq_false_iff_ne.2 c5) ?_
 refine T.seq ?_
 obtain ⟨t6, ht6, h0⟩ := bS h0
 refine T.cutC (fun S' => S' = ⟨[(14, (dT t6)), (6, (dN x3)), (5, (dN 0)), (4, (dP (blk p2))), (3, (dP (blk p1))), (2, .nod [(eOP a0.fRows.fRoot), dT a0.fTail, dN a0.fEnd])], [.var (blk p1) [dN a1] 3, .var (blk p2) [(eOP none), dT false, dN 0] 27], 32⟩) (fun _ h => h) ?_ ?_
 · refine T.region ?_
   refine TL.op1 (OpR.loadPtr 0 rfl rfl rfl rfl) rfl ?_
   iterate 2 refine aA rfl rfl ?_
   rcases ite_some ht6 with ⟨c7, ht6⟩ | ⟨c7, ht6⟩
   · refine TL.off rfl rfl rfl rfl (eT c7) rfl rfl ?_
     refine TL.off rfl rfl rfl rfl (eT c7) rfl rfl ?_
     refine TL.off rfl rfl rfl rfl (eT c7) rfl rfl ?_
     refine TL.op1 (OpR.pickT rfl (eT c7) rfl) rfl ?_
     refine aA rfl rfl ?_
     refine TL.nil ?_
     obtain rfl := osi ht6
     exact ⟨_, Gst.only [2, 3, 4, 5, 6, 14] rfl, rfl⟩
   refine TL.on rfl rfl rfl rfl (eF c7) ?_
   refine TL.op1 (OpR.loadPtr 0 rfl rfl rfl rfl) rfl ?_
   refine TL.on rfl rfl rfl rfl (eF c7) ?_
   refine aA rfl rfl ?_
   refine TL.on rfl rfl rfl rfl (eF c7) ?_
   refine aA rfl rfl ?_
   refine TL.op1 (OpR.pickF rfl (eF c7) rfl) rfl ?_
   refine aA rfl rfl ?_
   refine TL.nil ?_
   obtain rfl := osi ht6
   exact ⟨_, Gst.only [2, 3, 4, 5, 6, 14] rfl, rfl⟩
 rintro _ rfl
 show T X _ _ _
 rcases ite_some h0 with ⟨c8, h0⟩ | ⟨c8, h0⟩
 · refine T.condT rfl (c8) ?_
   refine aS ?_
   refine TL.op1 (OpR.build rfl rfl rfl rfl rfl) rfl ?_
   refine TL.op0 (OpR.store 1 rfl rfl rfl rfl rfl rfl rfl rfl) ?_
   refine aA rfl rfl ?_
   refine aN rfl ?_
   refine T.ret ?_
   obtain rfl := osi h0
   exact rP [] [4, 5] [1] rfl rfl rfl undef (cV 0 rfl rfl rfl rfl (cT rfl ResL.nil)) rfl rfl rfl rfl
 refine T.condF rfl (eq_false_of_ne_true c8) ?_
 refine aS ?_
 iterate 3 refine aA rfl rfl ?_
 refine aN rfl ?_
 rcases ite_some h0 with ⟨c9, h0⟩ | ⟨c9, h0⟩
 · refine T.condT rfl (beq_iff_eq.2 c9) ?_
   refine aS ?_
   refine TL.op1 (OpR.build rfl rfl rfl rfl rfl) rfl ?_
   refine TL.op0 (OpR.store 1 rfl rfl rfl rfl rfl rfl rfl rfl) ?_
   refine aA rfl rfl ?_
   refine aN rfl ?_
   refine T.ret ?_
   obtain rfl := osi h0
   exact rP [] [4, 5] [1] rfl rfl rfl undef (cV 0 rfl rfl rfl rfl (cT rfl ResL.nil)) rfl rfl rfl rfl
 refine T.condF rfl (beq_eq_false_iff_ne.2 c9) ?_
 refine aK rfl ?_
 refine aS ?_
 iterate 2 refine aA rfl rfl ?_
 obtain ⟨x10, hx10, h0⟩ := bS h0
 refine TL.op1 (OpR.call [0] fn82 (cols_each_2_c hx10) rfl rfl rfl (fun _ => rfl)) rfl ?_
 iterate 2 refine aA rfl rfl ?_
 refine TL.op0 (OpR.store 1 rfl rfl rfl rfl rfl rfl rfl rfl) ?_
 refine aA rfl rfl ?_
 refine aN rfl ?_
 refine T.ret ?_
 obtain rfl := osi h0
 exact rP [] [4, 5] [1] rfl rfl rfl undef (cV 0 rfl rfl rfl rfl (cT rfl ResL.nil)) rfl rfl rfl rfl
noncomputable def tree_Tree_row_Row_has (a0 : tTr) (a1 : Int) : Option Bool :=
  bnd (if a1 ≥ 0 then
    bnd (tree_Tree_row_Row_Len a0) fun x3 =>
    some (decide (a1 < x3))
  else
    some false : Option Bool) fun t1 =>
  some t1
theorem tree_Tree_row_Row_has_c {a0 : tTr} {a1 : Int} {res : Bool} (h0 : tree_Tree_row_Row_has a0 a1 = some res) : CallF X 151 [.agg [(eOP a0.fRoot)], dN a1] [] (fun x => (dT res)) (fun x => []) := by
 unfold tree_Tree_row_Row_has at h0
 refine CallF.mkG (X := X) rfl Tryz.func151 rfl rfl Tryz.ntmps151 rfl rfl ?_
 refine aS ?_
 refine TL.op1 (OpR.boxImm rfl rfl) rfl ?_
 refine aA rfl rfl ?_
 refine aN rfl ?_
 refine T.seq ?_
 obtain ⟨t1, ht1, h0⟩ := bS h0
 refine T.cutC (fun S' => S' = ⟨[(4, (dT t1))], [], 13⟩) (fun _ h => h) ?_ ?_
 rotate_left
 · rintro _ rfl
   show T X _ _ _
   refine T.ret ?_
   obtain rfl := osi h0
   exact rO [] [4] rfl undef (cT rfl ResL.nil) rfl rfl rfl rfl
 refine T.region ?_
 iterate 3 refine aA rfl rfl ?_
 rcases ite_some ht1 with ⟨c2, ht1⟩ | ⟨c2, ht1⟩
 rotate_left
 · refine TL.off rfl rfl rfl rfl (eF c2) rfl rfl ?_
   refine TL.off rfl rfl rfl rfl (eF c2) rfl rfl ?_
   refine TL.off rfl rfl rfl rfl (eF c2) rfl rfl ?_
   refine TL.off rfl rfl rfl rfl (eF c2) rfl rfl ?_
   refine TL.op1 (OpR.pickF rfl (eF c2) rfl) rfl ?_
   refine aA rfl rfl ?_
   refine TL.nil ?_
   obtain rfl := osi ht1
   exact ⟨_, Gst.only [4] rfl, rfl⟩
 refine TL.on rfl rfl rfl rfl (eT c2) ?_
 refine aA rfl rfl ?_
 refine TL.on rfl rfl rfl rfl (eT c2) ?_
 refine aA rfl rfl ?_
 refine TL.on rfl rfl rfl rfl (eT c2) ?_
 obtain ⟨x3, hx3, ht1⟩ := bS ht1
 refine TL.op1 (OpR.call0 fn79 (tree_Tree_row_Row_Len_c hx3) rfl) rfl ?_
 refine TL.on rfl rfl rfl rfl (eT c2) ?_
 refine aA rfl rfl ?_
 refine TL.op1 (OpR.pickT rfl (eT c2) rfl) rfl ?_
 refine aA rfl rfl ?_
 refine TL.nil ?_
 obtain rfl := osi ht1
 exact ⟨_, Gst.only [4] rfl, rfl⟩
noncomputable def tree_Node_row_Row_flat (a0 : List NP) (a1 : List row_Row) (a2 : Int) : Option Bool :=
  some ((a0.length : Int) == 0)
theorem tree_Node_row_Row_flat_c {a0 : List NP} {a1 : List row_Row} {a2 : Int} {res : Bool} (h0 : tree_Node_row_Row_flat a0 a1 a2 = some res) : CallF X 152 [.nod [.sl 1 (List.map eNP a0), .sl 3 (List.map e_row_Row a1), dN a2]] [] (fun x => (dT res)) (fun x => []) := by
 unfold tree_Node_row_Row_flat at h0
 refine CallF.mkG (X := X) rfl Tryz.func152 rfl rfl Tryz.ntmps152 rfl rfl ?_
 refine aS ?_
 refine aA rfl rfl ?_
 refine aN rfl ?_
 refine aS ?_
 iterate 4 refine aA rfl rfl ?_
 refine TL.op1 (OpR.cast (OpR.pure rfl) (intE (lenM _ _))) rfl ?_
 iterate 2 refine aA rfl rfl ?_
 refine aN rfl ?_
 refine T.ret ?_
 obtain rfl := osi h0
 exact rO [] [2] rfl undef (cT rfl ResL.nil) rfl rfl rfl rfl
noncomputable def tree_Node_row_Row_kid.l1 (a0 : List NP) (s2 : Int × Int) : Option (Lp (Int × Int) (Int × Int)) :=
  bnd (if s2.2 < (w64 ((a0.length : Int) - 1)) then
    bnd (idx a0 s2.2) fun x12 =>
    bnd (o_tNd x12) fun x13 =>
    some (decide (s2.1 ≥ x13.fN))
  else
    some false : Option Bool) fun t10 =>
  if t10 = true then
    bnd (idx a0 s2.2) fun x15 =>
    bnd (o_tNd x15) fun x16 =>
    some (Lp.next (w64 (s2.1 - x16.fN), w64 (s2.2 + 1)))
  else
    some (Lp.done (s2.1, s2.2))
noncomputable def tree_Node_row_Row_kid (a0 : List NP) (a1 : List row_Row) (a2 : Int) (a3 : Int) : Option (Int × Int) :=
  bnd (loop (tree_Node_row_Row_kid.l1 a0) (a3, 0) : Option (Int × Int)) fun t1 =>
  some (t1.2, t1.1)
theorem tree_Node_row_Row_kid_c {a0 : List NP} {a1 : List row_Row} {a2 : Int} {a3 : Int} {res : Int × Int} (h0 : tree_Node_row_Row_kid a0 a1 a2 a3 = some res) : CallF X 153 [.nod [.sl 1 (List.map eNP a0), .sl 3 (List.map e_row_Row a1), dN a2], dN a3] [] (fun x => .tup [dN res.1, dN res.2]) (fun x => []) := by
 unfold tree_Node_row_Row_kid at h0
 refine CallF.mkG (X := X) rfl Tryz.func153 rfl rfl Tryz.ntmps153 rfl rfl ?_
 refine aS ?_
 iterate 2 refine aA rfl rfl ?_
 refine aN rfl ?_
 refine aS ?_
 refine aA rfl rfl ?_
 refine aN rfl ?_
 refine T.seq ?_
 obtain ⟨t1, ht1, h0⟩ := bS h0
 refine T.cutC (fun S' => S' = ⟨[(6, (dN t1.2)), (5, (dN 0)), (4, (dN 0)), (1, (dN t1.1))], [], 45⟩) (fun _ h => h) ?_ ?_
 rotate_left
 · rintro _ rfl
   show T X _ _ _
   refine aS ?_
   iterate 4 refine aA rfl rfl ?_
   refine aN rfl ?_
   refine T.ret ?_
   obtain rfl := osi h0
   exact rO [] [4, 5] rfl undef (cT rfl (cT rfl ResL.nil)) rfl rfl rfl rfl
 refine T.block ?_
 obtain ⟨n3, n8⟩ := loop_some ht1
 refine T.loop (fun n S' => ∃ S'', Gst S' S'' ∧ ∃ s2 : Int × Int, S'' = ⟨[(6, (dN s2.2)), (5, (dN 0)), (4, (dN 0)), (1, (dN s2.1)), (0, .nod [.sl 1 (List.map eNP a0), .sl 3 (List.map e_row_Row a1), dN a2])], [], 45⟩ ∧ iter (tree_Node_row_Row_kid.l1 a0) n s2 = some t1) n3 ?_ ?_
 · exact ⟨_, Gst.only [0, 1, 4, 5, 6] rfl, (a3, 0), rfl, n8⟩
 rintro n3 _ ⟨_, g, s2, rfl, i7⟩
 refine T.ghost g ?_
 obtain ⟨m4, q5, rfl, q6, i7⟩ := iter_succ i7
 unfold tree_Node_row_Row_kid.l1 at q6
 refine T.seq ?_
 refine T.seq ?_
 obtain ⟨t10, ht10, q6⟩ := bS q6
 refine T.cutC (fun S' => S' = ⟨[(28, (dT t10)), (6, (dN s2.2)), (5, (dN 0)), (4, (dN 0)), (1, (dN s2.1)), (0, .nod [.sl 1 (List.map eNP a0), .sl 3 (List.map e_row_Row a1), dN a2])], [], 45⟩) (fun _ h => h) ?_ ?_
 rotate_left
 · rintro _ rfl
   show T X _ _ _
   rcases ite_some q6 with ⟨c14, q6⟩ | ⟨c14, q6⟩
   rotate_left
   · refine T.condF rfl (eq_false_of_ne_true c14) ?_
     refine T.exit ?_
     obtain rfl := osi q6
     obtain rfl : _ = _ := i7
     exact ⟨_, Gst.only [1, 4, 5, 6] rfl, rfl⟩
   refine T.condT rfl (c14) ?_
   refine aK rfl ?_
   refine T.block ?_
   refine aS ?_
   iterate 6 refine aA rfl rfl ?_
   obtain ⟨x15, hx15, q6⟩ := bS q6
   obtain ⟨x16, hx16, q6⟩ := bS q6
   rw [o_tNd_eq hx16] at hx15
   refine TL.op1 (OpR.indexM eNP hx15 rfl rfl rfl rfl rfl) rfl ?_
   iterate 6 refine aA rfl rfl ?_
   refine aN rfl ?_
   refine T.region ?_
   iterate 3 refine aA rfl rfl ?_
   refine TL.nil ?_
   obtain rfl := osi q6
   exact ⟨m4, Nat.lt_succ_self _, _, Gst.only [0, 1, 4, 5, 6] rfl, (w64 (s2.1 - x16.fN), w64 (s2.2 + 1)), rfl, i7⟩
 refine T.region ?_
 iterate 5 refine aA rfl rfl ?_
 refine TL.op1 (OpR.cast (OpR.pure rfl) (intE (lenM _ _))) rfl ?_
 iterate 3 refine aA rfl rfl ?_
 rcases ite_some ht10 with ⟨c11, ht10⟩ | ⟨c11, ht10⟩
 rotate_left
 · refine TL.off rfl rfl rfl rfl (eF c11) rfl rfl ?_
   refine TL.off rfl rfl rfl rfl (eF c11) rfl rfl ?_
   refine TL.off rfl rfl rfl rfl (eF c11) rfl rfl ?_
   refine TL.off rfl rfl rfl rfl (eF c11) rfl rfl ?_
   refine TL.off rfl rfl rfl rfl (eF c11) rfl rfl ?_
   refine TL.off rfl rfl rfl rfl (eF c11) rfl rfl ?_
   refine TL.off rfl rfl rfl rfl (eF c11) rfl rfl ?_
   refine TL.off rfl rfl rfl rfl (eF c11) rfl rfl ?_
   refine TL.off rfl rfl rfl rfl (eF c11) rfl rfl ?_
   refine TL.off rfl rfl rfl rfl (eF c11) rfl rfl ?_
   refine TL.off rfl rfl rfl rfl (eF c11) rfl rfl ?_
   refine TL.off rfl rfl rfl rfl (eF c11) rfl rfl ?_
   refine TL.op1 (OpR.pickF rfl (eF c11) rfl) rfl ?_
   refine TL.nil ?_
   obtain rfl := osi ht10
   exact ⟨_, Gst.only [0, 1, 4, 5, 6, 28] rfl, rfl⟩
 refine TL.on rfl rfl rfl rfl (eT c11) ?_
 refine aA rfl rfl ?_
 refine TL.on rfl rfl rfl rfl (eT c11) ?_
 refine aA rfl rfl ?_
 refine TL.on rfl rfl rfl rfl (eT c11) ?_
 refine aA rfl rfl ?_
 refine TL.on rfl rfl rfl rfl (eT c11) ?_
 refine aA rfl rfl ?_
 refine TL.on rfl rfl rfl rfl (eT c11) ?_
 refine aA rfl rfl ?_
 refine TL.on rfl rfl rfl rfl (eT c11) ?_
 refine aA rfl rfl ?_
 refine TL.on rfl rfl rfl rfl (eT c11) ?_
 obtain ⟨x12, hx12, ht10⟩ := bS ht10
 obtain ⟨x13, hx13, ht10⟩ := bS ht10
 rw [o_tNd_eq hx13] at hx12
 refine TL.op1 (OpR.indexM eNP hx12 rfl rfl rfl rfl rfl) rfl ?_
 refine TL.on rfl rfl rfl rfl (eT c11) ?_
 refine aA rfl rfl ?_
 refine TL.on rfl rfl rfl rfl (eT c11) ?_
 refine aA rfl rfl ?_
 refine TL.on rfl rfl rfl rfl (eT c11) ?_
 refine aA rfl rfl ?_
 refine TL.on rfl rfl rfl rfl (eT c11) ?_
 refine aA rfl rfl ?_
 refine TL.on rfl rfl rfl rfl (eT c11) ?_
 refine aA rfl rfl ?_
 refine TL.op1 (OpR.pickT rfl (eT c11) rfl) rfl ?_
 refine TL.nil ?_
 obtain rfl := osi ht10
 exact ⟨_, Gst.only [0, 1, 4, 5, 6, 28] rfl, rfl⟩
noncomputable def tree_Tree_row_Row_At.l1 (s7 : Unit) : Option (Lp Unit (row_Row × Bool)) :=
  none
noncomputable def tree_Tree_row_Row_At.l2 (s17 : Int × (List NP) × (List row_Row) × Int) : Option (Lp (Int × (List NP) × (List row_Row) × Int) (Int × (List NP) × (List row_Row) × Int)) :=
  bnd (tree_Node_row_Row_flat s17.2.1 s17.2.2.1 s17.2.2.2) fun x25 =>
  if x25 = true then
    some (Lp.done (s17.1, s17.2.1, s17.2.2.1, s17.2.2.2))
  else
    bnd (tree_Node_row_Row_kid s17.2.1 s17.2.2.1 s17.2.2.2 s17.1) fun x27 =>
    bnd (idx s17.2.1 x27.1) fun x28 =>
    bnd (o_tNd x28) fun x29 =>
    some (Lp.next (x27.2, x29.fKids, x29.fItems, x29.fN))
noncomputable def tree_Tree_row_Row_At (a0 : tTr) (a1 : Int) : Option (row_Row × Bool) :=
  bnd (tree_Tree_row_Row_has a0 a1) fun x2 =>
  if x2 = true then
    bnd (some a0.fRoot) fun q4 => match q4 with
      | none =>
        loop tree_Tree_row_Row_At.l1 ()
      | some z5 =>
        bnd (o_tNd z5) fun x15 =>
        bnd (loop tree_Tree_row_Row_At.l2 (a1, x15.fKids, x15.fItems, x15.fN) : Option (Int × (List NP) × (List row_Row) × Int)) fun t16 =>
        bnd (idx t16.2.2.1 t16.1) fun x30 =>
        some (x30, true)
  else
    some ((⟨[], 0, false⟩ : row_Row), false)
theorem tree_Tree_row_Row_At_c {a0 : tTr} {a1 : Int} {res : row_Row × Bool} (h0 : tree_Tree_row_Row_At a0 a1 = some res) : CallF X 81 [.agg [(eOP a0.fRoot)], dN a1] [] (fun x => .tup [.agg [.sl 5 (List.map e_cell_Cell res.1.fCells), dN res.1.fEnd, dT res.1.fHidden], dT res.2]) (fun x => []) := by
 unfold tree_Tree_row_Row_At at h0
 refine CallF.mkG (X := X) rfl Tryz.func81 rfl rfl Tryz.ntmps81 rfl rfl ?_
 refine aS ?_
 refine TL.op1 (OpR.boxImm rfl rfl) rfl ?_
 refine TL.op (OpR.alloc rfl rfl (fun _ => rfl)) rfl (fun p1 => ?_)
 refine aA rfl rfl ?_
 refine aN rfl ?_
 refine T.seq ?_
 refine aS ?_
 iterate 2 refine aA rfl rfl ?_
 obtain ⟨x2, hx2, h0⟩ := bS h0
 refine TL.op1 (OpR.call0 fn151 (tree_Tree_row_Row_has_c hx2) rfl) rfl ?_
 refine aA rfl rfl ?_
 refine aN rfl ?_
 rcases ite_some h0 with ⟨c3, h0⟩ | ⟨c3, h0⟩
 rotate_left
 · refine T.condT rfl (not_f (eq_false_of_ne_true c3)) ?_
   refine aS ?_
   refine TL.op (OpR.alloc rfl rfl (fun _ => rfl)) rfl (fun p31 => ?_)
   refine aN rfl ?_
   refine aS ?_
   refine TL.op1 (OpR.loadPtr 1 rfl rfl rfl rfl) rfl ?_
   refine TL.op0 (OpR.store 0 rfl rfl rfl rfl rfl rfl rfl rfl) ?_
   refine aA rfl rfl ?_
   refine aN rfl ?_
   refine T.ret ?_
   obtain rfl := osi h0
   exact PostG.retP (ks := []) (Gst.trans (Gst.only [4, 5] rfl) (Gst.trans (Gst.denil (ReS.cons Re.refl (ReS.cons Re.refl ReS.nil)) (ReO.var (ReL.cons (Re.base .nil) (ReL.cons Re.refl (ReL.cons Re.refl ReL.nil))) (ReO.same ReO.nil))) (Gst.pick [0] rfl rfl))) undef (cV 0 rfl rfl rfl rfl (cT rfl ResL.nil)) rfl rfl rfl rfl
 refine T.condF rfl (not_t (c3)) ?_
 refine aK rfl ?_
 refine aS ?_
 refine aA rfl rfl ?_
 obtain ⟨q4, hq4, h0⟩ := bS h0
 rcases q4 with _ | z5
 · dsimp only at h0
   refine TL.op1 (OpR.cast (OpR.pure rfl) (congrArg eOP (osi hq4))) rfl ?_
   refine aA rfl rfl ?_
   refine aN rfl ?_
   refine T.seq ?_
   refine T.block ?_
   obtain ⟨n8, n13⟩ := loop_some h0
   refine T.loop (fun n S' => ∃ S'', Gst S' S'' ∧ ∃ s7 : Unit, S'' = ⟨[(7, dQ), (5, (dT false)), (4, (dP (blk p1))), (1, (dN a1))], [.var (blk p1) [.val (.slice none 0 0), dN 0, dT false] 49], 41⟩ ∧ iter tree_Tree_row_Row_At.l1 n s7 = some res) n8 ?_ ?_
   · exact ⟨_, Gst.only [1, 4, 5, 7] rfl, (), rfl, n13⟩
   rintro n8 _ ⟨_, g, s7, rfl, i12⟩
   refine T.ghost g ?_
   obtain ⟨m9, q10, rfl, q11, i12⟩ := iter_succ i12
   unfold tree_Tree_row_Row_At.l1 at q11
   refine T.seq ?_
   refine aS ?_
   refine aA rfl rfl ?_
   exact (by cases q11)
 dsimp only at h0
 obtain ⟨x15, hx15, h0⟩ := bS h0
 rw [o_tNd_eq hx15] at hq4
 refine TL.op1 (OpR.cast (OpR.pure rfl) (congrArg eOP (osi hq4))) rfl ?_
 refine aA rfl rfl ?_
 refine aN rfl ?_
 refine T.seq ?_
 obtain ⟨t16, ht16, h0⟩ := bS h0
 refine T.cutC (fun S' => S' = ⟨[(7, .nod [.sl 1 (List.map eNP t16.2.1), .sl 3 (List.map e_row_Row t16.2.2.1), dN t16.2.2.2]), (5, (dT false)), (4, (dP (blk p1))), (1, (dN t16.1))], [.var (blk p1) [.val (.slice none 0 0), dN 0, dT false] 49], 41⟩) (fun _ h => h) ?_ ?_
 rotate_left
 · rintro _ rfl
   show T X _ _ _
   refine aS ?_
   iterate 5 refine aA rfl rfl ?_
   obtain ⟨x30, hx30, h0⟩ := bS h0
   refine TL.op1 (OpR.indexM e_row_Row hx30 rfl rfl rfl rfl rfl) rfl ?_
   refine aA rfl rfl ?_
   refine TL.op0 (OpR.store 0 rfl rfl rfl rfl rfl rfl rfl rfl) ?_
   refine aA rfl rfl ?_
   refine aN rfl ?_
   refine T.ret ?_
   obtain rfl := osi h0
   exact rO [] [4, 5] rfl undef (cV 0 rfl rfl rfl rfl (cT rfl ResL.nil)) rfl rfl rfl rfl
 refine T.block ?_
 obtain ⟨n18, n23⟩ := loop_some ht16
 refine T.loop (fun n S' => ∃ S'', Gst S' S'' ∧ ∃ s17 : Int × (List NP) × (List row_Row) × Int, S'' = ⟨[(7, .nod [.sl 1 (List.map eNP s17.2.1), .sl 3 (List.map e_row_Row s17.2.2.1), dN s17.2.2.2]), (5, (dT false)), (4, (dP (blk p1))), (1, (dN s17.1))], [.var (blk p1) [.val (.slice none 0 0), dN 0, dT false] 49], 41⟩ ∧ iter tree_Tree_row_Row_At.l2 n s17 = some t16) n18 ?_ ?_
 · exact ⟨_, Gst.only [1, 4, 5, 7] rfl, (a1, x15.fKids, x15.fItems, x15.fN), rfl, n23⟩
 rintro n18 _ ⟨_, g, s17, rfl, i22⟩
 refine T.ghost g ?_
 obtain ⟨m19, q20, rfl, q21, i22⟩ := iter_succ i22
 unfold tree_Tree_row_Row_At.l2 at q21
 refine T.seq ?_
 refine aS ?_
 refine aA rfl rfl ?_
 obtain ⟨x25, hx25, q21⟩ := bS q21
 refine TL.op1 (OpR.call0 fn152 (tree_Node_row_Row_flat_c hx25) rfl) rfl ?_
 refine aA rfl rfl ?_
 refine aN rfl ?_
 rcases ite_some q21 with ⟨c26, q21⟩ | ⟨c26, q21⟩
 · refine T.condF rfl (not_t (c26)) ?_
   refine T.exit ?_
   obtain rfl := osi q21
   obtain rfl : _ = _ := i22
   exact ⟨_, Gst.only [1, 4, 5, 7] rfl, rfl⟩
 refine T.condT rfl (not_f (eq_false_of_ne_true c26)) ?_
 refine aK rfl ?_
 refine T.block ?_
 refine aS ?_
 iterate 2 refine aA rfl rfl ?_
 obtain ⟨x27, hx27, q21⟩ := bS q21
 refine TL.op1 (OpR.call0 fn153 (tree_Node_row_Row_kid_c hx27) rfl) rfl ?_
 iterate 5 refine aA rfl rfl ?_
 refine aN rfl ?_
 refine T.region ?_
 iterate 5 refine aA rfl rfl ?_
 obtain ⟨x28, hx28, q21⟩ := bS q21
 obtain ⟨x29, hx29, q21⟩ := bS q21
 rw [o_tNd_eq hx29] at hx28
 refine TL.op1 (OpR.indexM eNP hx28 rfl rfl rfl rfl rfl) rfl ?_
 iterate 4 refine aA rfl rfl ?_
 refine TL.nil ?_
 obtain rfl := osi q21
 exact ⟨m19, Nat.lt_succ_self _, _, Gst.only [1, 4, 5, 7] rfl, (x27.2, x29.fKids, x29.fItems, x29.fN), rfl, i22⟩
noncomputable def grid_Grid_Row (a0 : grid_Grid) (a1 : Int) : Option (row_Row × Bool) :=
  bnd (tree_Tree_row_Row_At a0.fRows a1) fun x2 =>
  some (x2.1, x2.2)
theorem grid_Grid_Row_c {a0 : grid_Grid} {a1 : Int} {res : row_Row × Bool} (h0 : grid_Grid_Row a0 a1 = some res) : CallF X 24 [.agg [(eOP a0.fRows.fRoot), dT a0.fTail, dN a0.fEnd], dN a1] [] (fun x => .tup [.agg [.sl 5 (List.map e_cell_Cell res.1.fCells), dN res.1.fEnd, dT res.1.fHidden], dT res.2]) (fun x => []) := by
 unfold grid_Grid_Row at h0
 refine CallF.mkG (X := X) rfl Tryz.func24 rfl rfl Tryz.ntmps24 rfl rfl ?_
 refine aS ?_
 refine TL.op1 (OpR.boxImm rfl rfl) rfl ?_
 refine TL.op (OpR.alloc rfl rfl (fun _ => rfl)) rfl (fun p1 => ?_)
 refine aA rfl rfl ?_
 refine aN rfl ?_
 refine aS ?_
 iterate 3 refine aA rfl rfl ?_
 obtain ⟨x2, hx2, h0⟩ := bS h0
 refine TL.op1 (OpR.call0 fn81 (tree_Tree_row_Row_At_c hx2) rfl) rfl ?_
 iterate 2 refine aA rfl rfl ?_
 refine TL.op0 (OpR.store 0 rfl rfl rfl rfl rfl rfl rfl rfl) ?_
 refine aA rfl rfl ?_
 refine aN rfl ?_
 refine T.ret ?_
 obtain rfl := osi h0
 exact rO [] [4, 5] rfl undef (cV 0 rfl rfl rfl rfl (cT rfl ResL.nil)) rfl rfl rfl rfl
noncomputable def arena_Arena_Right (a0 : arena_Span) (a1 : List UInt8) : Option Bool :=
  bnd (if a0.fAt ≥ 0 then
    if a0.fN ≥ 0 then
      if a0.fAt ≤ (a1.length : Int) then
        some (decide (a0.fN ≤ (w64 ((a1.length : Int) - a0.fAt))))
      else
        some false
    else
      some false
  else
    some false : Option Bool) fun t1 =>
  some t1
theorem arena_Arena_Right_c {a0 : arena_Span} {a1 : List UInt8} {b0 : Nat} {v1 : Value} {res : Bool} (h0 : arena_Arena_Right a0 a1 = some res) : CallF X 261 [dP b0, .agg [dN a0.fAt, dN a0.fN]] [.var b0 [.val v1] 264, .row v1 (lB a1) 1 5] (fun x => (dT res)) (fun x => [.var b0 [.val v1] 264, .row v1 (lB a1) 1 5]) := by
 unfold arena_Arena_Right at h0
 refine CallF.mkG (X := X) rfl Tryz.func261 rfl rfl Tryz.ntmps261 rfl rfl ?_
 refine aS ?_
 refine TL.op1 (OpR.boxImm rfl rfl) rfl ?_
 refine aA rfl rfl ?_
 refine aN rfl ?_
 refine T.seq ?_
 refine aS ?_
 refine aA rfl rfl ?_
 refine TL.op1 (OpR.ptrNil (A := some ⟨b0, 0, none⟩) rfl rfl rfl) rfl ?_
 refine aN rfl ?_
 refine T.condF rfl rfl ?_
 refine aK rfl ?_
 refine T.seq ?_
 obtain ⟨t1, ht1, h0⟩ := bS h0
 refine T.cutC (fun S' => S' = ⟨[(4, (dT t1))], [.var b0 [.val v1] 264, .row v1 (lB a1) 1 5], 38⟩) (fun _ h => h) ?_ ?_
 rotate_left
 · rintro _ rfl
   show T X _ _ _
   refine T.ret ?_
   obtain rfl := osi h0
   exact rO [0, 1] [4] rfl undef (cT rfl ResL.nil) rfl rfl rfl rfl
 rcases ite_some ht1 with ⟨c3, ht1⟩ | ⟨c3, ht1⟩
 rotate_left
 · refine T.drawQ drawsX [.nod [dN a0.fAt, dN a0.fN], dN a0.fAt, dT (decide (a0.fAt ≥ 0)), dT (decide (a0.fAt ≥ 0)), .tup [], .tup [], .tup [], dT false, dT false, .tup [], .tup [], .tup [], .tup [], .tup [], .tup [], .tup [], .tup [], dT false, dT false, .tup [], .tup [], .tup [], .tup [], .tup [], .tup [], .tup [], .tup [], .tup [], .tup [], .tup [], dT false, dT false] [4] (by decide +kernel) rfl ?_ rfl ?_
   rotate_left
   · obtain rfl := osi ht1
     exact ⟨_, Gst.only [4] rfl, rfl⟩
   iterate 4 refine aB rfl rfl rfl ?_
   refine OpsQ.no (Want.bool rfl rfl rfl rfl (by rw [(eF c3)]; rfl)) rfl ?_
   refine OpsQ.no (Want.bool rfl rfl rfl rfl (by rw [(eF c3)]; rfl)) rfl ?_
   refine OpsQ.no (Want.bool rfl rfl rfl rfl (by rw [(eF c3)]; rfl)) rfl ?_
   refine OpsQ.yes (Want.plain rfl) rfl (OpR.pickF rfl (eF c3) rfl) ?_
   refine aB rfl rfl rfl ?_
   refine OpsQ.no (Want.bool rfl rfl rfl rfl rfl) rfl ?_
   refine OpsQ.no (Want.bool rfl rfl rfl rfl rfl) rfl ?_
   refine OpsQ.no (Want.bool rfl rfl rfl rfl rfl) rfl ?_
   refine OpsQ.no (Want.bool rfl rfl rfl rfl rfl) rfl ?_
   refine OpsQ.no (Want.bool rfl rfl rfl rfl rfl) rfl ?_
   refine OpsQ.no (Want.bool rfl rfl rfl rfl rfl) rfl ?_
   refine OpsQ.no (Want.bool rfl rfl rfl rfl rfl) rfl ?_
   refine OpsQ.no (Want.bool rfl rfl rfl rfl rfl) rfl ?_
   refine OpsQ.yes (Want.plain rfl) rfl (OpR.pickF rfl rfl rfl) ?_
   refine aB rfl rfl rfl ?_
   refine OpsQ.no (Want.bool rfl rfl rfl rfl rfl) rfl ?_
   refine OpsQ.no (Want.bool rfl rfl rfl rfl rfl) rfl ?_
   refine OpsQ.no (Want.bool rfl rfl rfl rfl rfl) rfl ?_
   refine OpsQ.no (Want.bool rfl rfl rfl rfl rfl) rfl ?_
   refine OpsQ.no (Want.bool rfl rfl rfl rfl rfl) rfl ?_
   refine OpsQ.no (Want.bool rfl rfl rfl rfl rfl) rfl ?_
   refine OpsQ.no (Want.bool rfl rfl rfl rfl rfl) rfl ?_
   refine OpsQ.no (Want.bool rfl rfl rfl rfl rfl) rfl ?_
   refine OpsQ.no (Want.bool rfl rfl rfl rfl rfl) rfl ?_
   refine OpsQ.no (Want.bool rfl rfl rfl rfl rfl) rfl ?_
   refine OpsQ.no (Want.bool rfl rfl rfl rfl rfl) rfl ?_
   refine OpsQ.yes (Want.plain rfl) rfl (OpR.pickF rfl rfl rfl) ?_
   refine aB rfl rfl rfl ?_
   exact OpsQ.nil
 rcases ite_some ht1 with ⟨c4, ht1⟩ | ⟨c4, ht1⟩
 rotate_left
 · refine T.drawQ drawsX [.nod [dN a0.fAt, dN a0.fN], dN a0.fAt, dT (decide (a0.fAt ≥ 0)), dT (decide (a0.fAt ≥ 0)), .nod [dN a0.fN], dN a0.fN, dT (decide (a0.fN ≥ 0)), dT (decide (a0.fN ≥ 0)), dT (decide (a0.fN ≥ 0)), .tup [], .tup [], .tup [], .tup [], .tup [], .tup [], .tup [], .tup [], dT false, dT false, .tup [], .tup [], .tup [], .tup [], .tup [], .tup [], .tup [], .tup [], .tup [], .tup [], .tup [], dT false, dT false] [4] (by decide +kernel) rfl ?_ rfl ?_
   rotate_left
   · obtain rfl := osi ht1
     exact ⟨_, Gst.only [4] rfl, rfl⟩
   iterate 4 refine aB rfl rfl rfl ?_
   refine OpsQ.yes (Want.bool rfl rfl rfl rfl (by rw [(eT c3)]; rfl)) rfl (OpR.pure rfl) ?_
   refine OpsQ.yes (Want.bool rfl rfl rfl rfl (by rw [(eT c3)]; rfl)) rfl (OpR.pure rfl) ?_
   refine OpsQ.yes (Want.bool rfl rfl rfl rfl (by rw [(eT c3)]; rfl)) rfl (OpR.pure rfl) ?_
   refine OpsQ.yes (Want.plain rfl) rfl (OpR.pickT rfl (eT c3) rfl) ?_
   refine aB rfl rfl rfl ?_
   refine OpsQ.no (Want.bool rfl rfl rfl rfl (by rw [(eF c4)]; rfl)) rfl ?_
   refine OpsQ.no (Want.bool rfl rfl rfl rfl (by rw [(eF c4)]; rfl)) rfl ?_
   refine OpsQ.no (Want.bool rfl rfl rfl rfl (by rw [(eF c4)]; rfl)) rfl ?_
   refine OpsQ.no (Want.bool rfl rfl rfl rfl (by rw [(eF c4)]; rfl)) rfl ?_
   refine OpsQ.no (Want.bool rfl rfl rfl rfl (by rw [(eF c4)]; rfl)) rfl ?_
   refine OpsQ.no (Want.bool rfl rfl rfl rfl (by rw [(eF c4)]; rfl)) rfl ?_
   refine OpsQ.no (Want.bool rfl rfl rfl rfl (by rw [(eF c4)]; rfl)) rfl ?_
   refine OpsQ.no (Want.bool rfl rfl rfl rfl (by rw [(eF c4)]; rfl)) rfl ?_
   refine OpsQ.yes (Want.plain rfl) rfl (OpR.pickF rfl (eF c4) rfl) ?_
   refine aB rfl rfl rfl ?_
   refine OpsQ.no (Want.bool rfl rfl rfl rfl rfl) rfl ?_
   refine OpsQ.no (Want.bool rfl rfl rfl rfl rfl) rfl ?_
   refine OpsQ.no (Want.bool rfl rfl rfl rfl rfl) rfl ?_
   refine OpsQ.no (Want.bool rfl rfl rfl rfl rfl) rfl ?_
   refine OpsQ.no (Want.bool rfl rfl rfl rfl rfl) rfl ?_
   refine OpsQ.no (Want.bool rfl rfl rfl rfl rfl) rfl ?_
   refine OpsQ.no (Want.bool rfl rfl rfl rfl rfl) rfl ?_
   refine OpsQ.no (Want.bool rfl rfl rfl rfl rfl) rfl ?_
   refine OpsQ.no (Want.bool rfl rfl rfl rfl rfl) rfl ?_
   refine OpsQ.no (Want.bool rfl rfl rfl rfl rfl) rfl ?_
   refine OpsQ.no (Want.bool rfl rfl rfl rfl rfl) rfl ?_
   refine OpsQ.yes (Want.plain rfl) rfl (OpR.pickF rfl rfl rfl) ?_
   refine aB rfl rfl rfl ?_
   exact OpsQ.nil
 rcases ite_some ht1 with ⟨c5, ht1⟩ | ⟨c5, ht1⟩
 rotate_left
 · refine T.drawQ drawsX [.nod [dN a0.fAt, dN a0.fN], dN a0.fAt, dT (decide (a0.fAt ≥ 0)), dT (decide (a0.fAt ≥ 0)), .nod [dN a0.fN], dN a0.fN, dT (decide (a0.fN ≥ 0)), dT (decide (a0.fN ≥ 0)), dT (decide (a0.fN ≥ 0)), .nod [dN a0.fAt, dN a0.fN], dN a0.fAt, dP b0, dP b0, dP b0, .val v1, dN (a1.length : Int), dT (decide (a0.fAt ≤ (a1.length : Int))), dT (decide (a0.fAt ≤ (a1.length : Int))), dT (decide (a0.fAt ≤ (a1.length : Int))), .tup [], .tup [], .tup [], .tup [], .tup [], .tup [], .tup [], .tup [], .tup [], .tup [], .tup [], dT false, dT false] [4] (by decide +kernel) rfl ?_ rfl ?_
   rotate_left
   · obtain rfl := osi ht1
     exact ⟨_, Gst.only [4] rfl, rfl⟩
   iterate 4 refine aB rfl rfl rfl ?_
   refine OpsQ.yes (Want.bool rfl rfl rfl rfl (by rw [(eT c3)]; rfl)) rfl (OpR.pure rfl) ?_
   refine OpsQ.yes (Want.bool rfl rfl rfl rfl (by rw [(eT c3)]; rfl)) rfl (OpR.pure rfl) ?_
   refine OpsQ.yes (Want.bool rfl rfl rfl rfl (by rw [(eT c3)]; rfl)) rfl (OpR.pure rfl) ?_
   refine OpsQ.yes (Want.plain rfl) rfl (OpR.pickT rfl (eT c3) rfl) ?_
   refine aB rfl rfl rfl ?_
   refine OpsQ.yes (Want.bool rfl rfl rfl rfl (by rw [(eT c4)]; rfl)) rfl (OpR.pure rfl) ?_
   refine OpsQ.yes (Want.bool rfl rfl rfl rfl (by rw [(eT c4)]; rfl)) rfl (OpR.pure rfl) ?_
   refine OpsQ.yes (Want.bool rfl rfl rfl rfl (by rw [(eT c4)]; rfl)) rfl (OpR.pure rfl) ?_
   refine OpsQ.yes (Want.bool rfl rfl rfl rfl (by rw [(eT c4)]; rfl)) rfl (OpR.pure rfl) ?_
   refine OpsQ.yes (Want.bool rfl rfl rfl rfl (by rw [(eT c4)]; rfl)) rfl (OpR.pure rfl) ?_
   refine OpsQ.yes (Want.bool rfl rfl rfl rfl (by rw [(eT c4)]; rfl)) rfl (OpR.loadPtr 0 rfl rfl rfl rfl) ?_
   refine OpsQ.yes (Want.bool rfl rfl rfl rfl (by rw [(eT c4)]; rfl)) rfl (OpR.rowLenM byteD 1 rfl rfl rfl rfl) ?_
   refine OpsQ.yes (Want.bool rfl rfl rfl rfl (by rw [(eT c4)]; rfl)) rfl (OpR.pure rfl) ?_
   refine OpsQ.yes (Want.plain rfl) rfl (OpR.pickT rfl (eT c4) rfl) ?_
   refine aB rfl rfl rfl ?_
   refine OpsQ.no (Want.bool rfl rfl rfl rfl (by rw [(eF c5)]; rfl)) rfl ?_
   refine OpsQ.no (Want.bool rfl rfl rfl rfl (by rw [(eF c5)]; rfl)) rfl ?_
   refine OpsQ.no (Want.bool rfl rfl rfl rfl (by rw [(eF c5)]; rfl)) rfl ?_
   refine OpsQ.no (Want.bool rfl rfl rfl rfl (by rw [(eF c5)]; rfl)) rfl ?_
   refine OpsQ.no (Want.bool rfl rfl rfl rfl (by rw [(eF c5)]; rfl)) rfl ?_
   refine OpsQ.no (Want.bool rfl rfl rfl rfl (by rw [(eF c5)]; rfl)) rfl ?_
   refine OpsQ.no (Want.bool rfl rfl rfl rfl (by rw [(eF c5)]; rfl)) rfl ?_
   refine OpsQ.no (Want.bool rfl rfl rfl rfl (by rw [(eF c5)]; rfl)) rfl ?_
   refine OpsQ.no (Want.bool rfl rfl rfl rfl (by rw [(eF c5)]; rfl)) rfl ?_
   refine OpsQ.no (Want.bool rfl rfl rfl rfl (by rw [(eF c5)]; rfl)) rfl ?_
   refine OpsQ.no (Want.bool rfl rfl rfl rfl (by rw [(eF c5)]; rfl)) rfl ?_
   refine OpsQ.yes (Want.plain rfl) rfl (OpR.pickF rfl (eF c5) rfl) ?_
   refine aB rfl rfl rfl ?_
   exact OpsQ.nil
 refine T.drawQ drawsX [.nod [dN a0.fAt, dN a0.fN], dN a0.fAt, dT (decide (a0.fAt ≥ 0)), dT (decide (a0.fAt ≥ 0)), .nod [dN a0.fN], dN a0.fN, dT (decide (a0.fN ≥ 0)), dT (decide (a0.fN ≥ 0)), dT (decide (a0.fN ≥ 0)), .nod [dN a0.fAt, dN a0.fN], dN a0.fAt, dP b0, dP b0, dP b0, .val v1, dN (a1.length : Int), dT (decide (a0.fAt ≤ (a1.length : Int))), dT (decide (a0.fAt ≤ (a1.length : Int))), dT (decide (a0.fAt ≤ (a1.length : Int))), .nod [dN a0.fN], dN a0.fN, dP b0, dP b0, dP b0, .val v1, dN (a1.length : Int), .nod [dN a0.fAt, dN a0.fN], dN a0.fAt, dN (w64 ((a1.length : Int) - a0.fAt)), dT (decide (a0.fN ≤ (w64 ((a1.length : Int) - a0.fAt)))), dT (decide (a0.fN ≤ (w64 ((a1.length : Int) - a0.fAt)))), dT (decide (a0.fN ≤ (w64 ((a1.length : Int) - a0.fAt))))] [4] (by decide +kernel) rfl ?_ rfl ?_
 rotate_left
 · obtain rfl := osi ht1
   exact ⟨_, Gst.only [4] rfl, rfl⟩
 iterate 4 refine aB rfl rfl rfl ?_
 refine OpsQ.yes (Want.bool rfl rfl rfl rfl (by rw [(eT c3)]; rfl)) rfl (OpR.pure rfl) ?_
 refine OpsQ.yes (Want.bool rfl rfl rfl rfl (by rw [(eT c3)]; rfl)) rfl (OpR.pure rfl) ?_
 refine OpsQ.yes (Want.bool rfl rfl rfl rfl (by rw [(eT c3)]; rfl)) rfl (OpR.pure rfl) ?_
 refine OpsQ.yes (Want.plain rfl) rfl (OpR.pickT rfl (eT c3) rfl) ?_
 refine aB rfl rfl rfl ?_
 refine OpsQ.yes (Want.bool rfl rfl rfl rfl (by rw [(eT c4)]; rfl)) rfl (OpR.pure rfl) ?_
 refine OpsQ.yes (Want.bool rfl rfl rfl rfl (by rw [(eT c4)]; rfl)) rfl (OpR.pure rfl) ?_
 refine OpsQ.yes (Want.bool rfl rfl rfl rfl (by rw [(eT c4)]; rfl)) rfl (OpR.pure rfl) ?_
 refine OpsQ.yes (Want.bool rfl rfl rfl rfl (by rw [(eT c4)]; rfl)) rfl (OpR.pure rfl) ?_
 refine OpsQ.yes (Want.bool rfl rfl rfl rfl (by rw [(eT c4)]; rfl)) rfl (OpR.pure rfl) ?_
 refine OpsQ.yes (Want.bool rfl rfl rfl rfl (by rw [(eT c4)]; rfl)) rfl (OpR.loadPtr 0 rfl rfl rfl rfl) ?_
 refine OpsQ.yes (Want.bool rfl rfl rfl rfl (by rw [(eT c4)]; rfl)) rfl (OpR.rowLenM byteD 1 rfl rfl rfl rfl) ?_
 refine OpsQ.yes (Want.bool rfl rfl rfl rfl (by rw [(eT c4)]; rfl)) rfl (OpR.pure rfl) ?_
 refine OpsQ.yes (Want.plain rfl) rfl (OpR.pickT rfl (eT c4) rfl) ?_
 refine aB rfl rfl rfl ?_
 refine OpsQ.yes (Want.bool rfl rfl rfl rfl (by rw [(eT c5)]; rfl)) rfl (OpR.pure rfl) ?_
 refine OpsQ.yes (Want.bool rfl rfl rfl rfl (by rw [(eT c5)]; rfl)) rfl (OpR.pure rfl) ?_
 refine OpsQ.yes (Want.bool rfl rfl rfl rfl (by rw [(eT c5)]; rfl)) rfl (OpR.pure rfl) ?_
 refine OpsQ.yes (Want.bool rfl rfl rfl rfl (by rw [(eT c5)]; rfl)) rfl (OpR.pure rfl) ?_
 refine OpsQ.yes (Want.bool rfl rfl rfl rfl (by rw [(eT c5)]; rfl)) rfl (OpR.pure rfl) ?_
 refine OpsQ.yes (Want.bool rfl rfl rfl rfl (by rw [(eT c5)]; rfl)) rfl (OpR.loadPtr 0 rfl rfl rfl rfl) ?_
 refine OpsQ.yes (Want.bool rfl rfl rfl rfl (by rw [(eT c5)]; rfl)) rfl (OpR.rowLenM byteD 1 rfl rfl rfl rfl) ?_
 refine OpsQ.yes (Want.bool rfl rfl rfl rfl (by rw [(eT c5)]; rfl)) rfl (OpR.pure rfl) ?_
 refine OpsQ.yes (Want.bool rfl rfl rfl rfl (by rw [(eT c5)]; rfl)) rfl (OpR.pure rfl) ?_
 refine OpsQ.yes (Want.bool rfl rfl rfl rfl (by rw [(eT c5)]; rfl)) rfl (OpR.pure rfl) ?_
 refine OpsQ.yes (Want.bool rfl rfl rfl rfl (by rw [(eT c5)]; rfl)) rfl (OpR.pure rfl) ?_
 refine OpsQ.yes (Want.plain rfl) rfl (OpR.pickT rfl (eT c5) rfl) ?_
 refine aB rfl rfl rfl ?_
 exact OpsQ.nil
noncomputable def arena_Arena_part (a0 : arena_Span) (a1 : List UInt8) : Option ((Int × Int) ⊕ (List UInt8)) :=
  bnd (arena_Arena_Right a0 a1) fun x1 =>
  if x1 = true then
    bnd (cut a1 a0.fAt (w64 (a0.fAt + a0.fN))) fun x4 =>
    some (Sum.inl (a0.fAt, w64 (a0.fAt + a0.fN)))
  else
    some (Sum.inr [])
theorem arena_Arena_part_c {a0 : arena_Span} {a1 : List UInt8} {b0 : Nat} {v1 : Value} {res : (Int × Int) ⊕ (List UInt8)} (h0 : arena_Arena_part a0 a1 = some res) : CallF X 231 [dP b0, .agg [dN a0.fAt, dN a0.fN]] [.var b0 [.val v1] 264, .row v1 (lB a1) 1 5] (fun x => (match res with | .inl res => .val (vw v1 (res.1 : Int).toNat (res.2 : Int).toNat 1) | .inr res => .sl 1 (lB res))) (fun x => (match res with | .inl res => [.var b0 [.val v1] 264, .row v1 (lB a1) 1 5] | .inr res => [.var b0 [.val v1] 264, .row v1 (lB a1) 1 5])) := by
 unfold arena_Arena_part at h0
 refine CallF.mkG (X := X) rfl Tryz.func231 rfl rfl Tryz.ntmps231 rfl rfl ?_
 refine aS ?_
 refine TL.op1 (OpR.boxImm rfl rfl) rfl ?_
 refine aA rfl rfl ?_
 refine aN rfl ?_
 refine T.seq ?_
 refine aS ?_
 iterate 2 refine aA rfl rfl ?_
 obtain ⟨x1, hx1, h0⟩ := bS h0
 refine TL.op1 (OpR.call [0, 1] fn261 (arena_Arena_Right_c hx1) rfl rfl rfl (fun _ => rfl)) rfl ?_
 refine aA rfl rfl ?_
 refine aN rfl ?_
 rcases ite_some h0 with ⟨c2, h0⟩ | ⟨c2, h0⟩
 rotate_left
 · refine T.condT rfl (not_f (eq_false_of_ne_true c2)) ?_
   refine aS ?_
   refine aA rfl rfl ?_
   refine aN rfl ?_
   refine T.ret ?_
   obtain rfl := osi h0
   exact PostG.retP (ks := [0, 1]) (Gst.trans (Gst.only [4] rfl) (Gst.denil (ReS.cons (Re.base .nil) ReS.nil) (ReO.var (ReL.cons Re.refl ReL.nil) (ReO.same ReO.nil)))) undef (cT rfl ResL.nil) rfl rfl rfl rfl
 refine T.condF rfl (not_t (c2)) ?_
 refine aK rfl ?_
 refine T.seq ?_
 obtain ⟨x4, hx4, h0⟩ := bS h0
 refine T.drawQ drawsX [dP b0, dP b0, dP b0, .val v1, .nod [dN a0.fAt, dN a0.fN], dN a0.fAt, .nod [dN a0.fAt, dN a0.fN], dN a0.fAt, .nod [dN a0.fN], dN a0.fN, dN (w64 (a0.fAt + a0.fN)), .val (vw v1 (a0.fAt : Int).toNat (w64 (a0.fAt + a0.fN) : Int).toNat 1), .val (vw v1 (a0.fAt : Int).toNat (w64 (a0.fAt + a0.fN) : Int).toNat 1)] [4] (by decide +kernel) rfl ?_ rfl ?_
 rotate_left
 · show T X _ _ _
   refine T.ret ?_
   obtain rfl := osi h0
   exact rO [0, 1] [4] rfl undef (cT rfl ResL.nil) rfl rfl rfl rfl
 iterate 3 refine aB rfl rfl rfl ?_
 refine OpsQ.yes (Want.plain rfl) rfl (OpR.loadPtr 0 rfl rfl rfl rfl) ?_
 iterate 7 refine aB rfl rfl rfl ?_
 refine OpsQ.yes (Want.plain rfl) rfl (OpR.sliceRowM byteD 1 hx4 rfl rfl rfl rfl rfl rfl (BdM.some rfl) (BdM.some rfl)) ?_
 refine aB rfl rfl rfl ?_
 exact OpsQ.nil
theorem arena_Arena_part_cx1 {a0 : arena_Span} {a1 : List UInt8} {b0 : Nat} {v1 : Value} {res : Int × Int} (h0 : arena_Arena_part a0 a1 = some (Sum.inl res)) : CallF X 231 [dP b0, .agg [dN a0.fAt, dN a0.fN]] [.var b0 [.val v1] 264, .row v1 (lB a1) 1 5] (fun x => .val (vw v1 (res.1 : Int).toNat (res.2 : Int).toNat 1)) (fun x => [.var b0 [.val v1] 264, .row v1 (lB a1) 1 5]) := arena_Arena_part_c h0
theorem arena_Arena_part_cx2 {a0 : arena_Span} {a1 : List UInt8} {b0 : Nat} {v1 : Value} {res : (List UInt8)} (h0 : arena_Arena_part a0 a1 = some (Sum.inr res)) : CallF X 231 [dP b0, .agg [dN a0.fAt, dN a0.fN]] [.var b0 [.val v1] 264, .row v1 (lB a1) 1 5] (fun x => .sl 1 (lB res)) (fun x => [.var b0 [.val v1] 264, .row v1 (lB a1) 1 5]) := arena_Arena_part_c h0
noncomputable def arena_Arena_Bytes (a0 : arena_Span) (a1 : List UInt8) : Option (List UInt8) :=
  bnd (arena_Arena_part a0 a1) fun x1 =>
  match x1 with
  | .inl x1 =>
      bnd (cut a1 x1.1 x1.2) fun x2 =>
      bnd (mkz 1 (x2.length : Int) (0 : UInt8)) fun x3 =>
      some (over x3 x2)
  | .inr x1 =>
      bnd (mkz 1 (x1.length : Int) (0 : UInt8)) fun x5 =>
      some (over x5 x1)
theorem arena_Arena_Bytes_c {a0 : arena_Span} {a1 : List UInt8} {b0 : Nat} {v1 : Value} {res : (List UInt8)} (h0 : arena_Arena_Bytes a0 a1 = some res) : CallF X 201 [dP b0, .agg [dN a0.fAt, dN a0.fN]] [.var b0 [.val v1] 264, .row v1 (lB a1) 1 5] (fun x => .sl 1 (lB res)) (fun x => [.var b0 [.val v1] 264, .row v1 (lB a1) 1 5]) := by
 unfold arena_Arena_Bytes at h0
 refine CallF.mkG (X := X) rfl Tryz.func201 rfl rfl Tryz.ntmps201 rfl rfl ?_
 refine aS ?_
 refine TL.op1 (OpR.boxImm rfl rfl) rfl ?_
 refine aA rfl rfl ?_
 refine aN rfl ?_
 refine aS ?_
 iterate 2 refine aA rfl rfl ?_
 obtain ⟨x1, hx1, h0⟩ := bS h0
 rcases x1 with x1 | x1
 rotate_left
 · dsimp only at h0
   refine TL.op1 (OpR.call [0, 1] fn231 (arena_Arena_part_cx2 hx1) rfl rfl rfl (fun _ => rfl)) rfl ?_
   refine aA rfl rfl ?_
   refine aN rfl ?_
   refine aS ?_
   refine aA rfl rfl ?_
   refine TL.op1 (OpR.cast (OpR.pure rfl) (intE (lenM _ _))) rfl ?_
   obtain ⟨x5, hx5, h0⟩ := bS h0
   refine TL.op (OpR.makeM byteD hx5 rfl rfl rfl rfl rfl rfl rfl rfl rfl rfl rfl (fun _ => rfl)) rfl (fun v6 => ?_)
   refine aA rfl rfl ?_
   refine aN rfl ?_
   refine aS ?_
   iterate 2 refine aA rfl rfl ?_
   refine TL.op1 (OpR.copyM byteD 2 rfl rfl rfl rfl rfl rfl rfl rfl) rfl ?_
   refine aN rfl ?_
   refine aS ?_
   iterate 2 refine aA rfl rfl ?_
   refine aN rfl ?_
   refine T.ret ?_
   obtain rfl := osi h0
   exact PostG.retP (ks := [0, 1]) (Gst.trans (Gst.only [4] rfl) (Gst.trans (Gst.freezeRow 2 rfl rfl (ReS.cons (Re.base .all) ReS.nil) (ReO.same (ReO.same (ReO.same ReO.nil)))) (Gst.pick [0, 1] rfl rfl))) undef (cT rfl ResL.nil) rfl rfl rfl rfl
 dsimp only at h0
 refine TL.op1 (OpR.call [0, 1] fn231 (arena_Arena_part_cx1 hx1) rfl rfl rfl (fun _ => rfl)) rfl ?_
 refine aA rfl rfl ?_
 refine aN rfl ?_
 refine aS ?_
 refine aA rfl rfl ?_
 obtain ⟨x2, hx2, h0⟩ := bS h0
 refine TL.op1 (OpR.lenF byteD (Src.viewM byteD 1 hx2 rfl rfl) rfl rfl) rfl ?_
 obtain ⟨x3, hx3, h0⟩ := bS h0
 refine TL.op (OpR.makeM byteD hx3 rfl rfl rfl rfl rfl rfl rfl rfl rfl rfl rfl (fun _ => rfl)) rfl (fun v4 => ?_)
 refine aA rfl rfl ?_
 refine aN rfl ?_
 refine aS ?_
 iterate 2 refine aA rfl rfl ?_
 refine TL.op1 (OpR.copyF byteD 2 (Src.viewM byteD 1 hx2 rfl rfl) rfl rfl rfl rfl rfl rfl rfl) rfl ?_
 refine aN rfl ?_
 refine aS ?_
 iterate 2 refine aA rfl rfl ?_
 refine aN rfl ?_
 refine T.ret ?_
 obtain rfl := osi h0
 exact PostG.retP (ks := [0, 1]) (Gst.trans (Gst.only [4] rfl) (Gst.trans (Gst.freezeRow 2 rfl rfl (ReS.cons (Re.base .all) ReS.nil) (ReO.same (ReO.same (ReO.same ReO.nil)))) (Gst.pick [0, 1] rfl rfl))) undef (cT rfl ResL.nil) rfl rfl rfl rfl
noncomputable def piece_Text_Flat.l1 (a0 : piece_Text) (a1 : List UInt8) (s4 : Int × (List UInt8)) : Option (Lp (Int × (List UInt8)) (List UInt8)) :=
  if s4.1 < (a0.fL.length : Int) then
    bnd (idx a0.fL s4.1) fun x13 =>
    bnd (arena_Arena_Bytes x13 a1) fun x15 =>
    bnd (app 1 s4.2 x15) fun x16 =>
    some (Lp.next (w64 (s4.1 + 1), x16))
  else
    some (Lp.done s4.2)
noncomputable def piece_Text_Flat (a0 : piece_Text) (a1 : List UInt8) : Option (List UInt8) :=
  bnd (loop (piece_Text_Flat.l1 a0 a1) (0, []) : Option (List UInt8)) fun t1 =>
  some t1
theorem piece_Text_Flat_c {a0 : piece_Text} {a1 : List UInt8} {b0 : Nat} {v1 : Value} {res : (List UInt8)} (h0 : piece_Text_Flat a0 a1 = some res) : CallF X 183 [.agg [.sl 2 (List.map e_arena_Span a0.fL), dN a0.fN], dP b0] [.var b0 [.val v1] 264, .row v1 (lB a1) 1 5] (fun x => .sl 1 (lB res)) (fun x => [.var b0 [.val v1] 264, .row v1 (lB a1) 1 5]) := by
 unfold piece_Text_Flat at h0
 refine CallF.mkG (X := X) rfl Tryz.func183 rfl rfl Tryz.ntmps183 rfl rfl ?_
 refine aS ?_
 refine TL.op1 (OpR.boxImm rfl rfl) rfl ?_
 refine aA rfl rfl ?_
 refine aN rfl ?_
 refine aS ?_
 refine aA rfl rfl ?_
 refine aN rfl ?_
 refine T.seq ?_
 refine aS ?_
 iterate 2 refine aA rfl rfl ?_
 refine TL.op1 (OpR.cast (OpR.pure rfl) (intE (lenM _ _))) rfl ?_
 refine aA rfl rfl ?_
 refine aN rfl ?_
 obtain ⟨t1, ht1, h0⟩ := bS h0
 refine T.cutC (fun S' => ∃ y2 : Value, S' = ⟨[(5, .val y2), (4, .val (.slice none 0 0))], [.var b0 [.val v1] 264, .row v1 (lB a1) 1 5, .row y2 (lB t1) 1 5], 22⟩) (fun _ h => h) ?_ ?_
 rotate_left
 · rintro _ ⟨y2, rfl⟩
   show T X _ _ _
   refine aS ?_
   iterate 2 refine aA rfl rfl ?_
   refine aN rfl ?_
   refine T.ret ?_
   obtain rfl := osi h0
   exact PostG.retP (ks := [0, 1]) (Gst.trans (Gst.only [4] rfl) (Gst.trans (Gst.freezeRow 2 rfl rfl (ReS.cons (Re.base .all) ReS.nil) (ReO.same (ReO.same (ReO.same ReO.nil)))) (Gst.pick [0, 1] rfl rfl))) undef (cT rfl ResL.nil) rfl rfl rfl rfl
 refine T.block ?_
 obtain ⟨n5, n10⟩ := loop_some ht1
 refine T.loop (fun n S' => ∃ S'', Gst S' S'' ∧ ∃ y3 : Value, ∃ s4 : Int × (List UInt8), S'' = ⟨[(11, (dN s4.1)), (10, (dN (a0.fL.length : Int))), (9, .sl 2 (List.map e_arena_Span a0.fL)), (5, .val y3), (4, .val (.slice none 0 0)), (1, (dP b0))], [.var b0 [.val v1] 264, .row v1 (lB a1) 1 5, .row y3 (lB s4.2) 1 5], 22⟩ ∧ iter (piece_Text_Flat.l1 a0 a1) n s4 = some t1) n5 ?_ ?_
 · exact ⟨_, Gst.trans (Gst.only [1, 4, 5, 9, 10, 11] rfl) (Gst.nilRow (ow := [.var b0 [.val v1] 264, .row v1 (lB a1) 1 5]) 1 5 rfl), (.slice none 0 0), (0, []), rfl, n10⟩
 rintro n5 _ ⟨_, g, y3, s4, rfl, i9⟩
 refine T.ghost g ?_
 obtain ⟨m6, q7, rfl, q8, i9⟩ := iter_succ i9
 unfold piece_Text_Flat.l1 at q8
 refine aS ?_
 refine aA rfl rfl ?_
 refine aN rfl ?_
 refine T.seq ?_
 rcases ite_some q8 with ⟨c12, q8⟩ | ⟨c12, q8⟩
 rotate_left
 · refine T.condF rfl (eF c12) ?_
   refine T.exit ?_
   obtain rfl := osi q8
   obtain rfl : _ = _ := i9
   exact ⟨_, Gst.only [4, 5] rfl, y3, rfl⟩
 refine T.condT rfl (eT c12) ?_
 refine aK rfl ?_
 refine T.seq ?_
 refine T.block ?_
 refine aS ?_
 obtain ⟨x13, hx13, q8⟩ := bS q8
 refine TL.op1 (OpR.indexM e_arena_Span hx13 rfl rfl rfl rfl rfl) rfl ?_
 refine aA rfl rfl ?_
 refine TL.op (OpR.alloc rfl rfl (fun _ => rfl)) rfl (fun p14 => ?_)
 refine TL.op0 (OpR.store 3 rfl rfl rfl rfl rfl rfl rfl rfl) ?_
 refine aN rfl ?_
 refine T.region ?_
 iterate 2 refine aA rfl rfl ?_
 refine TL.op1 (OpR.loadPtr 3 rfl rfl rfl rfl) rfl ?_
 obtain ⟨x15, hx15, q8⟩ := bS q8
 refine TL.op1 (OpR.call [0, 1] fn201 (arena_Arena_Bytes_c hx15) rfl rfl rfl (fun _ => rfl)) rfl ?_
 obtain ⟨x16, hx16, q8⟩ := bS q8
 refine TL.op (OpR.appendM (m := x15) byteD 2 hx16 rfl rfl rfl rfl rfl rfl rfl rfl rfl (fun _ => rfl)) rfl (fun v17 => ?_)
 refine aA rfl rfl ?_
 refine aN rfl ?_
 refine T.region ?_
 iterate 2 refine aA rfl rfl ?_
 refine TL.nil ?_
 obtain rfl := osi q8
 exact ⟨m6, Nat.lt_succ_self _, _, gP [1, 4, 5, 9, 10, 11] [0, 1, 2] rfl rfl rfl, v17, (w64 (s4.1 + 1), x16), rfl, i9⟩
noncomputable def cell_Cell_Bytes (a0 : cell_Cell) (a1 : List UInt8) : Option (List UInt8) :=
  bnd (piece_Text_Flat a0.fText a1) fun x1 =>
  some x1
theorem cell_Cell_Bytes_c {a0 : cell_Cell} {a1 : List UInt8} {b0 : Nat} {v1 : Value} {res : (List UInt8)} (h0 : cell_Cell_Bytes a0 a1 = some res) : CallF X 113 [.agg [.sl 2 (List.map e_arena_Span a0.fText.fL), dN a0.fText.fN, dN a0.fRaw.fAt, dN a0.fRaw.fN, dT a0.fKept], dP b0] [.var b0 [.val v1] 264, .row v1 (lB a1) 1 5] (fun x => .sl 1 (lB res)) (fun x => [.var b0 [.val v1] 264, .row v1 (lB a1) 1 5]) := by
 unfold cell_Cell_Bytes at h0
 refine CallF.mkG (X := X) rfl Tryz.func113 rfl rfl Tryz.ntmps113 rfl rfl ?_
 refine aS ?_
 refine TL.op1 (OpR.boxImm rfl rfl) rfl ?_
 refine aA rfl rfl ?_
 refine aN rfl ?_
 refine aS ?_
 iterate 3 refine aA rfl rfl ?_
 obtain ⟨x1, hx1, h0⟩ := bS h0
 refine TL.op1 (OpR.call [0, 1] fn183 (piece_Text_Flat_c hx1) rfl rfl rfl (fun _ => rfl)) rfl ?_
 refine aA rfl rfl ?_
 refine aN rfl ?_
 refine T.ret ?_
 obtain rfl := osi h0
 exact rO [0, 1] [4] rfl undef (cT rfl ResL.nil) rfl rfl rfl rfl
noncomputable def bytes_Equal (a0 : List UInt8) (a1 : List UInt8) : Option Bool :=
  some (a0 == a1)
theorem bytes_Equal_c {a0 : List UInt8} {a1 : List UInt8} {res : Bool} (h0 : bytes_Equal a0 a1 = some res) : CallF X 177 [.sl 1 (lB a0), .sl 1 (lB a1)] [] (fun x => (dT res)) (fun x => []) := by
 unfold bytes_Equal at h0
 refine CallF.mkG (X := X) rfl Tryz.func177 rfl rfl Tryz.ntmps177 rfl rfl ?_
 refine aS ?_
 refine aA rfl rfl ?_
 refine aN rfl ?_
 refine aS ?_
 refine aA rfl rfl ?_
 refine TL.op1 (OpR.toStr (bs := a0) rfl rfl rfl rfl rfl rfl rfl) rfl ?_
 refine aA rfl rfl ?_
 refine TL.op1 (OpR.toStr (bs := a1) rfl rfl rfl rfl rfl rfl rfl) rfl ?_
 refine TL.op1 (OpR.cast (OpR.pure rfl) (boolE (strEq _ _))) rfl ?_
 refine aA rfl rfl ?_
 refine aN rfl ?_
 refine T.ret ?_
 obtain rfl := osi h0
 exact rO [] [4] rfl undef (cT rfl ResL.nil) rfl rfl rfl rfl
noncomputable def cell_Same (a0 : cell_Cell) (a1 : cell_Cell) (a2 : List UInt8) : Option Bool :=
  bnd (if (a0.fKept == a1.fKept) = true then
    bnd (cell_Cell_Bytes a0 a2) fun x4 =>
    bnd (cell_Cell_Bytes a1 a2) fun x5 =>
    bnd (bytes_Equal x4 x5) fun x6 =>
    some (!x6)
  else
    some true : Option Bool) fun t1 =>
  if t1 = true then
    some false
  else
    bnd (if a0.fKept = true then
      bnd (arena_Arena_Bytes a0.fRaw a2) fun x11 =>
      bnd (arena_Arena_Bytes a1.fRaw a2) fun x12 =>
      bnd (bytes_Equal x11 x12) fun x13 =>
      some x13
    else
      some true : Option Bool) fun t8 =>
    some t8
theorem cell_Same_c {a0 : cell_Cell} {a1 : cell_Cell} {a2 : List UInt8} {b0 : Nat} {v1 : Value} {res : Bool} (h0 : cell_Same a0 a1 a2 = some res) : CallF X 162 [dP b0, .agg [.sl 2 (List.map e_arena_Span a0.fText.fL), dN a0.fText.fN, dN a0.fRaw.fAt, dN a0.fRaw.fN, dT a0.fKept], .agg [.sl 2 (List.map e_arena_Span a1.fText.fL), dN a1.fText.fN, dN a1.fRaw.fAt, dN a1.fRaw.fN, dT a1.fKept]] [.var b0 [.val v1] 264, .row v1 (lB a2) 1 5] (fun x => (dT res)) (fun x => [.var b0 [.val v1] 264, .row v1 (lB a2) 1 5]) := by
 unfold cell_Same at h0
 refine CallF.mkG (X := X) rfl Tryz.func162 rfl rfl Tryz.ntmps162 rfl rfl ?_
 refine aS ?_
 refine TL.op1 (OpR.boxImm rfl rfl) rfl ?_
 refine TL.op1 (OpR.boxImm rfl rfl) rfl ?_
 refine aA rfl rfl ?_
 refine aN rfl ?_
 refine T.seq ?_
 refine T.seq ?_
 obtain ⟨t1, ht1, h0⟩ := bS h0
 refine T.cutC (fun S' => S' = ⟨[(21, (dT t1)), (6, (dT false)), (5, .nod [.sl 2 (List.map e_arena_Span a1.fText.fL), dN a1.fText.fN, dN a1.fRaw.fAt, dN a1.fRaw.fN, dT a1.fKept]), (4, .nod [.sl 2 (List.map e_arena_Span a0.fText.fL), dN a0.fText.fN, dN a0.fRaw.fAt, dN a0.fRaw.fN, dT a0.fKept]), (0, (dP b0))], [.var b0 [.val v1] 264, .row v1 (lB a2) 1 5], 36⟩) (fun _ h => h) ?_ ?_
 · rcases ite_some ht1 with ⟨c3, ht1⟩ | ⟨c3, ht1⟩
   rotate_left
   · refine T.drawQ drawsX [.nod [dT a0.fKept], dT a0.fKept, .nod [dT a1.fKept], dT a1.fKept, dT (!(a0.fKept == a1.fKept)), dT (!(a0.fKept == a1.fKept)), .tup [], .tup [], .tup [], .tup [], .tup [], .tup [], .tup [], .tup [], dT true] [0, 4, 5, 6, 21] (by decide +kernel) rfl ?_ rfl ?_
     rotate_left
     · obtain rfl := osi ht1
       exact ⟨_, Gst.only [0, 4, 5, 6, 21] rfl, rfl⟩
     iterate 4 refine aB rfl rfl rfl ?_
     refine OpsQ.yes (Want.plain rfl) rfl (OpR.neBool rfl rfl rfl rfl) ?_
     refine aB rfl rfl rfl ?_
     refine OpsQ.no (Want.bool rfl rfl rfl rfl (by rw [(not_f (eq_false_of_ne_true c3))]; rfl)) rfl ?_
     refine OpsQ.no (Want.bool rfl rfl rfl rfl (by rw [(not_f (eq_false_of_ne_true c3))]; rfl)) rfl ?_
     refine OpsQ.no (Want.bool rfl rfl rfl rfl (by rw [(not_f (eq_false_of_ne_true c3))]; rfl)) rfl ?_
     refine OpsQ.no (Want.bool rfl rfl rfl rfl (by rw [(not_f (eq_false_of_ne_true c3))]; rfl)) rfl ?_
     refine OpsQ.no (Want.bool rfl rfl rfl rfl (by rw [(not_f (eq_false_of_ne_true c3))]; rfl)) rfl ?_
     refine OpsQ.no (Want.bool rfl rfl rfl rfl (by rw [(not_f (eq_false_of_ne_true c3))]; rfl)) rfl ?_
     refine OpsQ.no (Want.bool rfl rfl rfl rfl (by rw [(not_f (eq_false_of_ne_true c3))]; rfl)) rfl ?_
     refine OpsQ.no (Want.bool rfl rfl rfl rfl (by rw [(not_f (eq_false_of_ne_true c3))]; rfl)) rfl ?_
     refine OpsQ.yes (Want.plain rfl) rfl (OpR.pickT rfl (not_f (eq_false_of_ne_true c3)) rfl) ?_
     exact OpsQ.nil
   obtain ⟨x4, hx4, ht1⟩ := bS ht1
   obtain ⟨x5, hx5, ht1⟩ := bS ht1
   obtain ⟨x6, hx6, ht1⟩ := bS ht1
   refine T.drawQ drawsX [.nod [dT a0.fKept], dT a0.fKept, .nod [dT a1.fKept], dT a1.fKept, dT (!(a0.fKept == a1.fKept)), dT (!(a0.fKept == a1.fKept)), .agg [.sl 2 (List.map e_arena_Span a0.fText.fL), dN a0.fText.fN, dN a0.fRaw.fAt, dN a0.fRaw.fN, dT a0.fKept], dP b0, .sl 1 (lB x4), .agg [.sl 2 (List.map e_arena_Span a1.fText.fL), dN a1.fText.fN, dN a1.fRaw.fAt, dN a1.fRaw.fN, dT a1.fKept], dP b0, .sl 1 (lB x5), dT x6, dT (!x6), dT (!x6)] [0, 4, 5, 6, 21] (by decide +kernel) rfl ?_ rfl ?_
   rotate_left
   · obtain rfl := osi ht1
     exact ⟨_, Gst.only [0, 4, 5, 6, 21] rfl, rfl⟩
   iterate 4 refine aB rfl rfl rfl ?_
   refine OpsQ.yes (Want.plain rfl) rfl (OpR.neBool rfl rfl rfl rfl) ?_
   refine aB rfl rfl rfl ?_
   refine OpsQ.yes (Want.bool rfl rfl rfl rfl (by rw [(not_t (c3))]; rfl)) rfl (OpR.pure rfl) ?_
   refine OpsQ.yes (Want.bool rfl rfl rfl rfl (by rw [(not_t (c3))]; rfl)) rfl (OpR.pure rfl) ?_
   refine OpsQ.yes (Want.bool rfl rfl rfl rfl (by rw [(not_t (c3))]; rfl)) rfl (OpR.call [0, 1] fn113 (cell_Cell_Bytes_c hx4) rfl rfl rfl (fun _ => rfl)) ?_
   refine OpsQ.yes (Want.bool rfl rfl rfl rfl (by rw [(not_t (c3))]; rfl)) rfl (OpR.pure rfl) ?_
   refine OpsQ.yes (Want.bool rfl rfl rfl rfl (by rw [(not_t (c3))]; rfl)) rfl (OpR.pure rfl) ?_
   refine OpsQ.yes (Want.bool rfl rfl rfl rfl (by rw [(not_t (c3))]; rfl)) rfl (OpR.call [0, 1] fn113 (cell_Cell_Bytes_c hx5) rfl rfl rfl (fun _ => rfl)) ?_
   refine OpsQ.yes (Want.bool rfl rfl rfl rfl (by rw [(not_t (c3))]; rfl)) rfl (OpR.call0 fn177 (bytes_Equal_c hx6) rfl) ?_
   refine OpsQ.yes (Want.bool rfl rfl rfl rfl (by rw [(not_t (c3))]; rfl)) rfl (OpR.pure rfl) ?_
   refine OpsQ.yes (Want.plain rfl) rfl (OpR.pickF rfl (not_t (c3)) rfl) ?_
   exact OpsQ.nil
 rintro _ rfl
 show T X _ _ _
 rcases ite_some h0 with ⟨c7, h0⟩ | ⟨c7, h0⟩
 · refine T.condT rfl (c7) ?_
   refine aS ?_
   refine aA rfl rfl ?_
   refine aN rfl ?_
   refine T.ret ?_
   obtain rfl := osi h0
   exact rO [0, 1] [6] rfl undef (cT rfl ResL.nil) rfl rfl rfl rfl
 refine T.condF rfl (eq_false_of_ne_true c7) ?_
 refine aK rfl ?_
 refine T.seq ?_
 obtain ⟨t8, ht8, h0⟩ := bS h0
 refine T.cutC (fun S' => S' = ⟨[(6, (dT t8))], [.var b0 [.val v1] 264, .row v1 (lB a2) 1 5], 36⟩) (fun _ h => h) ?_ ?_
 rotate_left
 · rintro _ rfl
   show T X _ _ _
   refine T.ret ?_
   obtain rfl := osi h0
   exact rO [0, 1] [6] rfl undef (cT rfl ResL.nil) rfl rfl rfl rfl
 rcases ite_some ht8 with ⟨c10, ht8⟩ | ⟨c10, ht8⟩
 rotate_left
 · refine T.drawQ drawsX [.nod [dT a0.fKept], dT a0.fKept, dT (!a0.fKept), dT (!a0.fKept), .tup [], .tup [], .tup [], .tup [], .tup [], .tup [], .tup [], .tup [], .tup [], dT true, dT true] [6] (by decide +kernel) rfl ?_ rfl ?_
   rotate_left
   · obtain rfl := osi ht8
     exact ⟨_, Gst.only [6] rfl, rfl⟩
   iterate 4 refine aB rfl rfl rfl ?_
   refine OpsQ.no (Want.bool rfl rfl rfl rfl (by rw [(not_f (eq_false_of_ne_true c10))]; rfl)) rfl ?_
   refine OpsQ.no (Want.bool rfl rfl rfl rfl (by rw [(not_f (eq_false_of_ne_true c10))]; rfl)) rfl ?_
   refine OpsQ.no (Want.bool rfl rfl rfl rfl (by rw [(not_f (eq_false_of_ne_true c10))]; rfl)) rfl ?_
   refine OpsQ.no (Want.bool rfl rfl rfl rfl (by rw [(not_f (eq_false_of_ne_true c10))]; rfl)) rfl ?_
   refine OpsQ.no (Want.bool rfl rfl rfl rfl (by rw [(not_f (eq_false_of_ne_true c10))]; rfl)) rfl ?_
   refine OpsQ.no (Want.bool rfl rfl rfl rfl (by rw [(not_f (eq_false_of_ne_true c10))]; rfl)) rfl ?_
   refine OpsQ.no (Want.bool rfl rfl rfl rfl (by rw [(not_f (eq_false_of_ne_true c10))]; rfl)) rfl ?_
   refine OpsQ.no (Want.bool rfl rfl rfl rfl (by rw [(not_f (eq_false_of_ne_true c10))]; rfl)) rfl ?_
   refine OpsQ.no (Want.bool rfl rfl rfl rfl (by rw [(not_f (eq_false_of_ne_true c10))]; rfl)) rfl ?_
   refine OpsQ.yes (Want.plain rfl) rfl (OpR.pickT rfl (not_f (eq_false_of_ne_true c10)) rfl) ?_
   refine aB rfl rfl rfl ?_
   exact OpsQ.nil
 obtain ⟨x11, hx11, ht8⟩ := bS ht8
 obtain ⟨x12, hx12, ht8⟩ := bS ht8
 obtain ⟨x13, hx13, ht8⟩ := bS ht8
 refine T.drawQ drawsX [.nod [dT a0.fKept], dT a0.fKept, dT (!a0.fKept), dT (!a0.fKept), dP b0, .nod [dN a0.fRaw.fAt, dN a0.fRaw.fN, dT a0.fKept], .agg [dN a0.fRaw.fAt, dN a0.fRaw.fN], .sl 1 (lB x11), dP b0, .nod [dN a1.fRaw.fAt, dN a1.fRaw.fN, dT a1.fKept], .agg [dN a1.fRaw.fAt, dN a1.fRaw.fN], .sl 1 (lB x12), dT x13, dT x13, dT x13] [6] (by decide +kernel) rfl ?_ rfl ?_
 rotate_left
 · obtain rfl := osi ht8
   exact ⟨_, Gst.only [6] rfl, rfl⟩
 iterate 4 refine aB rfl rfl rfl ?_
 refine OpsQ.yes (Want.bool rfl rfl rfl rfl (by rw [(not_t (c10))]; rfl)) rfl (OpR.pure rfl) ?_
 refine OpsQ.yes (Want.bool rfl rfl rfl rfl (by rw [(not_t (c10))]; rfl)) rfl (OpR.pure rfl) ?_
 refine OpsQ.yes (Want.bool rfl rfl rfl rfl (by rw [(not_t (c10))]; rfl)) rfl (OpR.pure rfl) ?_
 refine OpsQ.yes (Want.bool rfl rfl rfl rfl (by rw [(not_t (c10))]; rfl)) rfl (OpR.call [0, 1] fn201 (arena_Arena_Bytes_c hx11) rfl rfl rfl (fun _ => rfl)) ?_
 refine OpsQ.yes (Want.bool rfl rfl rfl rfl (by rw [(not_t (c10))]; rfl)) rfl (OpR.pure rfl) ?_
 refine OpsQ.yes (Want.bool rfl rfl rfl rfl (by rw [(not_t (c10))]; rfl)) rfl (OpR.pure rfl) ?_
 refine OpsQ.yes (Want.bool rfl rfl rfl rfl (by rw [(not_t (c10))]; rfl)) rfl (OpR.pure rfl) ?_
 refine OpsQ.yes (Want.bool rfl rfl rfl rfl (by rw [(not_t (c10))]; rfl)) rfl (OpR.call [0, 1] fn201 (arena_Arena_Bytes_c hx12) rfl rfl rfl (fun _ => rfl)) ?_
 refine OpsQ.yes (Want.bool rfl rfl rfl rfl (by rw [(not_t (c10))]; rfl)) rfl (OpR.call0 fn177 (bytes_Equal_c hx13) rfl) ?_
 refine OpsQ.yes (Want.plain rfl) rfl (OpR.pickF rfl (not_t (c10)) rfl) ?_
 refine aB rfl rfl rfl ?_
 exact OpsQ.nil
noncomputable def row_Same_1 (a0 : cell_Cell) (a1 : cell_Cell) (a2 : List UInt8) : Option Bool :=
  bnd (cell_Same a0 a1 a2) fun x1 =>
  some x1
theorem row_Same_1_c {a0 : cell_Cell} {a1 : cell_Cell} {a2 : List UInt8} {b0 : Nat} {b1 : Nat} {v2 : Value} {res : Bool} (h0 : row_Same_1 a0 a1 a2 = some res) : CallF X 161 [.agg [.sl 2 (List.map e_arena_Span a0.fText.fL), dN a0.fText.fN, dN a0.fRaw.fAt, dN a0.fRaw.fN, dT a0.fKept], .agg [.sl 2 (List.map e_arena_Span a1.fText.fL), dN a1.fText.fN, dN a1.fRaw.fAt, dN a1.fRaw.fN, dT a1.fKept], dP b0] [.var b0 [dP b1] 28, .var b1 [.val v2] 264, .row v2 (lB a2) 1 5] (fun x => (dT res)) (fun x => [.var b0 [dP b1] 28, .var b1 [.val v2] 264, .row v2 (lB a2) 1 5]) := by
 unfold row_Same_1 at h0
 refine CallF.mkG (X := X) rfl Tryz.func161 rfl rfl Tryz.ntmps161 rfl rfl ?_
 refine aS ?_
 refine TL.op1 (OpR.boxImm rfl rfl) rfl ?_
 refine TL.op1 (OpR.boxImm rfl rfl) rfl ?_
 refine aA rfl rfl ?_
 refine aN rfl ?_
 refine aS ?_
 refine TL.op1 (OpR.loadPtr 0 rfl rfl rfl rfl) rfl ?_
 iterate 2 refine aA rfl rfl ?_
 obtain ⟨x1, hx1, h0⟩ := bS h0
 refine TL.op1 (OpR.call [1, 2] fn162 (cell_Same_c hx1) rfl rfl rfl (fun _ => rfl)) rfl ?_
 refine aA rfl rfl ?_
 refine aN rfl ?_
 refine T.ret ?_
 obtain rfl := osi h0
 exact rO [0, 1, 2] [5] rfl undef (cT rfl ResL.nil) rfl rfl rfl rfl
noncomputable def slices_EqualFunc_cell_Cell_cell_Cell_cell_Cell_cell_Cell.l1 (a0 : List cell_Cell) (a1 : List cell_Cell) (a2 : List UInt8) (s4 : Int) : Option (Lp Int (Ex Unit Bool)) :=
  if s4 < (a0.length : Int) then
    bnd (idx a0 s4) fun x13 =>
    bnd (idx a1 s4) fun x15 =>
    bnd (row_Same_1 x13 x15 a2) fun x17 =>
    if x17 = true then
      some (Lp.next (w64 (s4 + 1)))
    else
      some (Lp.done (Ex.ret false))
  else
    some (Lp.done (Ex.brk ()))
noncomputable def slices_EqualFunc_cell_Cell_cell_Cell_cell_Cell_cell_Cell (a0 : List cell_Cell) (a1 : List cell_Cell) (a2 : List UInt8) : Option Bool :=
  if (a0.length : Int) = (a1.length : Int) then
    bnd (loop (slices_EqualFunc_cell_Cell_cell_Cell_cell_Cell_cell_Cell.l1 a0 a1 a2) 0 : Option (Ex Unit Bool)) fun t2 => match t2 with
      | .brk u3 =>
        some true
      | .ret u3 => some u3
  else
    some false
theorem slices_EqualFunc_cell_Cell_cell_Cell_cell_Cell_cell_Cell_c {a0 : List cell_Cell} {a1 : List cell_Cell} {a2 : List UInt8} {b0 : Nat} {b1 : Nat} {v2 : Value} {res : Bool} (h0 : slices_EqualFunc_cell_Cell_cell_Cell_cell_Cell_cell_Cell a0 a1 a2 = some res) : CallF X 160 [.sl 5 (List.map e_cell_Cell a0), .sl 5 (List.map e_cell_Cell a1), .fn (.func 161) [] [dP b0]] [.var b0 [dP b1] 28, .var b1 [.val v2] 264, .row v2 (lB a2) 1 5] (fun x => (dT res)) (fun x => [.var b0 [dP b1] 28, .var b1 [.val v2] 264, .row v2 (lB a2) 1 5]) := by
 unfold slices_EqualFunc_cell_Cell_cell_Cell_cell_Cell_cell_Cell at h0
 refine CallF.mkG (X := X) rfl Tryz.func160 rfl rfl Tryz.ntmps160 rfl rfl ?_
 refine aS ?_
 refine aA rfl rfl ?_
 refine aN rfl ?_
 refine T.seq ?_
 refine aS ?_
 refine aA rfl rfl ?_
 refine TL.op1 (OpR.cast (OpR.pure rfl) (intE (lenM _ _))) rfl ?_
 refine aA rfl rfl ?_
 refine TL.op1 (OpR.cast (OpR.pure rfl) (intE (lenM _ _))) rfl ?_
 refine aA rfl rfl ?_
 refine aN rfl ?_
 rcases ite_some h0 with ⟨c1, h0⟩ | ⟨c1, h0⟩
 rotate_left
 · refine T.condT rfl (not_f (beq_eq_false_iff_ne.2 c1)) ?_
   refine aS ?_
   refine aA rfl rfl ?_
   refine aN rfl ?_
   refine T.ret ?_
   obtain rfl := osi h0
   exact rO [0, 1, 2] [6] rfl undef (cT rfl ResL.nil) rfl rfl rfl rfl
 refine T.condF rfl (not_t (beq_iff_eq.2 c1)) ?_
 refine aK rfl ?_
 refine T.seq ?_
 refine aS ?_
 refine aA rfl rfl ?_
 refine TL.op1 (OpR.cast (OpR.pure rfl) (intE (lenM _ _))) rfl ?_
 refine aA rfl rfl ?_
 refine aN rfl ?_
 obtain ⟨t2, ht2, h0⟩ := bS h0
 refine T.cutC (fun S' => ∃ u3, t2 = Ex.brk u3 ∧ S' = ⟨[(6, (dT false))], [.var b0 [dP b1] 28, .var b1 [.val v2] 264, .row v2 (lB a2) 1 5], 32⟩) (fun _ h => h) ?_ ?_
 rotate_left
 · rintro _ ⟨u3, rfl, rfl⟩
   show T X _ _ _
   refine aS ?_
   refine aA rfl rfl ?_
   refine aN rfl ?_
   refine T.ret ?_
   obtain rfl := osi h0
   exact rO [0, 1, 2] [6] rfl undef (cT rfl ResL.nil) rfl rfl rfl rfl
 refine T.block ?_
 obtain ⟨n5, n10⟩ := loop_some ht2
 refine T.loop (fun n S' => ∃ S'', Gst S' S'' ∧ ∃ s4 : Int, S'' = ⟨[(17, (dN s4)), (16, (dN (a0.length : Int))), (15, .sl 5 (List.map e_cell_Cell a0)), (6, (dT false)), (2, .fn (.func 161) [] [dP b0]), (1, .sl 5 (List.map e_cell_Cell a1))], [.var b0 [dP b1] 28, .var b1 [.val v2] 264, .row v2 (lB a2) 1 5], 32⟩ ∧ iter (slices_EqualFunc_cell_Cell_cell_Cell_cell_Cell_cell_Cell.l1 a0 a1 a2) n s4 = some t2) n5 ?_ ?_
 · exact ⟨_, Gst.only [1, 2, 6, 15, 16, 17] rfl, 0, rfl, n10⟩
 rintro n5 _ ⟨_, g, s4, rfl, i9⟩
 refine T.ghost g ?_
 obtain ⟨m6, q7, rfl, q8, i9⟩ := iter_succ i9
 unfold slices_EqualFunc_cell_Cell_cell_Cell_cell_Cell_cell_Cell.l1 at q8
 refine aS ?_
 refine aA rfl rfl ?_
 refine aN rfl ?_
 refine T.seq ?_
 rcases ite_some q8 with ⟨c12, q8⟩ | ⟨c12, q8⟩
 rotate_left
 · refine T.condF rfl (eF c12) ?_
   refine T.exit ?_
   obtain rfl := osi q8
   obtain rfl : _ = _ := i9
   exact ⟨_, Gst.only [6] rfl, _, rfl, rfl⟩
 refine T.condT rfl (eT c12) ?_
 refine aK rfl ?_
 refine T.seq ?_
 refine T.block ?_
 refine aS ?_
 refine aA rfl rfl ?_
 obtain ⟨x13, hx13, q8⟩ := bS q8
 refine TL.op1 (OpR.indexM e_cell_Cell hx13 rfl rfl rfl rfl rfl) rfl ?_
 refine aA rfl rfl ?_
 refine TL.op (OpR.alloc rfl rfl (fun _ => rfl)) rfl (fun p14 => ?_)
 refine aA rfl rfl ?_
 refine TL.op0 (OpR.store 3 rfl rfl rfl rfl rfl rfl rfl rfl) ?_
 refine aN rfl ?_
 refine aS ?_
 iterate 2 refine aA rfl rfl ?_
 obtain ⟨x15, hx15, q8⟩ := bS q8
 refine TL.op1 (OpR.indexM e_cell_Cell hx15 rfl rfl rfl rfl rfl) rfl ?_
 refine aA rfl rfl ?_
 refine TL.op (OpR.alloc rfl rfl (fun _ => rfl)) rfl (fun p16 => ?_)
 refine TL.op0 (OpR.store 4 rfl rfl rfl rfl rfl rfl rfl rfl) ?_
 refine aN rfl ?_
 refine aS ?_
 refine aA rfl rfl ?_
 refine TL.op1 (OpR.loadPtr 3 rfl rfl rfl rfl) rfl ?_
 refine TL.op1 (OpR.loadPtr 4 rfl rfl rfl rfl) rfl ?_
 obtain ⟨x17, hx17, q8⟩ := bS q8
 refine TL.op1 (OpR.callV [0, 1, 2] rfl fn161 (row_Same_1_c hx17) rfl rfl rfl (fun _ => rfl)) rfl ?_
 refine aA rfl rfl ?_
 refine aN rfl ?_
 rcases ite_some q8 with ⟨c18, q8⟩ | ⟨c18, q8⟩
 · refine T.condF rfl (not_t (c18)) ?_
   refine aK rfl ?_
   refine T.region ?_
   iterate 2 refine aA rfl rfl ?_
   refine TL.nil ?_
   obtain rfl := osi q8
   exact ⟨m6, Nat.lt_succ_self _, _, gP [1, 2, 6, 15, 16, 17] [0, 1, 2] rfl rfl rfl, w64 (s4 + 1), rfl, i9⟩
 refine T.condT rfl (not_f (eq_false_of_ne_true c18)) ?_
 refine aS ?_
 refine aA rfl rfl ?_
 refine aN rfl ?_
 refine T.ret ?_
 obtain rfl := osi q8
 obtain rfl : _ = _ := i9
 obtain rfl := osi h0
 exact rP [0, 1, 2] [6] [0, 1, 2] rfl rfl rfl undef (cT rfl ResL.nil) rfl rfl rfl rfl
noncomputable def row_Same (a0 : row_Row) (a1 : row_Row) (a2 : List UInt8) : Option Bool :=
  bnd (if a0.fEnd = a1.fEnd then
    some (!(a0.fHidden == a1.fHidden))
  else
    some true : Option Bool) fun t2 =>
  if t2 = true then
    some false
  else
    bnd (slices_EqualFunc_cell_Cell_cell_Cell_cell_Cell_cell_Cell a0.fCells a1.fCells a2) fun x5 =>
    some x5
theorem row_Same_c {a0 : row_Row} {a1 : row_Row} {a2 : List UInt8} {b0 : Nat} {v1 : Value} {res : Bool} (h0 : row_Same a0 a1 a2 = some res) : CallF X 88 [dP b0, .agg [.sl 5 (List.map e_cell_Cell a0.fCells), dN a0.fEnd, dT a0.fHidden], .agg [.sl 5 (List.map e_cell_Cell a1.fCells), dN a1.fEnd, dT a1.fHidden]] [.var b0 [.val v1] 264, .row v1 (lB a2) 1 5] (fun x => (dT res)) (fun x => [.var b0 [.val v1] 264, .row v1 (lB a2) 1 5]) := by
 unfold row_Same at h0
 refine CallF.mkG (X := X) rfl Tryz.func88 rfl rfl Tryz.ntmps88 rfl rfl ?_
 refine aS ?_
 refine TL.op (OpR.boxVar rfl rfl (fun _ => rfl)) rfl (fun p1 => ?_)
 refine TL.op1 (OpR.boxImm rfl rfl) rfl ?_
 refine TL.op1 (OpR.boxImm rfl rfl) rfl ?_
 refine aA rfl rfl ?_
 refine aN rfl ?_
 refine T.seq ?_
 refine T.seq ?_
 obtain ⟨t2, ht2, h0⟩ := bS h0
 refine T.cutC (fun S' => S' = ⟨[(18, (dT t2)), (6, (dT false)), (5, .nod [.sl 5 (List.map e_cell_Cell a1.fCells), dN a1.fEnd, dT a1.fHidden]), (4, .nod [.sl 5 (List.map e_cell_Cell a0.fCells), dN a0.fEnd, dT a0.fHidden]), (3, (dP (blk p1)))], [.var b0 [.val v1] 264, .row v1 (lB a2) 1 5, .var (blk p1) [dP b0] 28], 25⟩) (fun _ h => h) ?_ ?_
 rotate_left
 · rintro _ rfl
   show T X _ _ _
   rcases ite_some h0 with ⟨c4, h0⟩ | ⟨c4, h0⟩
   · refine T.condT rfl (c4) ?_
     refine aS ?_
     refine aA rfl rfl ?_
     refine aN rfl ?_
     refine T.ret ?_
     obtain rfl := osi h0
     exact rP [0, 1] [6] [0, 1] rfl rfl rfl undef (cT rfl ResL.nil) rfl rfl rfl rfl
   refine T.condF rfl (eq_false_of_ne_true c4) ?_
   refine aK rfl ?_
   refine aS ?_
   iterate 5 refine aA rfl rfl ?_
   obtain ⟨x5, hx5, h0⟩ := bS h0
   refine TL.op1 (OpR.call [2, 0, 1] fn160 (slices_EqualFunc_cell_Cell_cell_Cell_cell_Cell_cell_Cell_c hx5) rfl rfl rfl (fun _ => rfl)) rfl ?_
   refine aA rfl rfl ?_
   refine aN rfl ?_
   refine T.ret ?_
   obtain rfl := osi h0
   exact rP [0, 1] [6] [0, 1] rfl rfl rfl undef (cT rfl ResL.nil) rfl rfl rfl rfl
 refine T.region ?_
 iterate 6 refine aA rfl rfl ?_
 rcases ite_some ht2 with ⟨c3, ht2⟩ | ⟨c3, ht2⟩
 rotate_left
 · refine TL.off rfl rfl rfl rfl (not_f (beq_eq_false_iff_ne.2 c3)) rfl rfl ?_
   refine TL.off rfl rfl rfl rfl (not_f (beq_eq_false_iff_ne.2 c3)) rfl rfl ?_
   refine TL.off rfl rfl rfl rfl (not_f (beq_eq_false_iff_ne.2 c3)) rfl rfl ?_
   refine TL.off rfl rfl rfl rfl (not_f (beq_eq_false_iff_ne.2 c3)) rfl rfl ?_
   refine TL.off rfl rfl rfl rfl (not_f (beq_eq_false_iff_ne.2 c3)) rfl rfl ?_
   refine TL.op1 (OpR.pickT rfl (not_f (beq_eq_false_iff_ne.2 c3)) rfl) rfl ?_
   refine TL.nil ?_
   obtain rfl := osi ht2
   exact ⟨_, Gst.only [3, 4, 5, 6, 18] rfl, rfl⟩
 refine TL.on rfl rfl rfl rfl (not_t (beq_iff_eq.2 c3)) ?_
 refine aA rfl rfl ?_
 refine TL.on rfl rfl rfl rfl (not_t (beq_iff_eq.2 c3)) ?_
 refine aA rfl rfl ?_
 refine TL.on rfl rfl rfl rfl (not_t (beq_iff_eq.2 c3)) ?_
 refine aA rfl rfl ?_
 refine TL.on rfl rfl rfl rfl (not_t (beq_iff_eq.2 c3)) ?_
 refine aA rfl rfl ?_
 refine TL.on rfl rfl rfl rfl (not_t (beq_iff_eq.2 c3)) ?_
 refine TL.op1 (OpR.neBool rfl rfl rfl rfl) rfl ?_
 refine TL.op1 (OpR.pickF rfl (not_t (beq_iff_eq.2 c3)) rfl) rfl ?_
 refine TL.nil ?_
 obtain rfl := osi ht2
 exact ⟨_, Gst.only [3, 4, 5, 6, 18] rfl, rfl⟩
noncomputable def grid_Same_r0 (a0 : Int) (a1 : row_Row) (a2 : Option NP) (a3 : Bool) (a4 : Int) (a5 : Bool) (a6 : List UInt8) : Option (Unit ⊕ Bool) :=
  bnd (grid_Grid_Row (⟨(⟨a2⟩ : tTr), a3, a4⟩ : grid_Grid) a0) fun x32 =>
  bnd (row_Same a1 x32.1 a6) fun x34 =>
  if x34 = true then
    some (Sum.inl ())
  else
    some (Sum.inr false)
theorem grid_Same_r0_c {a0 : Int} {a1 : row_Row} {a2 : Option NP} {a3 : Bool} {a4 : Int} {a5 : Bool} {a6 : List UInt8} {b0 : Nat} {b1 : Nat} {b2 : Nat} {v3 : Value} {res : Unit ⊕ Bool} (h0 : grid_Same_r0 a0 a1 a2 a3 a4 a5 a6 = some res) : RoundF X b0 [dN a0, .agg [.sl 5 (List.map e_cell_Cell a1.fCells), dN a1.fEnd, dT a1.fHidden]] [.lp b0 .ready none [35, 36] rfA28_0 rfB28_0 [(6, (dP b2)), (5, .nod [(eOP a2), dT a3, dN a4]), (3, .nod [dP b1])] 48, .var b1 [.val v3] 264, .var b2 [dT a5] 4, .row v3 (lB a6) 1 5] (fun x => (match res with | .inl res => (dT true) | .inr res => (dT false))) (fun x => (match res with | .inl res => [.lp b0 .ready none [35, 36] rfA28_0 rfB28_0 [(6, (dP b2)), (5, .nod [(eOP a2), dT a3, dN a4]), (3, .nod [dP b1])] 48, .var b1 [.val v3] 264, .var b2 [dT a5] 4, .row v3 (lB a6) 1 5] | .inr res => [.lp b0 .done (some (.ret)) [35, 36] rfA28_0 rfB28_0 [(6, (dP b2)), (5, .nod [(eOP a2), dT a3, dN a4]), (3, .nod [dP b1])] 48, .var b1 [.val v3] 264, .var b2 [dT res] 4, .row v3 (lB a6) 1 5])) := by
 unfold grid_Same_r0 at h0
 refine RoundF.mk (X := X) rfl rfl rfl ?_
 refine aS ?_
 refine aA rfl rfl ?_
 refine TL.nil ?_
 show T (X.inR b0) _ _ _
 refine T.region ?_
 refine TL.op (OpR.alloc rfl rfl (fun _ => rfl)) rfl (fun p31 => ?_)
 refine TL.op0 (OpR.store 4 rfl rfl rfl rfl rfl rfl rfl rfl) ?_
 refine TL.nil ?_
 refine RoundA.mk ?_
 refine T.block ?_
 refine aS ?_
 iterate 2 refine aA rfl rfl ?_
 obtain ⟨x32, hx32, h0⟩ := bS h0
 refine TL.op1 (OpR.call0 fn24 (grid_Grid_Row_c hx32) rfl) rfl ?_
 iterate 3 refine aA rfl rfl ?_
 refine TL.op (OpR.alloc rfl rfl (fun _ => rfl)) rfl (fun p33 => ?_)
 refine TL.op0 (OpR.store 5 rfl rfl rfl rfl rfl rfl rfl rfl) ?_
 refine aA rfl rfl ?_
 refine TL.nil ?_
 show T (X.inR b0) _ _ _
 refine aS ?_
 refine aA rfl rfl ?_
 refine TL.op1 (OpR.loadPtr 4 rfl rfl rfl rfl) rfl ?_
 refine TL.op1 (OpR.loadPtr 5 rfl rfl rfl rfl) rfl ?_
 obtain ⟨x34, hx34, h0⟩ := bS h0
 refine TL.op1 (OpR.call [1, 3] fn88 (row_Same_c hx34) rfl rfl rfl (fun _ => rfl)) rfl ?_
 refine aA rfl rfl ?_
 refine TL.nil ?_
 show T (X.inR b0) _ _ _
 rcases ite_some h0 with ⟨c35, h0⟩ | ⟨c35, h0⟩
 · refine T.condF rfl (not_t (c35)) ?_
   refine T.skip ?_
   obtain rfl := osi h0
   exact RoundG.mk (ks := [0, 1, 2, 3]) (gP [] [0, 1, 2, 3] rfl rfl rfl) undef rfl rfl rfl rfl rfl
 refine T.condT rfl (not_f (eq_false_of_ne_true c35)) ?_
 refine aS ?_
 refine TL.op0 (OpR.store 2 rfl rfl rfl rfl rfl rfl rfl rfl) ?_
 refine TL.nil ?_
 show T (X.inR b0) _ _ _
 refine T.ret ?_
 obtain rfl := osi h0
 exact RoundG.mk (ks := [0, 1, 2, 3]) (gP [] [0, 1, 2, 3] rfl rfl rfl) undef rfl rfl rfl rfl rfl
theorem grid_Same_r0_cx1 {a0 : Int} {a1 : row_Row} {a2 : Option NP} {a3 : Bool} {a4 : Int} {a5 : Bool} {a6 : List UInt8} {b0 : Nat} {b1 : Nat} {b2 : Nat} {v3 : Value} {res : Unit} (h0 : grid_Same_r0 a0 a1 a2 a3 a4 a5 a6 = some (Sum.inl res)) : RoundF X b0 [dN a0, .agg [.sl 5 (List.map e_cell_Cell a1.fCells), dN a1.fEnd, dT a1.fHidden]] [.lp b0 .ready none [35, 36] rfA28_0 rfB28_0 [(6, (dP b2)), (5, .nod [(eOP a2), dT a3, dN a4]), (3, .nod [dP b1])] 48, .var b1 [.val v3] 264, .var b2 [dT a5] 4, .row v3 (lB a6) 1 5] (fun x => (dT true)) (fun x => [.lp b0 .ready none [35, 36] rfA28_0 rfB28_0 [(6, (dP b2)), (5, .nod [(eOP a2), dT a3, dN a4]), (3, .nod [dP b1])] 48, .var b1 [.val v3] 264, .var b2 [dT a5] 4, .row v3 (lB a6) 1 5]) := grid_Same_r0_c h0
theorem grid_Same_r0_cx2 {a0 : Int} {a1 : row_Row} {a2 : Option NP} {a3 : Bool} {a4 : Int} {a5 : Bool} {a6 : List UInt8} {b0 : Nat} {b1 : Nat} {b2 : Nat} {v3 : Value} {res : Bool} (h0 : grid_Same_r0 a0 a1 a2 a3 a4 a5 a6 = some (Sum.inr res)) : RoundF X b0 [dN a0, .agg [.sl 5 (List.map e_cell_Cell a1.fCells), dN a1.fEnd, dT a1.fHidden]] [.lp b0 .ready none [35, 36] rfA28_0 rfB28_0 [(6, (dP b2)), (5, .nod [(eOP a2), dT a3, dN a4]), (3, .nod [dP b1])] 48, .var b1 [.val v3] 264, .var b2 [dT a5] 4, .row v3 (lB a6) 1 5] (fun x => (dT false)) (fun x => [.lp b0 .done (some (.ret)) [35, 36] rfA28_0 rfB28_0 [(6, (dP b2)), (5, .nod [(eOP a2), dT a3, dN a4]), (3, .nod [dP b1])] 48, .var b1 [.val v3] 264, .var b2 [dT res] 4, .row v3 (lB a6) 1 5]) := grid_Same_r0_c h0
noncomputable def walk_Range_row_Row_1_5.l1 (a0 : Option NP) (a1 : Bool) (a2 : Int) (a4 : Int) (a6 : Bool) (a7 : List UInt8) (s9 : Int × (List wFr)) : Option (Lp (Int × (List wFr)) (Ex Unit (Unit ⊕ Bool))) :=
  if s9.1 < a4 then
    bnd (walk_stack_row_Row_top s9.2) fun x18 =>
    bnd (idx s9.2 x18) fun x19 =>
    bnd (some x19.fN) fun q20 => match q20 with
      | none =>
        none
      | some z21 =>
        bnd (o_tNd z21) fun x23 =>
        bnd (if x19.fNext = (x23.fItems.length : Int) then
          bnd (walk_stack_row_Row_forth s9.2) fun x28 =>
          some x28.2
        else
          some s9.2 : Option (List wFr)) fun t25 =>
        bnd (walk_stack_row_Row_top t25) fun x30 =>
        bnd (idx t25 x30) fun x31 =>
        bnd (some x31.fN) fun q32 => match q32 with
          | none =>
            none
          | some z33 =>
            bnd (o_tNd z33) fun x35 =>
            bnd (idx x35.fItems x31.fNext) fun x37 =>
            bnd (grid_Same_r0 s9.1 x37 a0 a1 a2 a6 a7) fun x38 =>
            match x38 with
            | .inl x38 =>
                some (Lp.next (w64 (s9.1 + 1), (t25.set x30.toNat (⟨x31.fN, x31.fFirst, w64 (x31.fNext + 1)⟩ : wFr))))
            | .inr x38 =>
                some (Lp.done (Ex.ret (Sum.inr x38)))
  else
    some (Lp.done (Ex.brk ()))
noncomputable def walk_Range_row_Row_1_5 (a0 : Option NP) (a1 : Bool) (a2 : Int) (a3 : Int) (a4 : Int) (a5 : Option NP) (a6 : Bool) (a7 : List UInt8) : Option (Unit ⊕ Bool) :=
  if a3 = a4 then
    some (Sum.inl ())
  else
    bnd (tree_Tree_row_Row_Root (⟨a5⟩ : tTr)) fun x4 =>
    match x4 with
    | .inl x4 =>
        none
    | .inr x4 =>
        bnd (walk_stack_row_Row_down x4.1 x4.2.1 x4.2.2 0 a3) fun x5 =>
        bnd (loop (walk_Range_row_Row_1_5.l1 a0 a1 a2 a4 a6 a7) (a3, x5) : Option (Ex Unit (Unit ⊕ Bool))) fun t6 => match t6 with
          | .brk u7 =>
            some (Sum.inl ())
          | .ret u7 => some u7
theorem walk_Range_row_Row_1_5_c {a0 : Option NP} {a1 : Bool} {a2 : Int} {a3 : Int} {a4 : Int} {a5 : Option NP} {a6 : Bool} {a7 : List UInt8} {b0 : Nat} {b1 : Nat} {b2 : Nat} {b3 : Nat} {b4 : Nat} {b5 : Nat} {v6 : Value} {res : Unit ⊕ Bool} (h0 : walk_Range_row_Row_1_5 a0 a1 a2 a3 a4 a5 a6 a7 = some res) : CallF X 146 [.fn (.yield b0) [] [], dP b1, dP b2, dP b3] [.lp b0 .ready none [35, 36] rfA28_0 rfB28_0 [(6, (dP b5)), (5, .nod [(eOP a0), dT a1, dN a2]), (3, .nod [dP b4])] 48, .var b1 [dN a3] 3, .var b2 [dN a4] 3, .var b3 [(eOP a5)] 25, .var b4 [.val v6] 264, .var b5 [dT a6] 4, .row v6 (lB a7) 1 5] (fun x => (match res with | .inl res => .tup [] | .inr res => .tup [])) (fun x => (match res with | .inl res => [.lp b0 .ready none [35, 36] rfA28_0 rfB28_0 [(6, (dP b5)), (5, .nod [(eOP a0), dT a1, dN a2]), (3, .nod [dP b4])] 48, .var b1 [dN a3] 3, .var b2 [dN a4] 3, .var b3 [(eOP a5)] 25, .var b4 [.val v6] 264, .var b5 [dT a6] 4, .row v6 (lB a7) 1 5] | .inr res => [.lp b0 .done (some (.ret)) [35, 36] rfA28_0 rfB28_0 [(6, (dP b5)), (5, .nod [(eOP a0), dT a1, dN a2]), (3, .nod [dP b4])] 48, .var b1 [dN a3] 3, .var b2 [dN a4] 3, .var b3 [(eOP a5)] 25, .var b4 [.val v6] 264, .var b5 [dT res] 4, .row v6 (lB a7) 1 5])) := by
 unfold walk_Range_row_Row_1_5 at h0
 refine CallF.mkG (X := X) rfl Tryz.func146 rfl rfl Tryz.ntmps146 rfl rfl ?_
 refine T.seq ?_
 refine aS ?_
 refine TL.op1 (OpR.loadPtr 1 rfl rfl rfl rfl) rfl ?_
 refine TL.op1 (OpR.loadPtr 2 rfl rfl rfl rfl) rfl ?_
 refine aA rfl rfl ?_
 refine aN rfl ?_
 rcases ite_some h0 with ⟨c1, h0⟩ | ⟨c1, h0⟩
 · refine T.condT rfl (beq_iff_eq.2 c1) ?_
   refine T.ret ?_
   obtain rfl := osi h0
   exact rO [0, 1, 2, 3, 4, 5, 6] [] rfl undef ResL.nil rfl rfl rfl rfl
 refine T.condF rfl (beq_eq_false_iff_ne.2 c1) ?_
 refine aK rfl ?_
 refine aS ?_
 refine TL.op (OpR.alloc rfl rfl (fun _ => rfl)) rfl (fun p2 => ?_)
 refine aN rfl ?_
 refine T.seq ?_
 obtain ⟨x4, hx4, h0⟩ := bS h0
 rcases x4 with x4 | x4
 · dsimp only at h0
   exact (by cases h0)
 dsimp only at h0
 obtain ⟨x5, hx5, h0⟩ := bS h0
 refine T.drawS drawsX (fun env3 => [.agg [(eOP a5)], .nod [.sl 1 (List.map eNP x4.1), .sl 3 (List.map e_row_Row x4.2.1), dN x4.2.2], dN a3, .tup []]) (fun D env3 => [.lp b0 .ready none [35, 36] rfA28_0 rfB28_0 [(6, (dP b5)), (5, .nod [(eOP a0), dT a1, dN a2]), (3, .nod [dP b4])] 48, .var b1 [dN a3] 3, .var b2 [dN a4] 3, .var b3 [(eOP a5)] 25, .var b4 [.val v6] 264, .var b5 [dT a6] 4, .row v6 (lB a7) 1 5, (bif D 3 then .var (blk p2) [.val (vn (env3 3) 0)] 228 else .var (blk p2) [.val (.slice none 0 0)] 228)] ++ (bif D 3 then [.row (vn (env3 3) 0) (List.map e_wFr x5) 3 234] else [])) [0, 1, 0, 7] [0, 1, 2, 5] _ (by decide +kernel) (by decide +kernel) (fun _ => rfl) (fun _ => rfl) ?_ (fun _ => rfl) (fun _ => rfl) ?_
 · refine oT (.agg [(eOP a5)]) (fun _ _ => OpR.loadPtr 3 rfl rfl rfl rfl) ?_
   refine oT (.nod [.sl 1 (List.map eNP x4.1), .sl 3 (List.map e_row_Row x4.2.1), dN x4.2.2]) (fun _ _ => OpR.call0 fn148 (tree_Tree_row_Row_Root_cx2 hx4) rfl) ?_
   refine oT ((dN a3)) (fun _ _ => OpR.loadPtr 1 rfl rfl rfl rfl) ?_
   refine OpsS.cons' true ?_ (fun D hA env3 x j hj hD => match j, hj, hD with | 0, _, _ => rfl | 1, _, _ => rfl | 2, _, _ => rfl | 3, hj, _ => absurd rfl hj | _ + 4, _, _ => rfl) ?_
   · intro D env3 hA
     exact OpS.yp [(3, false)] ⟨hA.me, trivial⟩ (Want.plain rfl) (OpR.call [7] fn147 (walk_stack_row_Row_down_c hx5) rfl rfl rfl (fun _ => rfl)) (fun x => rfl) (fun x => rfl)
   exact trivial
 intro env3
 show T X _ _ _
 refine aS ?_
 refine TL.op1 (OpR.loadPtr 1 rfl rfl rfl rfl) rfl ?_
 refine aA rfl rfl ?_
 refine aN rfl ?_
 obtain ⟨t6, ht6, h0⟩ := bS h0
 refine T.cutN (fun S' => ∃ u7, t6 = Ex.brk u7 ∧ S' = ⟨[], [.lp b0 .ready none [35, 36] rfA28_0 rfB28_0 [(6, (dP b5)), (5, .nod [(eOP a0), dT a1, dN a2]), (3, .nod [dP b4])] 48, .var b1 [dN a3] 3, .var b2 [dN a4] 3, .var b3 [(eOP a5)] 25, .var b4 [.val v6] 264, .var b5 [dT a6] 4, .row v6 (lB a7) 1 5], 62⟩) (fun _ _ g ⟨h, S', ds, g', r⟩ => ⟨h, S', ds, Gst.trans g g', r⟩) ?_ ?_
 rotate_left
 · rintro _ ⟨u7, rfl, rfl⟩
   obtain rfl := osi h0
   exact PostG.finP (ks := [0, 1, 2, 3, 4, 5, 6]) (Gst.only [] rfl) undef ResL.nil rfl rfl rfl rfl
 refine T.block ?_
 obtain ⟨n10, n15⟩ := loop_some ht6
 refine T.loop (fun n S' => ∃ S'', Gst S' S'' ∧ ∃ y8 : Value, ∃ s9 : Int × (List wFr), S'' = ⟨[(6, (dN s9.1)), (5, (dP (blk p2))), (2, (dP b2)), (0, .fn (.yield b0) [] [])], [.lp b0 .ready none [35, 36] rfA28_0 rfB28_0 [(6, (dP b5)), (5, .nod [(eOP a0), dT a1, dN a2]), (3, .nod [dP b4])] 48, .var b1 [dN a3] 3, .var b2 [dN a4] 3, .var b3 [(eOP a5)] 25, .var b4 [.val v6] 264, .var b5 [dT a6] 4, .row v6 (lB a7) 1 5, .var (blk p2) [.val y8] 228, .row y8 (List.map e_wFr s9.2) 3 234], 62⟩ ∧ iter (walk_Range_row_Row_1_5.l1 a0 a1 a2 a4 a6 a7) n s9 = some t6) n10 ?_ ?_
 · exact ⟨_, Gst.only [0, 2, 5, 6] rfl, (vn (env3 3) 0), (a3, x5), rfl, n15⟩
 rintro n10 _ ⟨_, g, y8, s9, rfl, i14⟩
 refine T.ghost g ?_
 obtain ⟨m11, q12, rfl, q13, i14⟩ := iter_succ i14
 unfold walk_Range_row_Row_1_5.l1 at q13
 refine T.seq ?_
 refine aS ?_
 refine aA rfl rfl ?_
 refine TL.op1 (OpR.loadPtr 2 rfl rfl rfl rfl) rfl ?_
 refine aA rfl rfl ?_
 refine aN rfl ?_
 rcases ite_some q13 with ⟨c17, q13⟩ | ⟨c17, q13⟩
 rotate_left
 · refine T.condF rfl (eF c17) ?_
   refine T.exit ?_
   obtain rfl := osi q13
   obtain rfl : _ = _ := i14
   exact ⟨_, gP [] [0, 1, 2, 3, 4, 5, 6] rfl rfl rfl, _, rfl, rfl⟩
 refine T.condT rfl (eT c17) ?_
 refine aK rfl ?_
 refine T.seq ?_
 refine T.block ?_
 refine T.seq ?_
 refine aS ?_
 obtain ⟨x18, hx18, q13⟩ := bS q13
 refine TL.op1 (OpR.call [7, 8] fn149 (walk_stack_row_Row_top_c hx18) rfl rfl rfl (fun _ => rfl)) rfl ?_
 refine aA rfl rfl ?_
 refine aN rfl ?_
 refine T.seq ?_
 obtain ⟨x19, hx19, q13⟩ := bS q13
 obtain ⟨q20, hq20, q13⟩ := bS q13
 rcases q20 with _ | z21
 · dsimp only at q13
   exact (by cases q13)
 dsimp only at q13
 obtain ⟨x23, hx23, q13⟩ := bS q13
 rw [o_tNd_eq hx23] at hq20
 refine T.drawQ drawsX [.val (.pointer (some ⟨blk y8, x18.toNat * 3, none⟩)), .val (.pointer (some ⟨blk y8, x18.toNat * 3, none⟩)), .val (.pointer (some ⟨blk y8, x18.toNat * 3 + 2, none⟩)), dN x19.fNext, .val (.pointer (some ⟨blk y8, x18.toNat * 3, none⟩)), .val (.pointer (some ⟨blk y8, x18.toNat * 3, none⟩)), .val (.pointer (some ⟨blk y8, x18.toNat * 3, none⟩)), .nod [.sl 1 (List.map eNP x23.fKids), .sl 3 (List.map e_row_Row x23.fItems), dN x23.fN], .nod [.sl 1 (List.map eNP x23.fKids), .sl 3 (List.map e_row_Row x23.fItems), dN x23.fN], .nod [.sl 3 (List.map e_row_Row x23.fItems), dN x23.fN], .sl 3 (List.map e_row_Row x23.fItems), dN (x23.fItems.length : Int), dT (x19.fNext == (x23.fItems.length : Int))] [0, 2, 5, 6, 35] (by decide +kernel) rfl ?_ rfl ?_
 · iterate 3 refine aB rfl rfl rfl ?_
   refine OpsQ.yes (Want.plain rfl) rfl (OpR.rowLoadM (j := x18) e_wFr 8 hx19 rfl rfl rfl rfl) ?_
   iterate 3 refine aB rfl rfl rfl ?_
   refine OpsQ.yes (Want.plain rfl) rfl (OpR.cast (OpR.rowLoad0M (j := x18) e_wFr 8 hx19 rfl rfl rfl rfl) (congrArg eOP (osi hq20))) ?_
   iterate 3 refine aB rfl rfl rfl ?_
   refine OpsQ.yes (Want.plain rfl) rfl (OpR.cast (OpR.pure rfl) (intE (lenM _ _))) ?_
   refine aB rfl rfl rfl ?_
   exact OpsQ.nil
 show T X _ _ _
 obtain ⟨t25, ht25, q13⟩ := bS q13
 refine T.cutC (fun S' => ∃ y26 : Value, S' = ⟨[(6, (dN s9.1)), (5, (dP (blk p2))), (2, (dP b2)), (0, .fn (.yield b0) [] [])], [.lp b0 .ready none [35, 36] rfA28_0 rfB28_0 [(6, (dP b5)), (5, .nod [(eOP a0), dT a1, dN a2]), (3, .nod [dP b4])] 48, .var b1 [dN a3] 3, .var b2 [dN a4] 3, .var b3 [(eOP a5)] 25, .var b4 [.val v6] 264, .var b5 [dT a6] 4, .row v6 (lB a7) 1 5, .var (blk p2) [.val y26] 228, .row y26 (List.map e_wFr t25) 3 234], 62⟩) (fun _ h => h) ?_ ?_
 · rcases ite_some ht25 with ⟨c27, ht25⟩ | ⟨c27, ht25⟩
   rotate_left
   · refine T.condF rfl (beq_eq_false_iff_ne.2 c27) ?_
     refine T.skip ?_
     obtain rfl := osi ht25
     exact ⟨_, Gst.only [0, 2, 5, 6] rfl, y8, rfl⟩
   refine T.condT rfl (beq_iff_eq.2 c27) ?_
   refine T.region ?_
   obtain ⟨x28, hx28, ht25⟩ := bS ht25
   refine TL.op (OpR.call [7, 8] fn150 (walk_stack_row_Row_forth_c hx28) rfl rfl rfl (fun _ => rfl)) rfl (fun w29 => ?_)
   refine TL.nil ?_
   obtain rfl := osi ht25
   exact ⟨_, Gst.only [0, 2, 5, 6] rfl, (vn w29 0), rfl⟩
 rintro _ ⟨y26, rfl⟩
 show T X _ _ _
 refine aS ?_
 obtain ⟨x30, hx30, q13⟩ := bS q13
 refine TL.op1 (OpR.call [7, 8] fn149 (walk_stack_row_Row_top_c hx30) rfl rfl rfl (fun _ => rfl)) rfl ?_
 refine aA rfl rfl ?_
 refine aN rfl ?_
 refine T.seq ?_
 refine T.seq ?_
 obtain ⟨x31, hx31, q13⟩ := bS q13
 obtain ⟨q32, hq32, q13⟩ := bS q13
 rcases q32 with _ | z33
 · dsimp only at q13
   exact (by cases q13)
 dsimp only at q13
 obtain ⟨x35, hx35, q13⟩ := bS q13
 rw [o_tNd_eq hx35] at hq32
 obtain ⟨x37, hx37, q13⟩ := bS q13
 obtain ⟨x38, hx38, q13⟩ := bS q13
 rcases x38 with x38 | x38
 · dsimp only at q13
   refine T.drawQ drawsX [.fn (.yield b0) [] [], dN s9.1, .val (.pointer (some ⟨blk y26, x30.toNat * 3, none⟩)), .val (.pointer (some ⟨blk y26, x30.toNat * 3, none⟩)), .val (.pointer (some ⟨blk y26, x30.toNat * 3, none⟩)), .nod [.sl 1 (List.map eNP x35.fKids), .sl 3 (List.map e_row_Row x35.fItems), dN x35.fN], .nod [.sl 1 (List.map eNP x35.fKids), .sl 3 (List.map e_row_Row x35.fItems), dN x35.fN], .nod [.sl 3 (List.map e_row_Row x35.fItems), dN x35.fN], .sl 3 (List.map e_row_Row x35.fItems), .val (.pointer (some ⟨blk y26, x30.toNat * 3, none⟩)), .val (.pointer (some ⟨blk y26, x30.toNat * 3, none⟩)), .val (.pointer (some ⟨blk y26, x30.toNat * 3 + 2, none⟩)), dN x31.fNext, .nod [.sl 5 (List.map e_cell_Cell x37.fCells), dN x37.fEnd, dT x37.fHidden], .agg [.sl 5 (List.map e_cell_Cell x37.fCells), dN x37.fEnd, dT x37.fHidden], dT true, dT false] [0, 2, 5, 6, 8, 54] (by decide +kernel) rfl ?_ rfl ?_
   rotate_left
   · show T X _ _ _
     refine T.condF rfl rfl ?_
     refine aK rfl ?_
     refine T.region ?_
     iterate 3 refine aA rfl rfl ?_
     refine TL.op1 (OpR.rowLoadM (j := x30) e_wFr 8 hx31 rfl rfl rfl rfl) rfl ?_
     iterate 3 refine aA rfl rfl ?_
     refine TL.op0 (OpR.rowStoreM (j := x30) e_wFr (⟨x31.fN, x31.fFirst, w64 (x31.fNext + 1)⟩ : wFr) 8 hx31 rfl rfl rfl rfl rfl rfl rfl rfl rfl) ?_
     refine aN rfl ?_
     refine T.region ?_
     iterate 3 refine aA rfl rfl ?_
     refine TL.nil ?_
     obtain rfl := osi q13
     exact ⟨m11, Nat.lt_succ_self _, _, Gst.only [0, 2, 5, 6] rfl, y26, (w64 (s9.1 + 1), (t25.set x30.toNat (⟨x31.fN, x31.fFirst, w64 (x31.fNext + 1)⟩ : wFr))), rfl, i14⟩
   iterate 5 refine aB rfl rfl rfl ?_
   refine OpsQ.yes (Want.plain rfl) rfl (OpR.cast (OpR.rowLoad0M (j := x30) e_wFr 8 hx31 rfl rfl rfl rfl) (congrArg eOP (osi hq32))) ?_
   iterate 6 refine aB rfl rfl rfl ?_
   refine OpsQ.yes (Want.plain rfl) rfl (OpR.rowLoadM (j := x30) e_wFr 8 hx31 rfl rfl rfl rfl) ?_
   refine OpsQ.yes (Want.plain rfl) rfl (OpR.indexM e_row_Row hx37 rfl rfl rfl rfl rfl) ?_
   refine aB rfl rfl rfl ?_
   refine OpsQ.yes (Want.plain rfl) rfl (OpR.callY [0, 4, 5, 6] rfl (grid_Same_r0_cx1 hx38) rfl rfl rfl (fun _ => rfl)) ?_
   refine aB rfl rfl rfl ?_
   exact OpsQ.nil
 dsimp only at q13
 refine T.drawS drawsX (fun env36 => [.fn (.yield b0) [] [], dN s9.1, .val (.pointer (some ⟨blk y26, x30.toNat * 3, none⟩)), .val (.pointer (some ⟨blk y26, x30.toNat * 3, none⟩)), .val (.pointer (some ⟨blk y26, x30.toNat * 3, none⟩)), .nod [.sl 1 (List.map eNP x35.fKids), .sl 3 (List.map e_row_Row x35.fItems), dN x35.fN], .nod [.sl 1 (List.map eNP x35.fKids), .sl 3 (List.map e_row_Row x35.fItems), dN x35.fN], .nod [.sl 3 (List.map e_row_Row x35.fItems), dN x35.fN], .sl 3 (List.map e_row_Row x35.fItems), .val (.pointer (some ⟨blk y26, x30.toNat * 3, none⟩)), .val (.pointer (some ⟨blk y26, x30.toNat * 3, none⟩)), .val (.pointer (some ⟨blk y26, x30.toNat * 3 + 2, none⟩)), dN x31.fNext, .nod [.sl 5 (List.map e_cell_Cell x37.fCells), dN x37.fEnd, dT x37.fHidden], .agg [.sl 5 (List.map e_cell_Cell x37.fCells), dN x37.fEnd, dT x37.fHidden], dT false, dT true]) (fun D env36 => [(bif D 15 then .lp b0 .done (some (.ret)) [35, 36] rfA28_0 rfB28_0 [(6, (dP b5)), (5, .nod [(eOP a0), dT a1, dN a2]), (3, .nod [dP b4])] 48 else .lp b0 .ready none [35, 36] rfA28_0 rfB28_0 [(6, (dP b5)), (5, .nod [(eOP a0), dT a1, dN a2]), (3, .nod [dP b4])] 48), .var b1 [dN a3] 3, .var b2 [dN a4] 3, .var b3 [(eOP a5)] 25, .var b4 [.val v6] 264, (bif D 15 then .var b5 [dT x38] 4 else .var b5 [dT a6] 4), .row v6 (lB a7) 1 5, .var (blk p2) [.val y26] 228, .row y26 (List.map e_wFr t25) 3 234]) [0, 0, 0, 4, 12, 28, 60, 124, 252, 0, 512, 1536, 3584, 8188, 16380, 32767, 65535] [0, 2, 5, 6, 8, 54] _ (by decide +kernel) (by decide +kernel) (fun _ => rfl) (fun _ => rfl) ?_ (fun _ => rfl) (fun _ => rfl) ?_
 rotate_left
 · intro env36
   show T X _ _ _
   refine T.condT rfl rfl ?_
   refine T.ret ?_
   obtain rfl := osi q13
   obtain rfl : _ = _ := i14
   obtain rfl := osi h0
   exact rP [0, 1, 2, 3, 4, 5, 6] [] [0, 1, 2, 3, 4, 5, 6] rfl rfl rfl undef ResL.nil rfl rfl rfl rfl
 iterate 5 refine aC ?_
 refine oT (.nod [.sl 1 (List.map eNP x35.fKids), .sl 3 (List.map e_row_Row x35.fItems), dN x35.fN]) (fun _ _ => OpR.cast (OpR.rowLoad0M (j := x30) e_wFr 8 hx31 rfl rfl rfl rfl) (congrArg eOP (osi hq32))) ?_
 iterate 6 refine aC ?_
 refine oT ((dN x31.fNext)) (fun _ _ => OpR.rowLoadM (j := x30) e_wFr 8 hx31 rfl rfl rfl rfl) ?_
 refine oT (.nod [.sl 5 (List.map e_cell_Cell x37.fCells), dN x37.fEnd, dT x37.fHidden]) (fun _ _ => OpR.indexM e_row_Row hx37 rfl rfl rfl rfl rfl) ?_
 refine aC ?_
 refine OpsS.cons' true ?_ (fun _ _ _ _ _ _ _ => rfl) ?_
 · intro D env36 hA
   exact OpS.yp [(15, false)] ⟨hA.me, trivial⟩ (Want.plain rfl) (OpR.callY [0, 4, 5, 6] rfl (grid_Same_r0_cx2 hx38) rfl rfl rfl (fun _ => rfl)) (fun x => rfl) (fun x => rfl)
 refine aC ?_
 exact trivial
theorem walk_Range_row_Row_1_5_cx1 {a0 : Option NP} {a1 : Bool} {a2 : Int} {a3 : Int} {a4 : Int} {a5 : Option NP} {a6 : Bool} {a7 : List UInt8} {b0 : Nat} {b1 : Nat} {b2 : Nat} {b3 : Nat} {b4 : Nat} {b5 : Nat} {v6 : Value} {res : Unit} (h0 : walk_Range_row_Row_1_5 a0 a1 a2 a3 a4 a5 a6 a7 = some (Sum.inl res)) : CallF X 146 [.fn (.yield b0) [] [], dP b1, dP b2, dP b3] [.lp b0 .ready none [35, 36] rfA28_0 rfB28_0 [(6, (dP b5)), (5, .nod [(eOP a0), dT a1, dN a2]), (3, .nod [dP b4])] 48, .var b1 [dN a3] 3, .var b2 [dN a4] 3, .var b3 [(eOP a5)] 25, .var b4 [.val v6] 264, .var b5 [dT a6] 4, .row v6 (lB a7) 1 5] (fun x => .tup []) (fun x => [.lp b0 .ready none [35, 36] rfA28_0 rfB28_0 [(6, (dP b5)), (5, .nod [(eOP a0), dT a1, dN a2]), (3, .nod [dP b4])] 48, .var b1 [dN a3] 3, .var b2 [dN a4] 3, .var b3 [(eOP a5)] 25, .var b4 [.val v6] 264, .var b5 [dT a6] 4, .row v6 (lB a7) 1 5]) := walk_Range_row_Row_1_5_c h0
theorem walk_Range_row_Row_1_5_cx2 {a0 : Option NP} {a1 : Bool} {a2 : Int} {a3 : Int} {a4 : Int} {a5 : Option NP} {a6 : Bool} {a7 : List UInt8} {b0 : Nat} {b1 : Nat} {b2 : Nat} {b3 : Nat} {b4 : Nat} {b5 : Nat} {v6 : Value} {res : Bool} (h0 : walk_Range_row_Row_1_5 a0 a1 a2 a3 a4 a5 a6 a7 = some (Sum.inr res)) : CallF X 146 [.fn (.yield b0) [] [], dP b1, dP b2, dP b3] [.lp b0 .ready none [35, 36] rfA28_0 rfB28_0 [(6, (dP b5)), (5, .nod [(eOP a0), dT a1, dN a2]), (3, .nod [dP b4])] 48, .var b1 [dN a3] 3, .var b2 [dN a4] 3, .var b3 [(eOP a5)] 25, .var b4 [.val v6] 264, .var b5 [dT a6] 4, .row v6 (lB a7) 1 5] (fun x => .tup []) (fun x => [.lp b0 .done (some (.ret)) [35, 36] rfA28_0 rfB28_0 [(6, (dP b5)), (5, .nod [(eOP a0), dT a1, dN a2]), (3, .nod [dP b4])] 48, .var b1 [dN a3] 3, .var b2 [dN a4] 3, .var b3 [(eOP a5)] 25, .var b4 [.val v6] 264, .var b5 [dT res] 4, .row v6 (lB a7) 1 5]) := walk_Range_row_Row_1_5_c h0
noncomputable def grid_Same (a0 : grid_Grid) (a1 : grid_Grid) (a2 : List UInt8) : Option Bool :=
  bnd (bnd (grid_Grid_Len a0) fun x4 =>
  bnd (grid_Grid_Len a1) fun x5 =>
  if x4 = x5 then
    if (a0.fTail == a1.fTail) = true then
      some (!(a0.fEnd == a1.fEnd))
    else
      some true
  else
    some true : Option Bool) fun t2 =>
  if t2 = true then
    some false
  else
    bnd (grid_Grid_Len a0) fun x10 =>
    bnd (walk_Range_row_Row a0.fRows 0 x10) fun x11 =>
    bnd (walk_Range_row_Row_1_5 a1.fRows.fRoot a1.fTail a1.fEnd x11.1 x11.2.1 x11.2.2 false a2) fun x13 =>
    match x13 with
    | .inl x13 =>
        some true
    | .inr x13 =>
        some x13
theorem grid_Same_c {a0 : grid_Grid} {a1 : grid_Grid} {a2 : List UInt8} {b0 : Nat} {v1 : Value} {res : Bool} (h0 : grid_Same a0 a1 a2 = some res) : CallF X 28 [dP b0, .agg [(eOP a0.fRows.fRoot), dT a0.fTail, dN a0.fEnd], .agg [(eOP a1.fRows.fRoot), dT a1.fTail, dN a1.fEnd]] [.var b0 [.val v1] 264, .row v1 (lB a2) 1 5] (fun x => (dT res)) (fun x => [.var b0 [.val v1] 264, .row v1 (lB a2) 1 5]) := by
 unfold grid_Same at h0
 refine CallF.mkG (X := X) rfl Tryz.func28 rfl rfl Tryz.ntmps28 rfl rfl ?_
 refine aS ?_
 refine TL.op1 (OpR.boxImm rfl rfl) rfl ?_
 refine TL.op1 (OpR.boxImm rfl rfl) rfl ?_
 refine TL.op1 (OpR.boxImm rfl rfl) rfl ?_
 refine TL.op (OpR.alloc rfl rfl (fun _ => rfl)) rfl (fun p1 => ?_)
 refine aN rfl ?_
 refine T.seq ?_
 refine T.seq ?_
 obtain ⟨t2, ht2, h0⟩ := bS h0
 refine T.cutC (fun S' => S' = ⟨[(29, (dT t2)), (6, (dP (blk p1))), (5, .nod [(eOP a1.fRows.fRoot), dT a1.fTail, dN a1.fEnd]), (4, .nod [(eOP a0.fRows.fRoot), dT a0.fTail, dN a0.fEnd]), (3, .nod [dP b0])], [.var b0 [.val v1] 264, .row v1 (lB a2) 1 5, .var (blk p1) [dT false] 4], 48⟩) (fun _ h => h) ?_ ?_
 rotate_left
 · rintro _ rfl
   show T X _ _ _
   rcases ite_some h0 with ⟨c8, h0⟩ | ⟨c8, h0⟩
   · refine T.condT rfl (c8) ?_
     refine aS ?_
     refine TL.op0 (OpR.store 2 rfl rfl rfl rfl rfl rfl rfl rfl) ?_
     refine aN rfl ?_
     refine T.ret ?_
     obtain rfl := osi h0
     exact rO [0, 1] [6] rfl undef (cV 2 rfl rfl rfl rfl ResL.nil) rfl rfl rfl rfl
   refine T.condF rfl (eq_false_of_ne_true c8) ?_
   refine aK rfl ?_
   refine T.seq ?_
   refine T.seq ?_
   obtain ⟨x10, hx10, h0⟩ := bS h0
   obtain ⟨x11, hx11, h0⟩ := bS h0
   refine T.drawS drawsX (fun env9 => [.nod [(eOP a0.fRows.fRoot), dT a0.fTail, dN a0.fEnd], .agg [(eOP a0.fRows.fRoot)], .agg [(eOP a0.fRows.fRoot), dT a0.fTail, dN a0.fEnd], dN x10, .fn (.func 146) [] [dP (blk (vn (env9 4) 0)), dP (blk (vn (env9 4) 1)), dP (blk (vn (env9 4) 2))]]) (fun D env9 => [.var b0 [.val v1] 264, .row v1 (lB a2) 1 5, .var (blk p1) [dT false] 4] ++ (bif D 4 then [.var (blk (vn (env9 4) 0)) [dN x11.1] 3] else []) ++ (bif D 4 then [.var (blk (vn (env9 4) 1)) [dN x11.2.1] 3] else []) ++ (bif D 4 then [.var (blk (vn (env9 4) 2)) [(eOP x11.2.2)] 25] else [])) [0, 1, 0, 4, 15] [3, 5, 6, 34] _ (by decide +kernel) (by decide +kernel) (fun _ => rfl) (fun _ => rfl) ?_ (fun _ => rfl) (fun _ => rfl) ?_
   rotate_left
   · intro env9
     show T X _ _ _
     refine T.block ?_
     obtain ⟨x13, hx13, h0⟩ := bS h0
     rcases x13 with x13 | x13
     rotate_left
     · dsimp only at h0
       refine T.rangeJ (A := rfA28_0) (B := rfB28_0) (.ret) [3, 5, 6] [3, 4, 5, 0, 2, 1] (.inl rfl) rfl rfl rfl rfl rfl fn146 rfl rfl (fun l12 => (walk_Range_row_Row_1_5_cx2 hx13)) (fun _ => rfl) (fun w15 => ?_)
       refine T.ret ?_
       obtain rfl := osi h0
       exact rP [0, 1] [6] [0, 1, 2] rfl rfl rfl undef (cV 2 rfl rfl rfl rfl ResL.nil) rfl rfl rfl rfl
     dsimp only at h0
     refine T.rangeN (A := rfA28_0) (B := rfB28_0) [3, 5, 6] [3, 4, 5, 0, 2, 1] (.inl rfl) rfl rfl rfl rfl rfl fn146 rfl rfl (fun l12 => (walk_Range_row_Row_1_5_cx1 hx13)) (fun _ => rfl) (fun w14 => ?_)
     show T X _ _ _
     refine aS ?_
     refine TL.op0 (OpR.store 2 rfl rfl rfl rfl rfl rfl rfl rfl) ?_
     refine aN rfl ?_
     refine T.ret ?_
     obtain rfl := osi h0
     exact rP [0, 1] [6] [0, 1, 2] rfl rfl rfl undef (cV 2 rfl rfl rfl rfl ResL.nil) rfl rfl rfl rfl
   iterate 3 refine aC ?_
   refine oT ((dN x10)) (fun _ _ => OpR.call0 fn22 (grid_Grid_Len_c hx10) rfl) ?_
   refine OpsS.cons' true ?_ (fun D hA env9 x j hj hD => match j, hj, hD with | 0, _, _ => rfl | 1, _, _ => rfl | 2, _, _ => rfl | 3, _, _ => rfl | 4, hj, _ => absurd rfl hj | _ + 5, _, _ => rfl) ?_
   · intro D env9 hA
     exact OpS.yp [(4, false)] ⟨hA.me, trivial⟩ (Want.plain rfl) (OpR.call [] fn80 (walk_Range_row_Row_c hx11) rfl rfl rfl (fun _ => rfl)) (fun x => rfl) (fun x => rfl)
   exact trivial
 obtain ⟨x4, hx4, ht2⟩ := bS ht2
 obtain ⟨x5, hx5, ht2⟩ := bS ht2
 rcases ite_some ht2 with ⟨c6, ht2⟩ | ⟨c6, ht2⟩
 rotate_left
 · refine T.drawQ drawsX [.agg [(eOP a0.fRows.fRoot), dT a0.fTail, dN a0.fEnd], dN x4, .agg [(eOP a1.fRows.fRoot), dT a1.fTail, dN a1.fEnd], dN x5, dT (!(x4 == x5)), dT (!(x4 == x5)), .tup [], .tup [], .tup [], .tup [], .tup [], dT true, dT true, .tup [], .tup [], .tup [], .tup [], .tup [], dT true] [3, 4, 5, 6, 29] (by decide +kernel) rfl ?_ rfl ?_
   rotate_left
   · obtain rfl := osi ht2
     exact ⟨_, Gst.only [3, 4, 5, 6, 29] rfl, rfl⟩
   refine aB rfl rfl rfl ?_
   refine OpsQ.yes (Want.plain rfl) rfl (OpR.call0 fn22 (grid_Grid_Len_c hx4) rfl) ?_
   refine aB rfl rfl rfl ?_
   refine OpsQ.yes (Want.plain rfl) rfl (OpR.call0 fn22 (grid_Grid_Len_c hx5) rfl) ?_
   iterate 2 refine aB rfl rfl rfl ?_
   refine OpsQ.no (Want.bool rfl rfl rfl rfl (by rw [(not_f (beq_eq_false_iff_ne.2 c6))]; rfl)) rfl ?_
   refine OpsQ.no (Want.bool rfl rfl rfl rfl (by rw [(not_f (beq_eq_false_iff_ne.2 c6))]; rfl)) rfl ?_
   refine OpsQ.no (Want.bool rfl rfl rfl rfl (by rw [(not_f (beq_eq_false_iff_ne.2 c6))]; rfl)) rfl ?_
   refine OpsQ.no (Want.bool rfl rfl rfl rfl (by rw [(not_f (beq_eq_false_iff_ne.2 c6))]; rfl)) rfl ?_
   refine OpsQ.no (Want.bool rfl rfl rfl rfl (by rw [(not_f (beq_eq_false_iff_ne.2 c6))]; rfl)) rfl ?_
   refine OpsQ.yes (Want.plain rfl) rfl (OpR.pickT rfl (not_f (beq_eq_false_iff_ne.2 c6)) rfl) ?_
   refine aB rfl rfl rfl ?_
   refine OpsQ.no (Want.bool rfl rfl rfl rfl rfl) rfl ?_
   refine OpsQ.no (Want.bool rfl rfl rfl rfl rfl) rfl ?_
   refine OpsQ.no (Want.bool rfl rfl rfl rfl rfl) rfl ?_
   refine OpsQ.no (Want.bool rfl rfl rfl rfl rfl) rfl ?_
   refine OpsQ.no (Want.bool rfl rfl rfl rfl rfl) rfl ?_
   refine OpsQ.yes (Want.plain rfl) rfl (OpR.pickT rfl rfl rfl) ?_
   exact OpsQ.nil
 rcases ite_some ht2 with ⟨c7, ht2⟩ | ⟨c7, ht2⟩
 rotate_left
 · refine T.drawQ drawsX [.agg [(eOP a0.fRows.fRoot), dT a0.fTail, dN a0.fEnd], dN x4, .agg [(eOP a1.fRows.fRoot), dT a1.fTail, dN a1.fEnd], dN x5, dT (!(x4 == x5)), dT (!(x4 == x5)), .nod [dT a0.fTail, dN a0.fEnd], dT a0.fTail, .nod [dT a1.fTail, dN a1.fEnd], dT a1.fTail, dT (!(a0.fTail == a1.fTail)), dT (!(a0.fTail == a1.fTail)), dT (!(a0.fTail == a1.fTail)), .tup [], .tup [], .tup [], .tup [], .tup [], dT true] [3, 4, 5, 6, 29] (by decide +kernel) rfl ?_ rfl ?_
   rotate_left
   · obtain rfl := osi ht2
     exact ⟨_, Gst.only [3, 4, 5, 6, 29] rfl, rfl⟩
   refine aB rfl rfl rfl ?_
   refine OpsQ.yes (Want.plain rfl) rfl (OpR.call0 fn22 (grid_Grid_Len_c hx4) rfl) ?_
   refine aB rfl rfl rfl ?_
   refine OpsQ.yes (Want.plain rfl) rfl (OpR.call0 fn22 (grid_Grid_Len_c hx5) rfl) ?_
   iterate 2 refine aB rfl rfl rfl ?_
   refine OpsQ.yes (Want.bool rfl rfl rfl rfl (by rw [(not_t (beq_iff_eq.2 c6))]; rfl)) rfl (OpR.pure rfl) ?_
   refine OpsQ.yes (Want.bool rfl rfl rfl rfl (by rw [(not_t (beq_iff_eq.2 c6))]; rfl)) rfl (OpR.pure rfl) ?_
   refine OpsQ.yes (Want.bool rfl rfl rfl rfl (by rw [(not_t (beq_iff_eq.2 c6))]; rfl)) rfl (OpR.pure rfl) ?_
   refine OpsQ.yes (Want.bool rfl rfl rfl rfl (by rw [(not_t (beq_iff_eq.2 c6))]; rfl)) rfl (OpR.pure rfl) ?_
   refine OpsQ.yes (Want.bool rfl rfl rfl rfl (by rw [(not_t (beq_iff_eq.2 c6))]; rfl)) rfl (OpR.neBool rfl rfl rfl rfl) ?_
   refine OpsQ.yes (Want.plain rfl) rfl (OpR.pickF rfl (not_t (beq_iff_eq.2 c6)) rfl) ?_
   refine aB rfl rfl rfl ?_
   refine OpsQ.no (Want.bool rfl rfl rfl rfl (by rw [(not_f (eq_false_of_ne_true c7))]; rfl)) rfl ?_
   refine OpsQ.no (Want.bool rfl rfl rfl rfl (by rw [(not_f (eq_false_of_ne_true c7))]; rfl)) rfl ?_
   refine OpsQ.no (Want.bool rfl rfl rfl rfl (by rw [(not_f (eq_false_of_ne_true c7))]; rfl)) rfl ?_
   refine OpsQ.no (Want.bool rfl rfl rfl rfl (by rw [(not_f (eq_false_of_ne_true c7))]; rfl)) rfl ?_
   refine OpsQ.no (Want.bool rfl rfl rfl rfl (by rw [(not_f (eq_false_of_ne_true c7))]; rfl)) rfl ?_
   refine OpsQ.yes (Want.plain rfl) rfl (OpR.pickT rfl (not_f (eq_false_of_ne_true c7)) rfl) ?_
   exact OpsQ.nil
 refine T.drawQ drawsX [.agg [(eOP a0.fRows.fRoot), dT a0.fTail, dN a0.fEnd], dN x4, .agg [(eOP a1.fRows.fRoot), dT a1.fTail, dN a1.fEnd], dN x5, dT (!(x4 == x5)), dT (!(x4 == x5)), .nod [dT a0.fTail, dN a0.fEnd], dT a0.fTail, .nod [dT a1.fTail, dN a1.fEnd], dT a1.fTail, dT (!(a0.fTail == a1.fTail)), dT (!(a0.fTail == a1.fTail)), dT (!(a0.fTail == a1.fTail)), .nod [dN a0.fEnd], dN a0.fEnd, .nod [dN a1.fEnd], dN a1.fEnd, dT (!(a0.fEnd == a1.fEnd)), dT (!(a0.fEnd == a1.fEnd))] [3, 4, 5, 6, 29] (by decide +kernel) rfl ?_ rfl ?_
 rotate_left
 · obtain rfl := osi ht2
   exact ⟨_, Gst.only [3, 4, 5, 6, 29] rfl, rfl⟩
 refine aB rfl rfl rfl ?_
 refine OpsQ.yes (Want.plain rfl) rfl (OpR.call0 fn22 (grid_Grid_Len_c hx4) rfl) ?_
 refine aB rfl rfl rfl ?_
 refine OpsQ.yes (Want.plain rfl) rfl (OpR.call0 fn22 (grid_Grid_Len_c hx5) rfl) ?_
 iterate 2 refine aB rfl rfl rfl ?_
 refine OpsQ.yes (Want.bool rfl rfl rfl rfl (by rw [(not_t (beq_iff_eq.2 c6))]; rfl)) rfl (OpR.pure rfl) ?_
 refine OpsQ.yes (Want.bool rfl rfl rfl rfl (by rw [(not_t (beq_iff_eq.2 c6))]; rfl)) rfl (OpR.pure rfl) ?_
 refine OpsQ.yes (Want.bool rfl rfl rfl rfl (by rw [(not_t (beq_iff_eq.2 c6))]; rfl)) rfl (OpR.pure rfl) ?_
 refine OpsQ.yes (Want.bool rfl rfl rfl rfl (by rw [(not_t (beq_iff_eq.2 c6))]; rfl)) rfl (OpR.pure rfl) ?_
 refine OpsQ.yes (Want.bool rfl rfl rfl rfl (by rw [(not_t (beq_iff_eq.2 c6))]; rfl)) rfl (OpR.neBool rfl rfl rfl rfl) ?_
 refine OpsQ.yes (Want.plain rfl) rfl (OpR.pickF rfl (not_t (beq_iff_eq.2 c6)) rfl) ?_
 refine aB rfl rfl rfl ?_
 refine OpsQ.yes (Want.bool rfl rfl rfl rfl (by rw [(not_t (c7))]; rfl)) rfl (OpR.pure rfl) ?_
 refine OpsQ.yes (Want.bool rfl rfl rfl rfl (by rw [(not_t (c7))]; rfl)) rfl (OpR.pure rfl) ?_
 refine OpsQ.yes (Want.bool rfl rfl rfl rfl (by rw [(not_t (c7))]; rfl)) rfl (OpR.pure rfl) ?_
 refine OpsQ.yes (Want.bool rfl rfl rfl rfl (by rw [(not_t (c7))]; rfl)) rfl (OpR.pure rfl) ?_
 refine OpsQ.yes (Want.bool rfl rfl rfl rfl (by rw [(not_t (c7))]; rfl)) rfl (OpR.pure rfl) ?_
 refine OpsQ.yes (Want.plain rfl) rfl (OpR.pickF rfl (not_t (c7)) rfl) ?_
 exact OpsQ.nil
noncomputable def row_Row_Pad.l1 (a1 : Int) (s7 : (List cell_Cell)) : Option (Lp (List cell_Cell) (List cell_Cell)) :=
  if (s7.length : Int) < (if 40 < a1 then 40 else a1) then
    bnd (app 56 s7 [(⟨(⟨[], 0⟩ : piece_Text), (⟨0, 0⟩ : arena_Span), false⟩ : cell_Cell)]) fun x16 =>
    some (Lp.next x16)
  else
    some (Lp.done s7)
noncomputable def row_Row_Pad (a0 : row_Row) (a1 : Int) : Option row_Row :=
  bnd (slices_Clone_cell_Cell_cell_Cell a0.fCells) fun x2 =>
  bnd (loop (row_Row_Pad.l1 a1) x2 : Option (List cell_Cell)) fun t4 =>
  bnd (row_Row_with a0 t4) fun x18 =>
  some (⟨t4, x18.1, x18.2⟩ : row_Row)
theorem row_Row_Pad_c {a0 : row_Row} {a1 : Int} {res : row_Row} (h0 : row_Row_Pad a0 a1 = some res) : CallF X 90 [.agg [.sl 5 (List.map e_cell_Cell a0.fCells), dN a0.fEnd, dT a0.fHidden], dN a1] [] (fun x => .agg [.sl 5 (List.map e_cell_Cell res.fCells), dN res.fEnd, dT res.fHidden]) (fun x => []) := by
 unfold row_Row_Pad at h0
 refine CallF.mkG (X := X) rfl Tryz.func90 rfl rfl Tryz.ntmps90 rfl rfl ?_
 refine aS ?_
 refine TL.op1 (OpR.boxImm rfl rfl) rfl ?_
 refine TL.op (OpR.alloc rfl rfl (fun _ => rfl)) rfl (fun p1 => ?_)
 refine aN rfl ?_
 refine aS ?_
 iterate 3 refine aA rfl rfl ?_
 refine aN rfl ?_
 refine aS ?_
 iterate 2 refine aA rfl rfl ?_
 obtain ⟨x2, hx2, h0⟩ := bS h0
 refine TL.op (OpR.call [] fn163 (slices_Clone_cell_Cell_cell_Cell_c hx2) rfl rfl rfl (fun _ => rfl)) rfl (fun w3 => ?_)
 refine aA rfl rfl ?_
 refine aN rfl ?_
 refine T.seq ?_
 obtain ⟨t4, ht4, h0⟩ := bS h0
 refine T.cutC (fun S' => ∃ y5 : Value, S' = ⟨[(5, .val y5), (4, (dP (blk p1))), (2, .nod [.sl 5 (List.map e_cell_Cell a0.fCells), dN a0.fEnd, dT a0.fHidden])], [.var (blk p1) [.val (.slice none 0 0), dN 0, dT false] 49, .row y5 (List.map e_cell_Cell t4) 5 144], 22⟩) (fun _ h => h) ?_ ?_
 rotate_left
 · rintro _ ⟨y5, rfl⟩
   show T X _ _ _
   refine aS ?_
   iterate 2 refine aA rfl rfl ?_
   obtain ⟨x18, hx18, h0⟩ := bS h0
   refine TL.op1 (OpR.call [1] fn155 (row_Row_with_c hx18) rfl rfl rfl (fun _ => rfl)) rfl ?_
   refine TL.op0 (OpR.store 0 rfl rfl rfl rfl rfl rfl rfl rfl) ?_
   refine aN rfl ?_
   refine T.ret ?_
   obtain rfl := osi h0
   exact PostG.retP (ks := []) (Gst.trans (Gst.only [4] rfl) (Gst.trans (Gst.freezeRow 1 rfl rfl (ReS.cons Re.refl ReS.nil) (ReO.var (ReL.cons (Re.base .all) (ReL.cons Re.refl (ReL.cons Re.refl ReL.nil))) (ReO.same ReO.nil))) (Gst.pick [0] rfl rfl))) undef (cV 0 rfl rfl rfl rfl ResL.nil) rfl rfl rfl rfl
 refine T.block ?_
 obtain ⟨n8, n13⟩ := loop_some ht4
 refine T.loop (fun n S' => ∃ S'', Gst S' S'' ∧ ∃ y6 : Value, ∃ s7 : (List cell_Cell), S'' = ⟨[(5, .val y6), (4, (dP (blk p1))), (2, .nod [.sl 5 (List.map e_cell_Cell a0.fCells), dN a0.fEnd, dT a0.fHidden]), (1, (dN (if 40 < a1 then 40 else a1)))], [.var (blk p1) [.val (.slice none 0 0), dN 0, dT false] 49, .row y6 (List.map e_cell_Cell s7) 5 144], 22⟩ ∧ iter (row_Row_Pad.l1 a1) n s7 = some t4) n8 ?_ ?_
 · exact ⟨_, Gst.only [1, 2, 4, 5] rfl, (vn w3 0), x2, rfl, n13⟩
 rintro n8 _ ⟨_, g, y6, s7, rfl, i12⟩
 refine T.ghost g ?_
 obtain ⟨m9, q10, rfl, q11, i12⟩ := iter_succ i12
 unfold row_Row_Pad.l1 at q11
 refine T.seq ?_
 refine aS ?_
 refine aA rfl rfl ?_
 refine TL.op1 (OpR.rowLenM e_cell_Cell 1 rfl rfl rfl rfl) rfl ?_
 iterate 2 refine aA rfl rfl ?_
 refine aN rfl ?_
 rcases ite_some q11 with ⟨c15, q11⟩ | ⟨c15, q11⟩
 rotate_left
 · refine T.condF rfl (eF c15) ?_
   refine T.exit ?_
   obtain rfl := osi q11
   obtain rfl : _ = _ := i12
   exact ⟨_, Gst.only [2, 4, 5] rfl, y6, rfl⟩
 refine T.condT rfl (eT c15) ?_
 refine aK rfl ?_
 refine T.block ?_
 refine T.region ?_
 refine aA rfl rfl ?_
 refine TL.op1 (OpR.wk (d' := fun _ => .agg [.sl 2 (List.map e_arena_Span []), dN 0, dN 0, dN 0, dT false]) (OpR.build rfl rfl rfl rfl rfl) (fun _ => Re.agg (ReL.cons (Re.base .nil) (ReL.cons Re.refl (ReL.cons Re.refl (ReL.cons Re.refl (ReL.cons Re.refl ReL.nil))))) (fun _ _ h => by cases h; exact ⟨_, rfl⟩))) rfl ?_
 refine TL.op1 (OpR.lit rfl rfl rfl rfl rfl rfl rfl) rfl ?_
 obtain ⟨x16, hx16, q11⟩ := bS q11
 refine TL.op (OpR.appendM (m := [(⟨(⟨[], 0⟩ : piece_Text), (⟨0, 0⟩ : arena_Span), false⟩ : cell_Cell)]) e_cell_Cell 1 hx16 rfl rfl rfl rfl rfl rfl rfl rfl rfl (fun _ => rfl)) rfl (fun v17 => ?_)
 refine aA rfl rfl ?_
 refine TL.nil ?_
 obtain rfl := osi q11
 exact ⟨m9, Nat.lt_succ_self _, _, Gst.only [1, 2, 4, 5] rfl, v17, x16, rfl, i12⟩
noncomputable def row_Row_Move.l1 (a2 : Int) (t9 : Int) (s12 : Int × (List cell_Cell)) : Option (Lp (Int × (List cell_Cell)) (List cell_Cell)) :=
  if s12.1 = a2 then
    some (Lp.done s12.2)
  else
    bnd (idx s12.2 (w64 (s12.1 + t9))) fun x22 =>
    bnd (idx s12.2 s12.1) fun x23 =>
    bnd (idx (s12.2.set s12.1.toNat x22) (w64 (s12.1 + t9))) fun x24 =>
    some (Lp.next (w64 (s12.1 + t9), ((s12.2.set s12.1.toNat x22).set (w64 (s12.1 + t9)).toNat x23)))
noncomputable def row_Row_Move (a0 : row_Row) (a1 : Int) (a2 : Int) : Option (row_Row × Int) :=
  bnd (bnd (row_Row_has a0 a1) fun x3 =>
  if x3 = true then
    bnd (row_Row_has a0 a2) fun x5 =>
    some (!x5)
  else
    some true : Option Bool) fun t2 =>
  if t2 = true then
    some ((⟨[], 0, false⟩ : row_Row), 5)
  else
    bnd (slices_Clone_cell_Cell_cell_Cell a0.fCells) fun x7 =>
    bnd (if a2 < a1 then
      some (-1)
    else
      some 1 : Option Int) fun t9 =>
    bnd (loop (row_Row_Move.l1 a2 t9) (a1, x7) : Option (List cell_Cell)) fun t11 =>
    bnd (row_Row_with a0 t11) fun x25 =>
    some ((⟨t11, x25.1, x25.2⟩ : row_Row), 0)
theorem row_Row_Move_c {a0 : row_Row} {a1 : Int} {a2 : Int} {res : row_Row × Int} (h0 : row_Row_Move a0 a1 a2 = some res) : CallF X 91 [.agg [.sl 5 (List.map e_cell_Cell a0.fCells), dN a0.fEnd, dT a0.fHidden], dN a1, dN a2] [] (fun x => .tup [.agg [.sl 5 (List.map e_cell_Cell res.1.fCells), dN res.1.fEnd, dT res.1.fHidden], dN res.2]) (fun x => []) := by
 unfold row_Row_Move at h0
 refine CallF.mkG (X := X) rfl Tryz.func91 rfl rfl Tryz.ntmps91 rfl rfl ?_
 refine aS ?_
 refine TL.op1 (OpR.boxImm rfl rfl) rfl ?_
 refine TL.op (OpR.alloc rfl rfl (fun _ => rfl)) rfl (fun p1 => ?_)
 refine aA rfl rfl ?_
 refine aN rfl ?_
 refine T.seq ?_
 refine T.seq ?_
 obtain ⟨t2, ht2, h0⟩ := bS h0
 refine T.cutC (fun S' => S' = ⟨[(19, (dT t2)), (7, (dN 0)), (6, (dP (blk p1))), (3, .nod [.sl 5 (List.map e_cell_Cell a0.fCells), dN a0.fEnd, dT a0.fHidden]), (2, (dN a2)), (1, (dN a1))], [.var (blk p1) [.val (.slice none 0 0), dN 0, dT false] 49], 54⟩) (fun _ h => h) ?_ ?_
 · refine T.region ?_
   iterate 2 refine aA rfl rfl ?_
   obtain ⟨x3, hx3, ht2⟩ := bS ht2
   refine TL.op1 (OpR.call0 fn158 (row_Row_has_c hx3) rfl) rfl ?_
   iterate 2 refine aA rfl rfl ?_
   rcases ite_some ht2 with ⟨c4, ht2⟩ | ⟨c4, ht2⟩
   rotate_left
   · refine TL.off rfl rfl rfl rfl (not_f (eq_false_of_ne_true c4)) rfl rfl ?_
     refine TL.off rfl rfl rfl rfl (not_f (eq_false_of_ne_true c4)) rfl rfl ?_
     refine TL.off rfl rfl rfl rfl (not_f (eq_false_of_ne_true c4)) rfl rfl ?_
     refine TL.off rfl rfl rfl rfl (not_f (eq_false_of_ne_true c4)) rfl rfl ?_
     refine TL.op1 (OpR.pickT rfl (not_f (eq_false_of_ne_true c4)) rfl) rfl ?_
     refine TL.nil ?_
     obtain rfl := osi ht2
     exact ⟨_, Gst.only [1, 2, 3, 6, 7, 19] rfl, rfl⟩
   refine TL.on rfl rfl rfl rfl (not_t (c4)) ?_
   refine aA rfl rfl ?_
   refine TL.on rfl rfl rfl rfl (not_t (c4)) ?_
   refine aA rfl rfl ?_
   refine TL.on rfl rfl rfl rfl (not_t (c4)) ?_
   obtain ⟨x5, hx5, ht2⟩ := bS ht2
   refine TL.op1 (OpR.call0 fn158 (row_Row_has_c hx5) rfl) rfl ?_
   refine TL.on rfl rfl rfl rfl (not_t (c4)) ?_
   refine aA rfl rfl ?_
   refine TL.op1 (OpR.pickF rfl (not_t (c4)) rfl) rfl ?_
   refine TL.nil ?_
   obtain rfl := osi ht2
   exact ⟨_, Gst.only [1, 2, 3, 6, 7, 19] rfl, rfl⟩
 rintro _ rfl
 show T X _ _ _
 rcases ite_some h0 with ⟨c6, h0⟩ | ⟨c6, h0⟩
 · refine T.condT rfl (c6) ?_
   refine aS ?_
   refine TL.op1 (OpR.build rfl rfl rfl rfl rfl) rfl ?_
   refine TL.op0 (OpR.store 0 rfl rfl rfl rfl rfl rfl rfl rfl) ?_
   refine aA rfl rfl ?_
   refine aN rfl ?_
   refine T.ret ?_
   obtain rfl := osi h0
   exact PostG.retP (ks := []) (Gst.trans (Gst.only [6, 7] rfl) (Gst.denil (ReS.cons Re.refl (ReS.cons Re.refl ReS.nil)) (ReO.var (ReL.cons (Re.base .nil) (ReL.cons Re.refl (ReL.cons Re.refl ReL.nil))) ReO.nil))) undef (cV 0 rfl rfl rfl rfl (cT rfl ResL.nil)) rfl rfl rfl rfl
 refine T.condF rfl (eq_false_of_ne_true c6) ?_
 refine aK rfl ?_
 refine aS ?_
 iterate 2 refine aA rfl rfl ?_
 obtain ⟨x7, hx7, h0⟩ := bS h0
 refine TL.op (OpR.call [] fn163 (slices_Clone_cell_Cell_cell_Cell_c hx7) rfl rfl rfl (fun _ => rfl)) rfl (fun w8 => ?_)
 refine aA rfl rfl ?_
 refine aN rfl ?_
 refine aS ?_
 refine aA rfl rfl ?_
 refine aN rfl ?_
 refine T.seq ?_
 refine aS ?_
 iterate 3 refine aA rfl rfl ?_
 refine aN rfl ?_
 obtain ⟨t9, ht9, h0⟩ := bS h0
 refine T.cutC (fun S' => S' = ⟨[(9, (dN t9)), (8, .val (vn w8 0)), (7, (dN 0)), (6, (dP (blk p1))), (3, .nod [.sl 5 (List.map e_cell_Cell a0.fCells), dN a0.fEnd, dT a0.fHidden]), (2, (dN a2)), (1, (dN a1))], [.var (blk p1) [.val (.slice none 0 0), dN 0, dT false] 49, .row (vn w8 0) (List.map e_cell_Cell x7) 5 144], 54⟩) (fun _ h => h) ?_ ?_
 · rcases ite_some ht9 with ⟨c10, ht9⟩ | ⟨c10, ht9⟩
   rotate_left
   · refine T.condF rfl (eF c10) ?_
     refine T.skip ?_
     obtain rfl := osi ht9
     exact ⟨_, Gst.only [1, 2, 3, 6, 7, 8, 9] rfl, rfl⟩
   refine T.condT rfl (eT c10) ?_
   refine T.region ?_
   refine aA rfl rfl ?_
   refine TL.nil ?_
   obtain rfl := osi ht9
   exact ⟨_, Gst.only [1, 2, 3, 6, 7, 8, 9] rfl, rfl⟩
 rintro _ rfl
 show T X _ _ _
 refine T.seq ?_
 obtain ⟨t11, ht11, h0⟩ := bS h0
 refine T.cutC (fun S' => S' = ⟨[(8, .val (vn w8 0)), (7, (dN 0)), (6, (dP (blk p1))), (3, .nod [.sl 5 (List.map e_cell_Cell a0.fCells), dN a0.fEnd, dT a0.fHidden])], [.var (blk p1) [.val (.slice none 0 0), dN 0, dT false] 49, .row (vn w8 0) (List.map e_cell_Cell t11) 5 144], 54⟩) (fun _ h => h) ?_ ?_
 rotate_left
 · rintro _ rfl
   show T X _ _ _
   refine aS ?_
   iterate 2 refine aA rfl rfl ?_
   obtain ⟨x25, hx25, h0⟩ := bS h0
   refine TL.op1 (OpR.call [1] fn155 (row_Row_with_c hx25) rfl rfl rfl (fun _ => rfl)) rfl ?_
   refine TL.op0 (OpR.store 0 rfl rfl rfl rfl rfl rfl rfl rfl) ?_
   refine aA rfl rfl ?_
   refine aN rfl ?_
   refine T.ret ?_
   obtain rfl := osi h0
   exact PostG.retP (ks := []) (Gst.trans (Gst.only [6, 7] rfl) (Gst.trans (Gst.freezeRow 1 rfl rfl (ReS.cons Re.refl (ReS.cons Re.refl ReS.nil)) (ReO.var (ReL.cons (Re.base .all) (ReL.cons Re.refl (ReL.cons Re.refl ReL.nil))) (ReO.same ReO.nil))) (Gst.pick [0] rfl rfl))) undef (cV 0 rfl rfl rfl rfl (cT rfl ResL.nil)) rfl rfl rfl rfl
 refine T.block ?_
 obtain ⟨n13, n18⟩ := loop_some ht11
 refine T.loop (fun n S' => ∃ S'', Gst S' S'' ∧ ∃ s12 : Int × (List cell_Cell), S'' = ⟨[(9, (dN t9)), (8, .val (vn w8 0)), (7, (dN 0)), (6, (dP (blk p1))), (3, .nod [.sl 5 (List.map e_cell_Cell a0.fCells), dN a0.fEnd, dT a0.fHidden]), (2, (dN a2)), (1, (dN s12.1))], [.var (blk p1) [.val (.slice none 0 0), dN 0, dT false] 49, .row (vn w8 0) (List.map e_cell_Cell s12.2) 5 144], 54⟩ ∧ iter (row_Row_Move.l1 a2 t9) n s12 = some t11) n13 ?_ ?_
 · exact ⟨_, Gst.only [1, 2, 3, 6, 7, 8, 9] rfl, (a1, x7), rfl, n18⟩
 rintro n13 _ ⟨_, g, s12, rfl, i17⟩
 refine T.ghost g ?_
 obtain ⟨m14, q15, rfl, q16, i17⟩ := iter_succ i17
 unfold row_Row_Move.l1 at q16
 refine T.seq ?_
 refine aS ?_
 iterate 3 refine aA rfl rfl ?_
 refine aN rfl ?_
 rcases ite_some q16 with ⟨c20, q16⟩ | ⟨c20, q16⟩
 · refine T.condF rfl (not_t (beq_iff_eq.2 c20)) ?_
   refine T.exit ?_
   obtain rfl := osi q16
   obtain rfl : _ = _ := i17
   exact ⟨_, Gst.only [3, 6, 7, 8] rfl, rfl⟩
 refine T.condT rfl (not_f (beq_eq_false_iff_ne.2 c20)) ?_
 refine aK rfl ?_
 refine T.seq ?_
 refine T.block ?_
 obtain ⟨x22, hx22, q16⟩ := bS q16
 obtain ⟨x23, hx23, q16⟩ := bS q16
 obtain ⟨x24, hx24, q16⟩ := bS q16
 refine T.drawS drawsX (fun env21 => [.val (vn w8 0), dN s12.1, .val (vn w8 0), dN s12.1, dN t9, dN (w64 (s12.1 + t9)), .val (vn w8 0), dN s12.1, dN t9, dN (w64 (s12.1 + t9)), .val (.pointer (some ⟨blk (vn w8 0), (w64 (s12.1 + t9)).toNat * 5, none⟩)), .agg [.sl 2 (List.map e_arena_Span x22.fText.fL), dN x22.fText.fN, dN x22.fRaw.fAt, dN x22.fRaw.fN, dT x22.fKept], .val (vn w8 0), dN s12.1, .val (.pointer (some ⟨blk (vn w8 0), s12.1.toNat * 5, none⟩)), .agg [.sl 2 (List.map e_arena_Span x23.fText.fL), dN x23.fText.fN, dN x23.fRaw.fAt, dN x23.fRaw.fN, dT x23.fKept], .val (.pointer (some ⟨blk (vn w8 0), s12.1.toNat * 5, none⟩)), .dead, .val (.pointer (some ⟨blk (vn w8 0), (w64 (s12.1 + t9)).toNat * 5, none⟩)), .dead]) (fun D env21 => [.var (blk p1) [.val (.slice none 0 0), dN 0, dT false] 49, (bif D 19 then .row (vn w8 0) (List.map e_cell_Cell ((s12.2.set s12.1.toNat x22).set (w64 (s12.1 + t9)).toNat x23)) 5 144 else bif D 17 then .row (vn w8 0) (List.map e_cell_Cell (s12.2.set s12.1.toNat x22)) 5 144 else .row (vn w8 0) (List.map e_cell_Cell s12.2) 5 144)]) [0, 0, 0, 0, 0, 24, 0, 0, 0, 384, 960, 1984, 0, 0, 12288, 28672, 65475, 131011, 262143, 524287] [1, 2, 3, 6, 7, 8, 9] _ (by decide +kernel) (by decide +kernel) (fun _ => rfl) (fun _ => rfl) ?_ (fun _ => rfl) (fun _ => rfl) ?_
 rotate_left
 · intro env21
   show T X _ _ _
   refine T.region ?_
   iterate 4 refine aA rfl rfl ?_
   refine TL.nil ?_
   obtain rfl := osi q16
   exact ⟨m14, Nat.lt_succ_self _, _, Gst.only [1, 2, 3, 6, 7, 8, 9] rfl, (w64 (s12.1 + t9), ((s12.2.set s12.1.toNat x22).set (w64 (s12.1 + t9)).toNat x23)), rfl, i17⟩
 iterate 10 refine aC ?_
 refine OpsS.cons' true ?_ (fun _ _ _ _ _ _ _ => rfl) ?_
 · intro D env21 hA
   have e17 : D 17 = false := hA.no 17 _ rfl rfl
   have e19 : D 19 = false := hA.no 19 _ rfl rfl
   exact OpS.yp [(17, false), (19, false)] ⟨e17, e19, trivial⟩ (Want.plain rfl) (OpR.rowIndexM e_cell_Cell 1 hx22 rfl rfl rfl rfl rfl rfl rfl) (fun x => rfl) (fun x => rfl)
 refine OpsS.cons' true ?_ (fun _ _ _ _ _ _ _ => rfl) ?_
 · intro D env21 hA
   have e17 : D 17 = false := hA.no 17 _ rfl rfl
   have e19 : D 19 = false := hA.no 19 _ rfl rfl
   exact OpS.yp [(17, false), (19, false)] ⟨e17, e19, trivial⟩ (Want.plain rfl) (OpR.rowLoad0M (j := w64 (s12.1 + t9)) e_cell_Cell 1 hx22 rfl rfl rfl rfl) (fun x => rfl) (fun x => rfl)
 iterate 2 refine aC ?_
 refine OpsS.cons' true ?_ (fun _ _ _ _ _ _ _ => rfl) ?_
 · intro D env21 hA
   have e17 : D 17 = false := hA.no 17 _ rfl rfl
   have e19 : D 19 = false := hA.no 19 _ rfl rfl
   exact OpS.yp [(17, false), (19, false)] ⟨e17, e19, trivial⟩ (Want.plain rfl) (OpR.rowIndexM e_cell_Cell 1 hx23 rfl rfl rfl rfl rfl rfl rfl) (fun x => rfl) (fun x => rfl)
 refine OpsS.cons' true ?_ (fun _ _ _ _ _ _ _ => rfl) ?_
 · intro D env21 hA
   have e17 : D 17 = false := hA.no 17 _ rfl rfl
   have e19 : D 19 = false := hA.no 19 _ rfl rfl
   exact OpS.yp [(17, false), (19, false)] ⟨e17, e19, trivial⟩ (Want.plain rfl) (OpR.rowLoad0M (j := s12.1) e_cell_Cell 1 hx23 rfl rfl rfl rfl) (fun x => rfl) (fun x => rfl)
 refine OpsS.cons' true ?_ (fun _ _ _ _ _ _ _ => rfl) ?_
 · intro D env21 hA
   have e17 : D 17 = false := hA.no 17 _ rfl rfl
   have e19 : D 19 = false := hA.no 19 _ rfl rfl
   exact OpS.yp [(17, false), (19, false)] ⟨e17, e19, trivial⟩ (Want.plain rfl) (OpR.rowIndexM e_cell_Cell 1 hx23 rfl rfl rfl rfl rfl rfl rfl) (fun x => rfl) (fun x => rfl)
 refine OpsS.cons' true ?_ (fun _ _ _ _ _ _ _ => rfl) ?_
 · intro D env21 hA
   have e19 : D 19 = false := hA.no 19 _ rfl rfl
   exact OpS.yp [(19, false), (17, false)] ⟨e19, hA.me, trivial⟩ (Want.plain rfl) (OpR.rowStore0M (j := s12.1) e_cell_Cell x22 1 hx23 rfl rfl rfl rfl rfl rfl rfl rfl rfl) (fun x => rfl) (fun x => rfl)
 refine OpsS.cons' true ?_ (fun _ _ _ _ _ _ _ => rfl) ?_
 · intro D env21 hA
   have e17 : D 17 = true := hA.yes 17 _ rfl rfl
   have e19 : D 19 = false := hA.no 19 _ rfl rfl
   exact OpS.yp [(17, true), (19, false)] ⟨e17, e19, trivial⟩ (Want.plain rfl) (OpR.rowIndexM e_cell_Cell 1 hx24 rfl rfl rfl rfl rfl rfl rfl) (fun x => rfl) (fun x => rfl)
 refine OpsS.cons' true ?_ (fun _ _ _ _ _ _ _ => rfl) ?_
 · intro D env21 hA
   have e17 : D 17 = true := hA.yes 17 _ rfl rfl
   exact OpS.yp [(17, true), (19, false)] ⟨e17, hA.me, trivial⟩ (Want.plain rfl) (OpR.rowStore0M (j := w64 (s12.1 + t9)) e_cell_Cell x23 1 hx24 rfl rfl rfl rfl rfl rfl rfl rfl rfl) (fun x => rfl) (fun x => rfl)
 exact trivial
noncomputable def cols_Move_1 (a0 : row_Row) (a1 : Int) (a2 : Int) (a3 : Int) (a4 : Int) : Option (row_Row × Int) :=
  bnd (row_Row_Len a0) fun x3 =>
  if x3 ≤ a1 then
    some (a0, 0)
  else
    bnd (row_Row_Pad a0 (w64 (a2 + 1))) fun x6 =>
    bnd (row_Row_Move x6 a3 a4) fun x7 =>
    some (x7.1, x7.2)
theorem cols_Move_1_c {a0 : row_Row} {a1 : Int} {a2 : Int} {a3 : Int} {a4 : Int} {b0 : Nat} {b1 : Nat} {b2 : Nat} {b3 : Nat} {res : row_Row × Int} (h0 : cols_Move_1 a0 a1 a2 a3 a4 = some res) : CallF X 89 [.agg [.sl 5 (List.map e_cell_Cell a0.fCells), dN a0.fEnd, dT a0.fHidden], dP b0, dP b1, dP b2, dP b3] [.var b0 [dN a1] 3, .var b1 [dN a2] 3, .var b2 [dN a3] 3, .var b3 [dN a4] 3] (fun x => .tup [.agg [.sl 5 (List.map e_cell_Cell res.1.fCells), dN res.1.fEnd, dT res.1.fHidden], dN res.2]) (fun x => [.var b0 [dN a1] 3, .var b1 [dN a2] 3, .var b2 [dN a3] 3, .var b3 [dN a4] 3]) := by
 unfold cols_Move_1 at h0
 refine CallF.mkG (X := X) rfl Tryz.func89 rfl rfl Tryz.ntmps89 rfl rfl ?_
 refine aS ?_
 refine TL.op1 (OpR.boxImm rfl rfl) rfl ?_
 refine TL.op (OpR.alloc rfl rfl (fun _ => rfl)) rfl (fun p1 => ?_)
 refine aA rfl rfl ?_
 refine aN rfl ?_
 refine T.seq ?_
 refine T.seq ?_
 obtain ⟨x3, hx3, h0⟩ := bS h0
 refine T.drawQ drawsX [.agg [.sl 5 (List.map e_cell_Cell a0.fCells), dN a0.fEnd, dT a0.fHidden], dN x3, dN a1, dT (decide (x3 ≤ a1))] [2, 3, 4, 5, 6, 7, 11] (by decide +kernel) rfl ?_ rfl ?_
 · refine aB rfl rfl rfl ?_
   refine OpsQ.yes (Want.plain rfl) rfl (OpR.call0 fn25 (row_Row_Len_c hx3) rfl) ?_
   refine OpsQ.yes (Want.plain rfl) rfl (OpR.loadPtr 0 rfl rfl rfl rfl) ?_
   refine aB rfl rfl rfl ?_
   exact OpsQ.nil
 show T X _ _ _
 rcases ite_some h0 with ⟨c4, h0⟩ | ⟨c4, h0⟩
 · refine T.condT rfl (eT c4) ?_
   refine aS ?_
   refine aA rfl rfl ?_
   refine TL.op0 (OpR.store 4 rfl rfl rfl rfl rfl rfl rfl rfl) ?_
   refine aA rfl rfl ?_
   refine aN rfl ?_
   refine T.ret ?_
   obtain rfl := osi h0
   exact rO [0, 1, 2, 3] [6, 7] rfl undef (cV 4 rfl rfl rfl rfl (cT rfl ResL.nil)) rfl rfl rfl rfl
 refine T.condF rfl (eF c4) ?_
 refine aK rfl ?_
 refine T.seq ?_
 obtain ⟨x6, hx6, h0⟩ := bS h0
 obtain ⟨x7, hx7, h0⟩ := bS h0
 refine T.drawS drawsX (fun env5 => [.agg [.sl 5 (List.map e_cell_Cell a0.fCells), dN a0.fEnd, dT a0.fHidden], dN a2, dN (w64 (a2 + 1)), .agg [.sl 5 (List.map e_cell_Cell x6.fCells), dN x6.fEnd, dT x6.fHidden], dN a3, dN a4, .tup [.agg [.sl 5 (List.map e_cell_Cell x7.1.fCells), dN x7.1.fEnd, dT x7.1.fHidden], dN x7.2], .agg [.sl 5 (List.map e_cell_Cell x7.1.fCells), dN x7.1.fEnd, dT x7.1.fHidden], dN x7.2, .dead, dN x7.2]) (fun D env5 => [.var b0 [dN a1] 3, .var b1 [dN a2] 3, .var b2 [dN a3] 3, .var b3 [dN a4] 3, (bif D 9 then .var (blk p1) [.sl 5 (List.map e_cell_Cell x7.1.fCells), dN x7.1.fEnd, dT x7.1.fHidden] 49 else .var (blk p1) [.val (.slice none 0 0), dN 0, dT false] 49)]) [0, 0, 2, 7, 0, 0, 63, 127, 127, 511, 1023] [6, 7] _ (by decide +kernel) (by decide +kernel) (fun _ => rfl) (fun _ => rfl) ?_ (fun _ => rfl) (fun _ => rfl) ?_
 rotate_left
 · intro env5
   show T X _ _ _
   refine T.ret ?_
   obtain rfl := osi h0
   exact rO [0, 1, 2, 3] [6, 7] rfl undef (cV 4 rfl rfl rfl rfl (cT rfl ResL.nil)) rfl rfl rfl rfl
 refine aC ?_
 refine oT ((dN a2)) (fun _ _ => OpR.loadPtr 1 rfl rfl rfl rfl) ?_
 refine aC ?_
 refine oT (.agg [.sl 5 (List.map e_cell_Cell x6.fCells), dN x6.fEnd, dT x6.fHidden]) (fun _ _ => OpR.call0 fn90 (row_Row_Pad_c hx6) rfl) ?_
 refine oT ((dN a3)) (fun _ _ => OpR.loadPtr 2 rfl rfl rfl rfl) ?_
 refine oT ((dN a4)) (fun _ _ => OpR.loadPtr 3 rfl rfl rfl rfl) ?_
 refine oT (.tup [.agg [.sl 5 (List.map e_cell_Cell x7.1.fCells), dN x7.1.fEnd, dT x7.1.fHidden], dN x7.2]) (fun _ _ => OpR.call0 fn91 (row_Row_Move_c hx7) rfl) ?_
 iterate 2 refine aC ?_
 refine OpsS.cons' true ?_ (fun _ _ _ _ _ _ _ => rfl) ?_
 · intro D env5 hA
   exact OpS.yp [(9, false)] ⟨hA.me, trivial⟩ (Want.plain rfl) (OpR.store 4 rfl rfl rfl rfl rfl rfl rfl rfl) (fun x => rfl) (fun x => rfl)
 refine aC ?_
 exact trivial
noncomputable def cols_each_1_3 (a0 : Int) (a1 : row_Row) (a2 : Int) (a3 : Int) (a4 : Int) (a5 : Int) (a6 : Int) : Option (row_Row × Int) :=
  bnd (cols_Move_1 a1 a3 a4 a5 a6) fun x2 =>
  bnd (if x2.2 = 0 then
    some false
  else
    some (a2 == 0) : Option Bool) fun t4 =>
  bnd (if t4 = true then
    some x2.2
  else
    some a2 : Option Int) fun t6 =>
  some (x2.1, t6)
theorem cols_each_1_3_c {a0 : Int} {a1 : row_Row} {a2 : Int} {a3 : Int} {a4 : Int} {a5 : Int} {a6 : Int} {b0 : Nat} {b1 : Nat} {b2 : Nat} {b3 : Nat} {b4 : Nat} {b5 : Nat} {res : row_Row × Int} (h0 : cols_each_1_3 a0 a1 a2 a3 a4 a5 a6 = some res) : CallF X 154 [dN a0, .agg [.sl 5 (List.map e_cell_Cell a1.fCells), dN a1.fEnd, dT a1.fHidden], dP b0, dP b1] [.var b0 [.fn (.func 89) [] [dP b2, dP b3, dP b4, dP b5]] 145, .var b1 [dN a2] 53, .var b2 [dN a3] 3, .var b3 [dN a4] 3, .var b4 [dN a5] 3, .var b5 [dN a6] 3] (fun x => .agg [.sl 5 (List.map e_cell_Cell res.1.fCells), dN res.1.fEnd, dT res.1.fHidden]) (fun x => [.var b0 [.fn (.func 89) [] [dP b2, dP b3, dP b4, dP b5]] 145, .var b1 [dN res.2] 53, .var b2 [dN a3] 3, .var b3 [dN a4] 3, .var b4 [dN a5] 3, .var b5 [dN a6] 3]) := by
 unfold cols_each_1_3 at h0
 refine CallF.mkG (X := X) rfl Tryz.func154 rfl rfl Tryz.ntmps154 rfl rfl ?_
 refine aS ?_
 refine TL.op1 (OpR.boxImm rfl rfl) rfl ?_
 refine TL.op (OpR.alloc rfl rfl (fun _ => rfl)) rfl (fun p1 => ?_)
 refine aN rfl ?_
 refine aS ?_
 refine TL.op1 (OpR.loadPtr 0 rfl rfl rfl rfl) rfl ?_
 refine aA rfl rfl ?_
 obtain ⟨x2, hx2, h0⟩ := bS h0
 refine TL.op1 (OpR.callV [2, 3, 4, 5] rfl fn89 (cols_Move_1_c hx2) rfl rfl rfl (fun _ => rfl)) rfl ?_
 iterate 3 refine aA rfl rfl ?_
 refine TL.op (OpR.alloc rfl rfl (fun _ => rfl)) rfl (fun p3 => ?_)
 refine TL.op0 (OpR.store 7 rfl rfl rfl rfl rfl rfl rfl rfl) ?_
 refine aA rfl rfl ?_
 refine aN rfl ?_
 refine T.seq ?_
 refine T.seq ?_
 obtain ⟨t4, ht4, h0⟩ := bS h0
 refine T.cutC (fun S' => S' = ⟨[(20, (dT t4)), (8, (dN x2.2)), (7, (dP (blk p3))), (6, (dP (blk p1))), (3, (dP b1))], [.var b0 [.fn (.func 89) [] [dP b2, dP b3, dP b4, dP b5]] 145, .var b1 [dN a2] 53, .var b2 [dN a3] 3, .var b3 [dN a4] 3, .var b4 [dN a5] 3, .var b5 [dN a6] 3, .var (blk p1) [.val (.slice none 0 0), dN 0, dT false] 49, .var (blk p3) [.sl 5 (List.map e_cell_Cell x2.1.fCells), dN x2.1.fEnd, dT x2.1.fHidden] 49], 23⟩) (fun _ h => h) ?_ ?_
 · refine T.region ?_
   iterate 3 refine aA rfl rfl ?_
   rcases ite_some ht4 with ⟨c5, ht4⟩ | ⟨c5, ht4⟩
   · refine TL.off rfl rfl rfl rfl (not_t (beq_iff_eq.2 c5)) rfl rfl ?_
     refine TL.off rfl rfl rfl rfl (not_t (beq_iff_eq.2 c5)) rfl rfl ?_
     refine TL.op1 (OpR.pickF rfl (not_t (beq_iff_eq.2 c5)) rfl) rfl ?_
     refine TL.nil ?_
     obtain rfl := osi ht4
     exact ⟨_, Gst.only [3, 6, 7, 8, 20] rfl, rfl⟩
   refine TL.on rfl rfl rfl rfl (not_f (beq_eq_false_iff_ne.2 c5)) ?_
   refine TL.op1 (OpR.loadPtr 1 rfl rfl rfl rfl) rfl ?_
   refine TL.on rfl rfl rfl rfl (not_f (beq_eq_false_iff_ne.2 c5)) ?_
   refine aA rfl rfl ?_
   refine TL.op1 (OpR.pickT rfl (not_f (beq_eq_false_iff_ne.2 c5)) rfl) rfl ?_
   refine TL.nil ?_
   obtain rfl := osi ht4
   exact ⟨_, Gst.only [3, 6, 7, 8, 20] rfl, rfl⟩
 rintro _ rfl
 show T X _ _ _
 obtain ⟨t6, ht6, h0⟩ := bS h0
 refine T.cutC (fun S' => S' = ⟨[(7, (dP (blk p3))), (6, (dP (blk p1)))], [.var b0 [.fn (.func 89) [] [dP b2, dP b3, dP b4, dP b5]] 145, .var b1 [dN t6] 53, .var b2 [dN a3] 3, .var b3 [dN a4] 3, .var b4 [dN a5] 3, .var b5 [dN a6] 3, .var (blk p1) [.val (.slice none 0 0), dN 0, dT false] 49, .var (blk p3) [.sl 5 (List.map e_cell_Cell x2.1.fCells), dN x2.1.fEnd, dT x2.1.fHidden] 49], 23⟩) (fun _ h => h) ?_ ?_
 · rcases ite_some ht6 with ⟨c7, ht6⟩ | ⟨c7, ht6⟩
   rotate_left
   · refine T.condF rfl (eq_false_of_ne_true c7) ?_
     refine T.skip ?_
     obtain rfl := osi ht6
     exact ⟨_, Gst.only [6, 7] rfl, rfl⟩
   refine T.condT rfl (c7) ?_
   refine T.region ?_
   refine aA rfl rfl ?_
   refine TL.op0 (OpR.store 1 rfl rfl rfl rfl rfl rfl rfl rfl) ?_
   refine TL.nil ?_
   obtain rfl := osi ht6
   exact ⟨_, Gst.only [6, 7] rfl, rfl⟩
 rintro _ rfl
 show T X _ _ _
 refine aS ?_
 refine TL.op1 (OpR.loadPtr 7 rfl rfl rfl rfl) rfl ?_
 refine TL.op0 (OpR.store 6 rfl rfl rfl rfl rfl rfl rfl rfl) ?_
 refine aN rfl ?_
 refine T.ret ?_
 obtain rfl := osi h0
 exact rP [0, 1, 2, 3, 4, 5] [6] [0, 1, 2, 3, 4, 5, 6] rfl rfl rfl undef (cV 6 rfl rfl rfl rfl ResL.nil) rfl rfl rfl rfl
noncomputable def walk_Map_row_Row_4.l1 (a2 : Int) (a3 : Int) (a4 : Int) (a5 : Int) (x3 : (List row_Row)) (s6 : Int × Int × (List row_Row)) : Option (Lp (Int × Int × (List row_Row)) (Int × (List row_Row))) :=
  if s6.1 < (x3.length : Int) then
    bnd (idx s6.2.2 s6.1) fun x15 =>
    bnd (cols_each_1_3 s6.1 x15 s6.2.1 a2 a3 a4 a5) fun x17 =>
    some (Lp.next (w64 (s6.1 + 1), x17.2, (s6.2.2.set s6.1.toNat x17.1)))
  else
    some (Lp.done (s6.2.1, s6.2.2))
noncomputable def walk_Map_row_Row_4 (a0 : tTr) (a1 : Int) (a2 : Int) (a3 : Int) (a4 : Int) (a5 : Int) : Option (tTr × Int) :=
  bnd (walk_All_row_Row a0) fun x2 =>
  bnd (slices_Clone_row_Row_row_Row x2) fun x3 =>
  bnd (loop (walk_Map_row_Row_4.l1 a2 a3 a4 a5 x3) (0, a1, x3) : Option (Int × (List row_Row))) fun t5 =>
  bnd (tree_Of_row_Row t5.2) fun x18 =>
  some (x18, t5.1)
theorem walk_Map_row_Row_4_c {a0 : tTr} {a1 : Int} {a2 : Int} {a3 : Int} {a4 : Int} {a5 : Int} {b0 : Nat} {b1 : Nat} {b2 : Nat} {b3 : Nat} {b4 : Nat} {b5 : Nat} {res : tTr × Int} (h0 : walk_Map_row_Row_4 a0 a1 a2 a3 a4 a5 = some res) : CallF X 137 [.agg [(eOP a0.fRoot)], .fn (.func 154) [] [dP b0, dP b1]] [.var b0 [.fn (.func 89) [] [dP b2, dP b3, dP b4, dP b5]] 145, .var b1 [dN a1] 53, .var b2 [dN a2] 3, .var b3 [dN a3] 3, .var b4 [dN a4] 3, .var b5 [dN a5] 3] (fun x => .agg [(eOP res.1.fRoot)]) (fun x => [.var b0 [.fn (.func 89) [] [dP b2, dP b3, dP b4, dP b5]] 145, .var b1 [dN res.2] 53, .var b2 [dN a2] 3, .var b3 [dN a3] 3, .var b4 [dN a4] 3, .var b5 [dN a5] 3]) := by
 unfold walk_Map_row_Row_4 at h0
 refine CallF.mkG (X := X) rfl Tryz.func137 rfl rfl Tryz.ntmps137 rfl rfl ?_
 refine aS ?_
 refine TL.op1 (OpR.boxImm rfl rfl) rfl ?_
 refine TL.op (OpR.alloc rfl rfl (fun _ => rfl)) rfl (fun p1 => ?_)
 refine aN rfl ?_
 refine aS ?_
 refine aA rfl rfl ?_
 obtain ⟨x2, hx2, h0⟩ := bS h0
 refine TL.op1 (OpR.call0 fn100 (walk_All_row_Row_c hx2) rfl) rfl ?_
 obtain ⟨x3, hx3, h0⟩ := bS h0
 refine TL.op (OpR.call [] fn191 (slices_Clone_row_Row_row_Row_c hx3) rfl rfl rfl (fun _ => rfl)) rfl (fun w4 => ?_)
 refine aA rfl rfl ?_
 refine aN rfl ?_
 refine T.seq ?_
 refine aS ?_
 refine aA rfl rfl ?_
 refine TL.op1 (OpR.rowLenM e_row_Row 7 rfl rfl rfl rfl) rfl ?_
 refine aA rfl rfl ?_
 refine aN rfl ?_
 obtain ⟨t5, ht5, h0⟩ := bS h0
 refine T.cutC (fun S' => S' = ⟨[(5, .val (vn w4 0)), (4, (dP (blk p1)))], [.var b0 [.fn (.func 89) [] [dP b2, dP b3, dP b4, dP b5]] 145, .var b1 [dN t5.1] 53, .var b2 [dN a2] 3, .var b3 [dN a3] 3, .var b4 [dN a4] 3, .var b5 [dN a5] 3, .var (blk p1) [(eOP none)] 25, .row (vn w4 0) (List.map e_row_Row t5.2) 3 49], 28⟩) (fun _ h => h) ?_ ?_
 rotate_left
 · rintro _ rfl
   show T X _ _ _
   refine aS ?_
   refine aA rfl rfl ?_
   refine TL.ghost (Gst.freezeRow 7 rfl rfl (ReS.cons (Re.base .all) (ReS.refl _)) (ReO.same (ReO.same (ReO.same (ReO.same (ReO.same (ReO.same (ReO.same (ReO.same ReO.nil))))))))) ?_
   obtain ⟨x18, hx18, h0⟩ := bS h0
   refine TL.op1 (OpR.call0 fn101 (tree_Of_row_Row_c hx18) rfl) rfl ?_
   refine TL.op0 (OpR.store 6 rfl rfl rfl rfl rfl rfl rfl rfl) ?_
   refine aN rfl ?_
   refine T.ret ?_
   obtain rfl := osi h0
   exact rP [0, 1, 2, 3, 4, 5] [4] [0, 1, 2, 3, 4, 5, 6] rfl rfl rfl undef (cV 6 rfl rfl rfl rfl ResL.nil) rfl rfl rfl rfl
 refine T.block ?_
 obtain ⟨n7, n12⟩ := loop_some ht5
 refine T.loop (fun n S' => ∃ S'', Gst S' S'' ∧ ∃ s6 : Int × Int × (List row_Row), S'' = ⟨[(13, (dN s6.1)), (12, (dN (x3.length : Int))), (11, .val (vn w4 0)), (5, .val (vn w4 0)), (4, (dP (blk p1))), (1, .fn (.func 154) [] [dP b0, dP b1])], [.var b0 [.fn (.func 89) [] [dP b2, dP b3, dP b4, dP b5]] 145, .var b1 [dN s6.2.1] 53, .var b2 [dN a2] 3, .var b3 [dN a3] 3, .var b4 [dN a4] 3, .var b5 [dN a5] 3, .var (blk p1) [(eOP none)] 25, .row (vn w4 0) (List.map e_row_Row s6.2.2) 3 49], 28⟩ ∧ iter (walk_Map_row_Row_4.l1 a2 a3 a4 a5 x3) n s6 = some t5) n7 ?_ ?_
 · exact ⟨_, Gst.only [1, 4, 5, 11, 12, 13] rfl, (0, a1, x3), rfl, n12⟩
 rintro n7 _ ⟨_, g, s6, rfl, i11⟩
 refine T.ghost g ?_
 obtain ⟨m8, q9, rfl, q10, i11⟩ := iter_succ i11
 unfold walk_Map_row_Row_4.l1 at q10
 refine aS ?_
 refine aA rfl rfl ?_
 refine aN rfl ?_
 refine T.seq ?_
 rcases ite_some q10 with ⟨c14, q10⟩ | ⟨c14, q10⟩
 rotate_left
 · refine T.condF rfl (eF c14) ?_
   refine T.exit ?_
   obtain rfl := osi q10
   obtain rfl : _ = _ := i11
   exact ⟨_, Gst.only [4, 5] rfl, rfl⟩
 refine T.condT rfl (eT c14) ?_
 refine aK rfl ?_
 refine T.seq ?_
 refine T.block ?_
 refine aS ?_
 refine aA rfl rfl ?_
 obtain ⟨x15, hx15, q10⟩ := bS q10
 refine TL.op1 (OpR.rowIndexM e_row_Row 7 hx15 rfl rfl rfl rfl rfl rfl rfl) rfl ?_
 refine TL.op1 (OpR.rowLoad0M (j := s6.1) e_row_Row 7 hx15 rfl rfl rfl rfl) rfl ?_
 refine TL.op (OpR.alloc rfl rfl (fun _ => rfl)) rfl (fun p16 => ?_)
 refine aA rfl rfl ?_
 refine TL.op0 (OpR.store 8 rfl rfl rfl rfl rfl rfl rfl rfl) ?_
 refine aN rfl ?_
 refine T.region ?_
 iterate 4 refine aA rfl rfl ?_
 refine TL.op1 (OpR.loadPtr 8 rfl rfl rfl rfl) rfl ?_
 obtain ⟨x17, hx17, q10⟩ := bS q10
 refine TL.op1 (OpR.callV [0, 1, 2, 3, 4, 5] rfl fn154 (cols_each_1_3_c hx17) rfl rfl rfl (fun _ => rfl)) rfl ?_
 refine TL.op1 (OpR.rowIndexM e_row_Row 7 hx15 rfl rfl rfl rfl rfl rfl rfl) rfl ?_
 refine TL.op0 (OpR.rowStore0M (j := s6.1) e_row_Row x17.1 7 hx15 rfl rfl rfl rfl rfl rfl rfl rfl rfl) ?_
 refine aN rfl ?_
 refine T.region ?_
 iterate 2 refine aA rfl rfl ?_
 refine TL.nil ?_
 obtain rfl := osi q10
 exact ⟨m8, Nat.lt_succ_self _, _, gP [1, 4, 5, 11, 12, 13] [0, 1, 2, 3, 4, 5, 6, 7] rfl rfl rfl, (w64 (s6.1 + 1), x17.2, (s6.2.2.set s6.1.toNat x17.1)), rfl, i11⟩
noncomputable def cols_each_3 (a0 : grid_Grid) (a1 : Int) (a2 : Int) (a3 : Int) (a4 : Int) : Option (grid_Grid × Int) :=
  bnd (walk_Map_row_Row_4 a0.fRows 0 a1 a2 a3 a4) fun x5 =>
  if x5.2 = 0 then
    some ((⟨x5.1, a0.fTail, a0.fEnd⟩ : grid_Grid), 0)
  else
    some ((⟨(⟨none⟩ : tTr), false, 0⟩ : grid_Grid), x5.2)
theorem cols_each_3_c {a0 : grid_Grid} {a1 : Int} {a2 : Int} {a3 : Int} {a4 : Int} {b0 : Nat} {b1 : Nat} {b2 : Nat} {b3 : Nat} {res : grid_Grid × Int} (h0 : cols_each_3 a0 a1 a2 a3 a4 = some res) : CallF X 82 [.agg [(eOP a0.fRows.fRoot), dT a0.fTail, dN a0.fEnd], .fn (.func 89) [] [dP b0, dP b1, dP b2, dP b3]] [.var b0 [dN a1] 3, .var b1 [dN a2] 3, .var b2 [dN a3] 3, .var b3 [dN a4] 3] (fun x => .tup [.agg [(eOP res.1.fRows.fRoot), dT res.1.fTail, dN res.1.fEnd], dN res.2]) (fun x => [.var b0 [dN a1] 3, .var b1 [dN a2] 3, .var b2 [dN a3] 3, .var b3 [dN a4] 3]) := by
 unfold cols_each_3 at h0
 refine CallF.mkG (X := X) rfl Tryz.func82 rfl rfl Tryz.ntmps82 rfl rfl ?_
 refine aS ?_
 refine TL.op (OpR.boxVar rfl rfl (fun _ => rfl)) rfl (fun p1 => ?_)
 refine TL.op (OpR.boxVar rfl rfl (fun _ => rfl)) rfl (fun p2 => ?_)
 refine TL.op (OpR.alloc rfl rfl (fun _ => rfl)) rfl (fun p3 => ?_)
 refine aA rfl rfl ?_
 refine aN rfl ?_
 refine aS ?_
 refine TL.op (OpR.alloc rfl rfl (fun _ => rfl)) rfl (fun p4 => ?_)
 refine TL.op0 (OpR.store 7 rfl rfl rfl rfl rfl rfl rfl rfl) ?_
 refine aN rfl ?_
 refine aS ?_
 refine aA rfl rfl ?_
 refine TL.op1 (OpR.loadPtr 4 rfl rfl rfl rfl) rfl ?_
 refine aA rfl rfl ?_
 obtain ⟨x5, hx5, h0⟩ := bS h0
 refine TL.op1 (OpR.call [5, 7, 0, 1, 2, 3] fn137 (walk_Map_row_Row_4_c hx5) rfl rfl rfl (fun _ => rfl)) rfl ?_
 refine aA rfl rfl ?_
 refine TL.op0 (OpR.store 4 rfl rfl rfl rfl rfl rfl rfl rfl) ?_
 refine aN rfl ?_
 refine T.seq ?_
 refine aS ?_
 refine TL.op1 (OpR.loadPtr 7 rfl rfl rfl rfl) rfl ?_
 refine aA rfl rfl ?_
 refine aN rfl ?_
 rcases ite_some h0 with ⟨c6, h0⟩ | ⟨c6, h0⟩
 · refine T.condF rfl (not_t (beq_iff_eq.2 c6)) ?_
   refine aK rfl ?_
   refine aS ?_
   refine TL.op1 (OpR.loadPtr 4 rfl rfl rfl rfl) rfl ?_
   refine TL.op0 (OpR.store 6 rfl rfl rfl rfl rfl rfl rfl rfl) ?_
   refine aA rfl rfl ?_
   refine aN rfl ?_
   refine T.ret ?_
   obtain rfl := osi h0
   exact rP [0, 1, 2, 3] [4, 5] [0, 1, 2, 3, 6] rfl rfl rfl undef (cV 4 rfl rfl rfl rfl (cT rfl ResL.nil)) rfl rfl rfl rfl
 refine T.condT rfl (not_f (beq_eq_false_iff_ne.2 c6)) ?_
 refine T.seq ?_
 refine T.drawQ drawsX [.agg [(eOP none), dT false, dN 0], dN x5.2, .dead, dN x5.2] [2, 4, 5] (by decide +kernel) rfl ?_ rfl ?_
 rotate_left
 · show T X _ _ _
   refine T.ret ?_
   obtain rfl := osi h0
   exact rP [0, 1, 2, 3] [4, 5] [0, 1, 2, 3, 6] rfl rfl rfl undef (cV 4 rfl rfl rfl rfl (cT rfl ResL.nil)) rfl rfl rfl rfl
 refine OpsQ.yes (Want.plain rfl) rfl (OpR.build rfl rfl rfl rfl rfl) ?_
 refine OpsQ.yes (Want.plain rfl) rfl (OpR.loadPtr 7 rfl rfl rfl rfl) ?_
 refine OpsQ.yes (Want.plain rfl) rfl (OpR.store 6 rfl rfl rfl rfl rfl rfl rfl rfl) ?_
 refine aB rfl rfl rfl ?_
 exact OpsQ.nil
noncomputable def cols_Move (a0 : grid_Grid) (a1 : Int) (a2 : Int) : Option (grid_Grid × Int) :=
  bnd (grid_Grid_Width a0) fun x4 =>
  bnd (if a1 < 0 then
    some true
  else
    if a2 < 0 then
      some true
    else
      if a1 ≥ x4 then
        some true
      else
        some (decide (a2 ≥ x4)) : Option Bool) fun t5 =>
  if t5 = true then
    some ((⟨(⟨none⟩ : tTr), false, 0⟩ : grid_Grid), 5)
  else
    if a1 = a2 then
      some (a0, 0)
    else
      bnd (cols_each_3 a0 (if a2 < a1 then a2 else a1) (if a2 > a1 then a2 else a1) a1 a2) fun x12 =>
      some (x12.1, x12.2)
theorem cols_Move_c {a0 : grid_Grid} {a1 : Int} {a2 : Int} {res : grid_Grid × Int} (h0 : cols_Move a0 a1 a2 = some res) : CallF X 29 [.agg [(eOP a0.fRows.fRoot), dT a0.fTail, dN a0.fEnd], dN a1, dN a2] [] (fun x => .tup [.agg [(eOP res.1.fRows.fRoot), dT res.1.fTail, dN res.1.fEnd], dN res.2]) (fun x => []) := by
 unfold cols_Move at h0
 refine CallF.mkG (X := X) rfl Tryz.func29 rfl rfl Tryz.ntmps29 rfl rfl ?_
 refine aS ?_
 refine TL.op1 (OpR.boxImm rfl rfl) rfl ?_
 refine TL.op (OpR.boxVar rfl rfl (fun _ => rfl)) rfl (fun p1 => ?_)
 refine TL.op (OpR.boxVar rfl rfl (fun _ => rfl)) rfl (fun p2 => ?_)
 refine TL.op (OpR.alloc rfl rfl (fun _ => rfl)) rfl (fun p3 => ?_)
 refine aA rfl rfl ?_
 refine aN rfl ?_
 refine aS ?_
 refine aA rfl rfl ?_
 obtain ⟨x4, hx4, h0⟩ := bS h0
 refine TL.op1 (OpR.call0 fn23 (grid_Grid_Width_c hx4) rfl) rfl ?_
 refine aA rfl rfl ?_
 refine aN rfl ?_
 refine T.seq ?_
 refine T.seq ?_
 obtain ⟨t5, ht5, h0⟩ := bS h0
 refine T.cutC (fun S' => S' = ⟨[(28, (dT t5)), (7, (dN 0)), (6, (dP (blk p3))), (5, (dP (blk p2))), (4, (dP (blk p1))), (3, .nod [(eOP a0.fRows.fRoot), dT a0.fTail, dN a0.fEnd])], [.var (blk p1) [dN a1] 3, .var (blk p2) [dN a2] 3, .var (blk p3) [(eOP none), dT false, dN 0] 27], 45⟩) (fun _ h => h) ?_ ?_
 · refine T.region ?_
   refine TL.op1 (OpR.loadPtr 0 rfl rfl rfl rfl) rfl ?_
   iterate 2 refine aA rfl rfl ?_
   rcases ite_some ht5 with ⟨c6, ht5⟩ | ⟨c6, ht5⟩
   · refine TL.off rfl rfl rfl rfl (eT c6) rfl rfl ?_
     refine TL.off rfl rfl rfl rfl (eT c6) rfl rfl ?_
     refine TL.op1 (OpR.pickT rfl (eT c6) rfl) rfl ?_
     refine aA rfl rfl ?_
     refine TL.off rfl rfl rfl rfl rfl rfl rfl ?_
     refine TL.off rfl rfl rfl rfl rfl rfl rfl ?_
     refine TL.off rfl rfl rfl rfl rfl rfl rfl ?_
     refine TL.op1 (OpR.pickT rfl rfl rfl) rfl ?_
     refine aA rfl rfl ?_
     refine TL.off rfl rfl rfl rfl rfl rfl rfl ?_
     refine TL.off rfl rfl rfl rfl rfl rfl rfl ?_
     refine TL.off rfl rfl rfl rfl rfl rfl rfl ?_
     refine TL.op1 (OpR.pickT rfl rfl rfl) rfl ?_
     refine TL.nil ?_
     obtain rfl := osi ht5
     exact ⟨_, Gst.only [3, 4, 5, 6, 7, 28] rfl, rfl⟩
   refine TL.on rfl rfl rfl rfl (eF c6) ?_
   refine TL.op1 (OpR.loadPtr 1 rfl rfl rfl rfl) rfl ?_
   refine TL.on rfl rfl rfl rfl (eF c6) ?_
   refine aA rfl rfl ?_
   refine TL.op1 (OpR.pickF rfl (eF c6) rfl) rfl ?_
   refine aA rfl rfl ?_
   rcases ite_some ht5 with ⟨c7, ht5⟩ | ⟨c7, ht5⟩
   · refine TL.off rfl rfl rfl rfl (eT c7) rfl rfl ?_
     refine TL.off rfl rfl rfl rfl (eT c7) rfl rfl ?_
     refine TL.off rfl rfl rfl rfl (eT c7) rfl rfl ?_
     refine TL.op1 (OpR.pickT rfl (eT c7) rfl) rfl ?_
     refine aA rfl rfl ?_
     refine TL.off rfl rfl rfl rfl rfl rfl rfl ?_
     refine TL.off rfl rfl rfl rfl rfl rfl rfl ?_
     refine TL.off rfl rfl rfl rfl rfl rfl rfl ?_
     refine TL.op1 (OpR.pickT rfl rfl rfl) rfl ?_
     refine TL.nil ?_
     obtain rfl := osi ht5
     exact ⟨_, Gst.only [3, 4, 5, 6, 7, 28] rfl, rfl⟩
   refine TL.on rfl rfl rfl rfl (eF c7) ?_
   refine TL.op1 (OpR.loadPtr 0 rfl rfl rfl rfl) rfl ?_
   refine TL.on rfl rfl rfl rfl (eF c7) ?_
   refine aA rfl rfl ?_
   refine TL.on rfl rfl rfl rfl (eF c7) ?_
   refine aA rfl rfl ?_
   refine TL.op1 (OpR.pickF rfl (eF c7) rfl) rfl ?_
   refine aA rfl rfl ?_
   rcases ite_some ht5 with ⟨c8, ht5⟩ | ⟨c8, ht5⟩
   · refine TL.off rfl rfl rfl rfl (eT c8) rfl rfl ?_
     refine TL.off rfl rfl rfl rfl (eT c8) rfl rfl ?_
     refine TL.off rfl rfl rfl rfl (eT c8) rfl rfl ?_
     refine TL.op1 (OpR.pickT rfl (eT c8) rfl) rfl ?_
     refine TL.nil ?_
     obtain rfl := osi ht5
     exact ⟨_, Gst.only [3, 4, 5, 6, 7, 28] rfl, rfl⟩
   refine TL.on rfl rfl rfl rfl (eF c8) ?_
   refine TL.op1 (OpR.loadPtr 1 rfl rfl rfl rfl) rfl ?_
   refine TL.on rfl rfl rfl rfl (eF c8) ?_
   refine aA rfl rfl ?_
   refine TL.on rfl rfl rfl rfl (eF c8) ?_
   refine aA rfl rfl ?_
   refine TL.op1 (OpR.pickF rfl (eF c8) rfl) rfl ?_
   refine TL.nil ?_
   obtain rfl := osi ht5
   exact ⟨_, Gst.only [3, 4, 5, 6, 7, 28] rfl, rfl⟩
 rintro _ rfl
 show T X _ _ _
 rcases ite_some h0 with ⟨c9, h0⟩ | ⟨c9, h0⟩
 · refine T.condT rfl (c9) ?_
   refine aS ?_
   refine TL.op1 (OpR.build rfl rfl rfl rfl rfl) rfl ?_
   refine TL.op0 (OpR.store 2 rfl rfl rfl rfl rfl rfl rfl rfl) ?_
   refine aA rfl rfl ?_
   refine aN rfl ?_
   refine T.ret ?_
   obtain rfl := osi h0
   exact rP [] [6, 7] [2] rfl rfl rfl undef (cV 0 rfl rfl rfl rfl (cT rfl ResL.nil)) rfl rfl rfl rfl
 refine T.condF rfl (eq_false_of_ne_true c9) ?_
 refine aK rfl ?_
 refine T.seq ?_
 refine aS ?_
 refine TL.op1 (OpR.loadPtr 0 rfl rfl rfl rfl) rfl ?_
 refine TL.op1 (OpR.loadPtr 1 rfl rfl rfl rfl) rfl ?_
 refine aA rfl rfl ?_
 refine aN rfl ?_
 rcases ite_some h0 with ⟨c10, h0⟩ | ⟨c10, h0⟩
 · refine T.condT rfl (beq_iff_eq.2 c10) ?_
   refine aS ?_
   refine aA rfl rfl ?_
   refine TL.op0 (OpR.store 2 rfl rfl rfl rfl rfl rfl rfl rfl) ?_
   refine aA rfl rfl ?_
   refine aN rfl ?_
   refine T.ret ?_
   obtain rfl := osi h0
   exact rP [] [6, 7] [2] rfl rfl rfl undef (cV 0 rfl rfl rfl rfl (cT rfl ResL.nil)) rfl rfl rfl rfl
 refine T.condF rfl (beq_eq_false_iff_ne.2 c10) ?_
 refine aK rfl ?_
 refine T.seq ?_
 refine T.drawS drawsX (fun env11 => [dN a1, dN a2, dN (if a2 < a1 then a2 else a1), dN a1, dN a2, dN (if a2 > a1 then a2 else a1), dP (blk (env11 6)), dP (blk (env11 7)), .dead, .dead]) (fun D env11 => [.var (blk p1) [dN a1] 3, .var (blk p2) [dN a2] 3, .var (blk p3) [(eOP none), dT false, dN 0] 27] ++ (bif D 6 then [(bif D 8 then .var (blk (env11 6)) [dN (if a2 < a1 then a2 else a1)] 3 else .var (blk (env11 6)) [dN 0] 3)] else []) ++ (bif D 7 then [(bif D 9 then .var (blk (env11 7)) [dN (if a2 > a1 then a2 else a1)] 3 else .var (blk (env11 7)) [dN 0] 3)] else [])) [0, 0, 3, 0, 0, 24, 0, 0, 199, 511] [3, 4, 5, 6, 7, 9, 10] _ (by decide +kernel) (by decide +kernel) (fun _ => rfl) (fun _ => rfl) ?_ (fun _ => rfl) (fun _ => rfl) ?_
 rotate_left
 · intro env11
   show T X _ _ _
   refine aS ?_
   iterate 2 refine aA rfl rfl ?_
   obtain ⟨x12, hx12, h0⟩ := bS h0
   refine TL.op1 (OpR.call [3, 4, 0, 1] fn82 (cols_each_3_c hx12) rfl rfl rfl (fun _ => rfl)) rfl ?_
   iterate 2 refine aA rfl rfl ?_
   refine TL.op0 (OpR.store 2 rfl rfl rfl rfl rfl rfl rfl rfl) ?_
   refine aA rfl rfl ?_
   refine aN rfl ?_
   refine T.ret ?_
   obtain rfl := osi h0
   exact rP [] [6, 7] [2] rfl rfl rfl undef (cV 0 rfl rfl rfl rfl (cT rfl ResL.nil)) rfl rfl rfl rfl
 refine oT ((dN a1)) (fun _ _ => OpR.loadPtr 0 rfl rfl rfl rfl) ?_
 refine oT ((dN a2)) (fun _ _ => OpR.loadPtr 1 rfl rfl rfl rfl) ?_
 refine aC ?_
 refine oT ((dN a1)) (fun _ _ => OpR.loadPtr 0 rfl rfl rfl rfl) ?_
 refine oT ((dN a2)) (fun _ _ => OpR.loadPtr 1 rfl rfl rfl rfl) ?_
 refine aC ?_
 refine OpsS.cons' true ?_ (fun D hA env11 x j hj hD => match j, hj, hD with | 0, _, _ => rfl | 1, _, _ => rfl | 2, _, _ => rfl | 3, _, _ => rfl | 4, _, _ => rfl | 5, _, _ => rfl | 6, hj, _ => absurd rfl hj | 7, _, _ => rfl | 8, _, _ => rfl | 9, _, _ => rfl | _ + 10, _, _ => rfl) ?_
 · intro D env11 hA
   have e8 : D 8 = false := hA.no 8 _ rfl rfl
   have e9 : D 9 = false := hA.no 9 _ rfl rfl
   rcases Bool.eq_false_or_eq_true (D 7) with e7 | e7
   rotate_left
   · exact OpS.yp [(8, false), (9, false), (7, false), (6, false)] ⟨e8, e9, e7, hA.me, trivial⟩ (Want.plain rfl) (OpR.alloc rfl rfl (fun _ => rfl)) (fun x => rfl) (fun x => rfl)
   exact OpS.yp [(8, false), (9, false), (7, true), (6, false)] ⟨e8, e9, e7, hA.me, trivial⟩ (Want.plain rfl) (OpR.pick [0, 1, 2, 4, 3] (OpR.alloc rfl rfl (fun _ => rfl)) (fun _ => rfl) rfl) (fun x => rfl) (fun x => rfl)
 refine OpsS.cons' true ?_ (fun D hA env11 x j hj hD => match j, hj, hD with | 0, _, _ => rfl | 1, _, _ => rfl | 2, _, _ => rfl | 3, _, _ => rfl | 4, _, _ => rfl | 5, _, _ => rfl | 6, _, _ => rfl | 7, hj, _ => absurd rfl hj | 8, _, _ => rfl | 9, _, _ => rfl | _ + 10, _, _ => rfl) ?_
 · intro D env11 hA
   have e8 : D 8 = false := hA.no 8 _ rfl rfl
   have e9 : D 9 = false := hA.no 9 _ rfl rfl
   rcases Bool.eq_false_or_eq_true (D 6) with e6 | e6
   · exact OpS.yp [(8, false), (9, false), (6, true), (7, false)] ⟨e8, e9, e6, hA.me, trivial⟩ (Want.plain rfl) (OpR.alloc rfl rfl (fun _ => rfl)) (fun x => rfl) (fun x => rfl)
   exact OpS.yp [(8, false), (9, false), (6, false), (7, false)] ⟨e8, e9, e6, hA.me, trivial⟩ (Want.plain rfl) (OpR.alloc rfl rfl (fun _ => rfl)) (fun x => rfl) (fun x => rfl)
 refine OpsS.cons' true ?_ (fun _ _ _ _ _ _ _ => rfl) ?_
 · intro D env11 hA
   have e6 : D 6 = true := hA.yes 6 _ rfl rfl
   have e7 : D 7 = true := hA.yes 7 _ rfl rfl
   have e9 : D 9 = false := hA.no 9 _ rfl rfl
   exact OpS.yp [(6, true), (7, true), (9, false), (8, false)] ⟨e6, e7, e9, hA.me, trivial⟩ (Want.plain rfl) (OpR.store 3 rfl rfl rfl rfl rfl rfl rfl rfl) (fun x => rfl) (fun x => rfl)
 refine OpsS.cons' true ?_ (fun _ _ _ _ _ _ _ => rfl) ?_
 · intro D env11 hA
   have e6 : D 6 = true := hA.yes 6 _ rfl rfl
   have e7 : D 7 = true := hA.yes 7 _ rfl rfl
   have e8 : D 8 = true := hA.yes 8 _ rfl rfl
   exact OpS.yp [(6, true), (7, true), (8, true), (9, false)] ⟨e6, e7, e8, hA.me, trivial⟩ (Want.plain rfl) (OpR.store 4 rfl rfl rfl rfl rfl rfl rfl rfl) (fun x => rfl) (fun x => rfl)
 exact trivial
noncomputable def cols_Even_1 (a0 : row_Row) (a1 : Int) : Option Bool :=
  bnd (row_Row_Len a0) fun x2 =>
  some (!(x2 == a1))
theorem cols_Even_1_c {a0 : row_Row} {a1 : Int} {b0 : Nat} {res : Bool} (h0 : cols_Even_1 a0 a1 = some res) : CallF X 77 [.agg [.sl 5 (List.map e_cell_Cell a0.fCells), dN a0.fEnd, dT a0.fHidden], dP b0] [.var b0 [dN a1] 3] (fun x => (dT res)) (fun x => [.var b0 [dN a1] 3]) := by
 unfold cols_Even_1 at h0
 refine CallF.mkG (X := X) rfl Tryz.func77 rfl rfl Tryz.ntmps77 rfl rfl ?_
 refine aS ?_
 refine TL.op1 (OpR.boxImm rfl rfl) rfl ?_
 refine aA rfl rfl ?_
 refine aN rfl ?_
 refine T.seq ?_
 obtain ⟨x2, hx2, h0⟩ := bS h0
 refine T.drawQ drawsX [.agg [.sl 5 (List.map e_cell_Cell a0.fCells), dN a0.fEnd, dT a0.fHidden], dN x2, dN a1, dT (!(x2 == a1)), dT (!(x2 == a1))] [3] (by decide +kernel) rfl ?_ rfl ?_
 rotate_left
 · show T X _ _ _
   refine T.ret ?_
   obtain rfl := osi h0
   exact rO [0] [3] rfl undef (cT rfl ResL.nil) rfl rfl rfl rfl
 refine aB rfl rfl rfl ?_
 refine OpsQ.yes (Want.plain rfl) rfl (OpR.call0 fn25 (row_Row_Len_c hx2) rfl) ?_
 refine OpsQ.yes (Want.plain rfl) rfl (OpR.loadPtr 0 rfl rfl rfl rfl) ?_
 iterate 2 refine aB rfl rfl rfl ?_
 exact OpsQ.nil
noncomputable def walk_Index_row_Row_r0 (a0 : Int) (a1 : row_Row) (a2 : Int) (a3 : Int) : Option (Int ⊕ Unit) :=
  bnd (cols_Even_1 a1 a2) fun x32 =>
  if x32 = true then
    some (Sum.inl a0)
  else
    some (Sum.inr ())
theorem walk_Index_row_Row_r0_c {a0 : Int} {a1 : row_Row} {a2 : Int} {a3 : Int} {b0 : Nat} {b1 : Nat} {b2 : Nat} {res : Int ⊕ Unit} (h0 : walk_Index_row_Row_r0 a0 a1 a2 a3 = some res) : RoundF X b0 [dN a0, .agg [.sl 5 (List.map e_cell_Cell a1.fCells), dN a1.fEnd, dT a1.fHidden]] [.lp b0 .ready none [14, 15] rfA76_0 rfB76_0 [(6, (dP b2)), (5, .nod [.fn (.func 77) [] [dP b1]])] 20, .var b1 [dN a2] 3, .var b2 [dN a3] 3] (fun x => (match res with | .inl res => (dT false) | .inr res => (dT true))) (fun x => (match res with | .inl res => [.lp b0 .done (some (.ret)) [14, 15] rfA76_0 rfB76_0 [(6, (dP b2)), (5, .nod [.fn (.func 77) [] [dP b1]])] 20, .var b1 [dN a2] 3, .var b2 [dN res] 3] | .inr res => [.lp b0 .ready none [14, 15] rfA76_0 rfB76_0 [(6, (dP b2)), (5, .nod [.fn (.func 77) [] [dP b1]])] 20, .var b1 [dN a2] 3, .var b2 [dN a3] 3])) := by
 unfold walk_Index_row_Row_r0 at h0
 refine RoundF.mk (X := X) rfl rfl rfl ?_
 refine aS ?_
 refine aA rfl rfl ?_
 refine TL.nil ?_
 show T (X.inR b0) _ _ _
 refine T.region ?_
 refine TL.op (OpR.alloc rfl rfl (fun _ => rfl)) rfl (fun p31 => ?_)
 refine TL.op0 (OpR.store 3 rfl rfl rfl rfl rfl rfl rfl rfl) ?_
 refine TL.nil ?_
 refine RoundA.mk ?_
 refine T.block ?_
 refine aS ?_
 refine aA rfl rfl ?_
 refine TL.op1 (OpR.loadPtr 3 rfl rfl rfl rfl) rfl ?_
 obtain ⟨x32, hx32, h0⟩ := bS h0
 refine TL.op1 (OpR.callV [1] rfl fn77 (cols_Even_1_c hx32) rfl rfl rfl (fun _ => rfl)) rfl ?_
 refine TL.nil ?_
 show T (X.inR b0) _ _ _
 rcases ite_some h0 with ⟨c33, h0⟩ | ⟨c33, h0⟩
 rotate_left
 · refine T.condF rfl (eq_false_of_ne_true c33) ?_
   refine T.skip ?_
   obtain rfl := osi h0
   exact RoundG.mk (ks := [0, 1, 2]) (gP [] [0, 1, 2] rfl rfl rfl) undef rfl rfl rfl rfl rfl
 refine T.condT rfl (c33) ?_
 refine aS ?_
 refine aA rfl rfl ?_
 refine TL.op0 (OpR.store 2 rfl rfl rfl rfl rfl rfl rfl rfl) ?_
 refine TL.nil ?_
 show T (X.inR b0) _ _ _
 refine T.ret ?_
 obtain rfl := osi h0
 exact RoundG.mk (ks := [0, 1, 2]) (gP [] [0, 1, 2] rfl rfl rfl) undef rfl rfl rfl rfl rfl
theorem walk_Index_row_Row_r0_cx1 {a0 : Int} {a1 : row_Row} {a2 : Int} {a3 : Int} {b0 : Nat} {b1 : Nat} {b2 : Nat} {res : Int} (h0 : walk_Index_row_Row_r0 a0 a1 a2 a3 = some (Sum.inl res)) : RoundF X b0 [dN a0, .agg [.sl 5 (List.map e_cell_Cell a1.fCells), dN a1.fEnd, dT a1.fHidden]] [.lp b0 .ready none [14, 15] rfA76_0 rfB76_0 [(6, (dP b2)), (5, .nod [.fn (.func 77) [] [dP b1]])] 20, .var b1 [dN a2] 3, .var b2 [dN a3] 3] (fun x => (dT false)) (fun x => [.lp b0 .done (some (.ret)) [14, 15] rfA76_0 rfB76_0 [(6, (dP b2)), (5, .nod [.fn (.func 77) [] [dP b1]])] 20, .var b1 [dN a2] 3, .var b2 [dN res] 3]) := walk_Index_row_Row_r0_c h0
theorem walk_Index_row_Row_r0_cx2 {a0 : Int} {a1 : row_Row} {a2 : Int} {a3 : Int} {b0 : Nat} {b1 : Nat} {b2 : Nat} {res : Unit} (h0 : walk_Index_row_Row_r0 a0 a1 a2 a3 = some (Sum.inr res)) : RoundF X b0 [dN a0, .agg [.sl 5 (List.map e_cell_Cell a1.fCells), dN a1.fEnd, dT a1.fHidden]] [.lp b0 .ready none [14, 15] rfA76_0 rfB76_0 [(6, (dP b2)), (5, .nod [.fn (.func 77) [] [dP b1]])] 20, .var b1 [dN a2] 3, .var b2 [dN a3] 3] (fun x => (dT true)) (fun x => [.lp b0 .ready none [14, 15] rfA76_0 rfB76_0 [(6, (dP b2)), (5, .nod [.fn (.func 77) [] [dP b1]])] 20, .var b1 [dN a2] 3, .var b2 [dN a3] 3]) := walk_Index_row_Row_r0_c h0
end Go.Proofs.YtpmhiiemklhbhaaGreat.S
