/- Printed by a program of this session's own (gen.py): Lean functions for Go functions, and the proofs that the Go code comes to their answers. -/
import Derived.Test.YtpmhiiemklhbhaaGreatG1xa
set_option maxHeartbeats 4000000
set_option linter.unusedVariables false
set_option linter.unusedSimpArgs false
set_option maxRecDepth 20000
namespace Go.Proofs.YtpmhiiemklhbhaaGreat.S
open Go Go.Sm
attribute [local irreducible] T TL OpR CallT iter loop
noncomputable def slices_Clone_row_Row_row_Row (a0 : List row_Row) : Option (List row_Row) :=
  bnd (app 40 [] a0) fun x5 =>
  some x5
theorem slices_Clone_row_Row_row_Row_c {a0 : List row_Row} {res : (List row_Row)} (h0 : slices_Clone_row_Row_row_Row a0 = some res) : CallF X 191 [.sl 3 (List.map e_row_Row a0)] [] (fun x => .val (vn x 0)) (fun x => [.row (vn x 0) (List.map e_row_Row res) 3 49]) := by
 unfold slices_Clone_row_Row_row_Row at h0
 refine CallF.mkG (X := X) rfl Tryz.func191 rfl rfl Tryz.ntmps191 rfl rfl ?_
 refine aS ?_
 refine aA rfl rfl ?_
 refine aN rfl ?_
 refine T.seq ?_
 refine aS ?_
 refine aA rfl rfl ?_
 refine TL.isNil rfl rfl rfl rfl (fun b1 e2 => ?_)
 refine aN rfl ?_
 rcases Bool.eq_false_or_eq_true b1 with c3 | c3
 · obtain rfl := map_nil_of (e2 c3)
   rw [app_nil] at h0
   refine T.condT rfl (c3) ?_
   refine aS ?_
   refine aA rfl rfl ?_
   refine aN rfl ?_
   refine T.ret ?_
   obtain rfl := Option.some.inj h0
   exact PostG.retP (ks := [0]) (Gst.trans (Gst.only [2] rfl) (Gst.nilRow (ow := []) 3 49 rfl)) (.tuple #[(.slice none 0 0)]) (cT rfl ResL.nil) rfl rfl rfl rfl
 refine T.condF rfl (c3) ?_
 refine aK rfl ?_
 refine aS ?_
 refine TL.op (OpR.litRow rfl rfl rfl rfl rfl rfl rfl rfl (fun _ => rfl)) rfl (fun v4 => ?_)
 refine aA rfl rfl ?_
 obtain ⟨x5, hx5, h0⟩ := bS h0
 refine TL.op (OpR.appendM (m := a0) e_row_Row 0 hx5 rfl rfl rfl rfl rfl rfl rfl rfl rfl (fun _ => rfl)) rfl (fun v6 => ?_)
 refine aA rfl rfl ?_
 refine aN rfl ?_
 refine T.ret ?_
 obtain rfl := Option.some.inj h0
 exact rO [0] [2] rfl (.tuple #[v6]) (cT rfl ResL.nil) rfl rfl rfl rfl
noncomputable def tree_cuts_row_Row.l1 (s6 : (List row_Row) × Int × (List (List row_Row))) : Option (Lp ((List row_Row) × Int × (List (List row_Row))) (List (List row_Row))) :=
  if s6.2.1 > 0 then
    bnd (dvd (s6.1.length : Int) s6.2.1) fun x15 =>
    bnd (cut s6.1 0 x15) fun x16 =>
    bnd (slices_Clone_row_Row_row_Row x16) fun x17 =>
    bnd (app 24 s6.2.2 [x17]) fun x19 =>
    bnd (cut s6.1 x15 (s6.1.length : Int)) fun x21 =>
    some (Lp.next (x21, w64 (s6.2.1 - 1), x19))
  else
    some (Lp.done s6.2.2)
noncomputable def tree_cuts_row_Row (a0 : List row_Row) : Option (List (List row_Row)) :=
  bnd ((mkc 24 (w64 (quo (w64 ((w64 ((a0.length : Int) + 6)) - 1)) 5)) : Option (List (List row_Row)))) fun x1 =>
  bnd (loop tree_cuts_row_Row.l1 (a0, w64 (quo (w64 ((w64 ((a0.length : Int) + 6)) - 1)) 5), x1) : Option (List (List row_Row))) fun t3 =>
  some t3
theorem tree_cuts_row_Row_c {a0 : List row_Row} {res : (List (List row_Row))} (h0 : tree_cuts_row_Row a0 = some res) : CallF X 210 [.sl 3 (List.map e_row_Row a0)] [] (fun x => .sl 1 (List.map e_sl163 res)) (fun x => []) := by
 unfold tree_cuts_row_Row at h0
 refine CallF.mkG (X := X) rfl Tryz.func210 rfl rfl Tryz.ntmps210 rfl rfl ?_
 refine aS ?_
 refine aA rfl rfl ?_
 refine aN rfl ?_
 refine aS ?_
 refine aA rfl rfl ?_
 refine TL.op1 (OpR.cast (OpR.pure rfl) (intE (lenM _ _))) rfl ?_
 iterate 4 refine aA rfl rfl ?_
 refine aN rfl ?_
 refine aS ?_
 refine aA rfl rfl ?_
 obtain ⟨x1, hx1, h0⟩ := bS h0
 refine TL.op (OpR.makeC e_sl163 hx1 rfl rfl rfl rfl rfl rfl rfl (fun _ => rfl)) rfl (fun v2 => ?_)
 refine aA rfl rfl ?_
 refine aN rfl ?_
 refine T.seq ?_
 obtain ⟨t3, ht3, h0⟩ := bS h0
 refine T.cutC (fun S' => ∃ y4 : Value, S' = ⟨[(4, .val y4), (2, .val (.slice none 0 0))], [.row y4 (List.map e_sl163 t3) 1 163], 32⟩) (fun _ h => h) ?_ ?_
 rotate_left
 · rintro _ ⟨y4, rfl⟩
   show T X _ _ _
   refine aS ?_
   iterate 2 refine aA rfl rfl ?_
   refine aN rfl ?_
   refine T.ret ?_
   obtain rfl := Option.some.inj h0
   exact PostG.retP (ks := []) (Gst.trans (Gst.only [2] rfl) (Gst.trans (Gst.freezeRow 0 rfl rfl (ReS.cons (Re.base .all) ReS.nil) (ReO.same ReO.nil)) (Gst.pick [] rfl rfl))) undef (cT rfl ResL.nil) rfl rfl rfl rfl
 refine T.block ?_
 obtain ⟨n7, n12⟩ := loop_some ht3
 refine T.loop (fun n S' => ∃ S'', Gst S' S'' ∧ ∃ y5 : Value, ∃ s6 : (List row_Row) × Int × (List (List row_Row)), S'' = ⟨[(4, .val y5), (3, (dN s6.2.1)), (2, .val (.slice none 0 0)), (0, .sl 3 (List.map e_row_Row s6.1))], [.row y5 (List.map e_sl163 s6.2.2) 1 163], 32⟩ ∧ iter tree_cuts_row_Row.l1 n s6 = some t3) n7 ?_ ?_
 · exact ⟨_, Gst.only [0, 2, 3, 4] rfl, v2, (a0, w64 (quo (w64 ((w64 ((a0.length : Int) + 6)) - 1)) 5), x1), rfl, n12⟩
 rintro n7 _ ⟨_, g, y5, s6, rfl, i11⟩
 refine T.ghost g ?_
 obtain ⟨m8, q9, rfl, q10, i11⟩ := iter_succ i11
 unfold tree_cuts_row_Row.l1 at q10
 refine T.seq ?_
 refine aS ?_
 iterate 2 refine aA rfl rfl ?_
 refine aN rfl ?_
 rcases ite_some q10 with ⟨c14, q10⟩ | ⟨c14, q10⟩
 rotate_left
 · refine T.condF rfl (decide_eq_false c14) ?_
   refine T.exit ?_
   obtain rfl := Option.some.inj q10
   obtain rfl : _ = _ := i11
   exact ⟨_, Gst.only [2, 4] rfl, y5, rfl⟩
 refine T.condT rfl (decide_eq_true c14) ?_
 refine aK rfl ?_
 refine T.seq ?_
 refine T.block ?_
 refine aS ?_
 refine aA rfl rfl ?_
 refine TL.op1 (OpR.cast (OpR.pure rfl) (intE (lenM _ _))) rfl ?_
 refine aA rfl rfl ?_
 obtain ⟨x15, hx15, q10⟩ := bS q10
 refine TL.op1 (OpR.dvdM hx15 rfl rfl rfl) rfl ?_
 refine aA rfl rfl ?_
 refine aN rfl ?_
 refine aS ?_
 iterate 3 refine aA rfl rfl ?_
 obtain ⟨x16, hx16, q10⟩ := bS q10
 refine TL.op1 (OpR.sliceM (sz := 3) e_row_Row hx16 rfl rfl rfl rfl BdM.none (BdM.some rfl) rfl) rfl ?_
 obtain ⟨x17, hx17, q10⟩ := bS q10
 refine TL.op (OpR.call [] fn191 (slices_Clone_row_Row_row_Row_c hx17) rfl rfl rfl (fun _ => rfl)) rfl (fun w18 => ?_)
 refine TL.ghost (Gst.freezeRow 1 rfl rfl (ReS.cons (Re.base .all) (ReS.refl _)) (ReO.same (ReO.same ReO.nil))) ?_
 refine TL.op1 (OpR.lit rfl rfl rfl rfl rfl rfl rfl) rfl ?_
 obtain ⟨x19, hx19, q10⟩ := bS q10
 refine TL.op (OpR.appendM (m := [x17]) e_sl163 0 hx19 rfl rfl rfl rfl rfl rfl rfl rfl rfl (fun _ => rfl)) rfl (fun v20 => ?_)
 refine aA rfl rfl ?_
 refine aN rfl ?_
 refine T.region ?_
 iterate 2 refine aA rfl rfl ?_
 obtain ⟨x21, hx21, q10⟩ := bS q10
 refine TL.op1 (OpR.sliceM (sz := 3) e_row_Row hx21 rfl rfl rfl rfl (BdM.some rfl) BdM.none rfl) rfl ?_
 refine aA rfl rfl ?_
 refine aN rfl ?_
 refine T.region ?_
 iterate 3 refine aA rfl rfl ?_
 refine TL.nil ?_
 obtain rfl := Option.some.inj q10
 exact ⟨m8, Nat.lt_succ_self _, _, gP [0, 2, 3, 4] [0] rfl rfl rfl, v20, (x21, w64 (s6.2.1 - 1), x19), rfl, i11⟩
noncomputable def tree_leaf_row_Row (a0 : List row_Row) : Option ((List NP) × (List row_Row) × Int) :=
  some ([], a0, (a0.length : Int))
theorem tree_leaf_row_Row_c {a0 : List row_Row} {res : (List NP) × (List row_Row) × Int} (h0 : tree_leaf_row_Row a0 = some res) : CallF X 211 [.sl 3 (List.map e_row_Row a0)] [] (fun x => .nod [.sl 1 (List.map eNP res.1), .sl 3 (List.map e_row_Row res.2.1), dN res.2.2]) (fun x => []) := by
 unfold tree_leaf_row_Row at h0
 refine CallF.mkG (X := X) rfl Tryz.func211 rfl rfl Tryz.ntmps211 rfl rfl ?_
 refine aS ?_
 refine aA rfl rfl ?_
 refine aN rfl ?_
 refine aS ?_
 iterate 2 refine aA rfl rfl ?_
 refine TL.op1 (OpR.cast (OpR.pure rfl) (intE (lenM _ _))) rfl ?_
 refine TL.op1 (OpR.wk (d' := fun _ => .agg [.sl 1 (List.map eNP []), .sl 3 (List.map e_row_Row a0), dN (a0.length : Int)]) (OpR.build rfl rfl rfl rfl rfl) (fun _ => Re.agg (ReL.cons (Re.base .nil) (ReL.cons Re.refl (ReL.cons Re.refl ReL.nil))) (fun _ _ h => by cases h; exact ⟨_, rfl⟩))) rfl ?_
 refine TL.op (OpR.boxVar rfl rfl (fun _ => rfl)) rfl (fun p1 => ?_)
 refine aA rfl rfl ?_
 refine aN rfl ?_
 refine T.ghost (Gst.trans (Gst.only [2] rfl) (Gst.freezeVar 0 rfl rfl (ReS.cons (Re.base .all) ReS.nil) (ReO.same ReO.nil))) ?_
 refine T.ret ?_
 obtain rfl := Option.some.inj h0
 exact rP [] [2] [] rfl rfl rfl undef (cT rfl ResL.nil) rfl rfl rfl rfl
noncomputable def tree_leaves_row_Row.l1 (x1 : (List (List row_Row))) (s5 : Int × (List NP)) : Option (Lp (Int × (List NP)) (List NP)) :=
  if s5.1 < (x1.length : Int) then
    bnd (idx x1 s5.1) fun x14 =>
    bnd (tree_leaf_row_Row x14) fun x15 =>
    bnd (app 8 s5.2 [(c_tree_Node_damier_row_Row (⟨x15.1, x15.2.1, x15.2.2⟩ : tree_Node_damier_row_Row))]) fun x16 =>
    some (Lp.next (w64 (s5.1 + 1), x16))
  else
    some (Lp.done s5.2)
noncomputable def tree_leaves_row_Row (a0 : List row_Row) : Option (List NP) :=
  bnd (tree_cuts_row_Row a0) fun x1 =>
  bnd (loop (tree_leaves_row_Row.l1 x1) (0, []) : Option (List NP)) fun t2 =>
  some t2
theorem tree_leaves_row_Row_c {a0 : List row_Row} {res : (List NP)} (h0 : tree_leaves_row_Row a0 = some res) : CallF X 169 [.sl 3 (List.map e_row_Row a0)] [] (fun x => .sl 1 (List.map eNP res)) (fun x => []) := by
 unfold tree_leaves_row_Row at h0
 refine CallF.mkG (X := X) rfl Tryz.func169 rfl rfl Tryz.ntmps169 rfl rfl ?_
 refine aS ?_
 refine aA rfl rfl ?_
 refine aN rfl ?_
 refine aS ?_
 refine aA rfl rfl ?_
 refine aN rfl ?_
 refine T.seq ?_
 refine aS ?_
 refine aA rfl rfl ?_
 obtain ⟨x1, hx1, h0⟩ := bS h0
 refine TL.op1 (OpR.call0 fn210 (tree_cuts_row_Row_c hx1) rfl) rfl ?_
 refine TL.op1 (OpR.cast (OpR.pure rfl) (intE (lenM _ _))) rfl ?_
 refine aA rfl rfl ?_
 refine aN rfl ?_
 obtain ⟨t2, ht2, h0⟩ := bS h0
 refine T.cutC (fun S' => ∃ y3 : Value, S' = ⟨[(3, .val y3), (2, .val (.slice none 0 0))], [.row y3 (List.map eNP t2) 1 23], 20⟩) (fun _ h => h) ?_ ?_
 rotate_left
 · rintro _ ⟨y3, rfl⟩
   show T X _ _ _
   refine aS ?_
   iterate 2 refine aA rfl rfl ?_
   refine aN rfl ?_
   refine T.ret ?_
   obtain rfl := Option.some.inj h0
   exact PostG.retP (ks := []) (Gst.trans (Gst.only [2] rfl) (Gst.trans (Gst.freezeRow 0 rfl rfl (ReS.cons (Re.base .all) ReS.nil) (ReO.same ReO.nil)) (Gst.pick [] rfl rfl))) undef (cT rfl ResL.nil) rfl rfl rfl rfl
 refine T.block ?_
 obtain ⟨n6, n11⟩ := loop_some ht2
 refine T.loop (fun n S' => ∃ S'', Gst S' S'' ∧ ∃ y4 : Value, ∃ s5 : Int × (List NP), S'' = ⟨[(9, (dN s5.1)), (8, (dN (x1.length : Int))), (7, .sl 1 (List.map e_sl163 x1)), (3, .val y4), (2, .val (.slice none 0 0))], [.row y4 (List.map eNP s5.2) 1 23], 20⟩ ∧ iter (tree_leaves_row_Row.l1 x1) n s5 = some t2) n6 ?_ ?_
 · exact ⟨_, Gst.trans (Gst.only [2, 3, 7, 8, 9] rfl) (Gst.nilRow (ow := []) 1 23 rfl), (.slice none 0 0), (0, []), rfl, n11⟩
 rintro n6 _ ⟨_, g, y4, s5, rfl, i10⟩
 refine T.ghost g ?_
 obtain ⟨m7, q8, rfl, q9, i10⟩ := iter_succ i10
 unfold tree_leaves_row_Row.l1 at q9
 refine aS ?_
 refine aA rfl rfl ?_
 refine aN rfl ?_
 refine T.seq ?_
 rcases ite_some q9 with ⟨c13, q9⟩ | ⟨c13, q9⟩
 rotate_left
 · refine T.condF rfl (decide_eq_false c13) ?_
   refine T.exit ?_
   obtain rfl := Option.some.inj q9
   obtain rfl : _ = _ := i10
   exact ⟨_, Gst.only [2, 3] rfl, y4, rfl⟩
 refine T.condT rfl (decide_eq_true c13) ?_
 refine aK rfl ?_
 refine T.seq ?_
 refine T.block ?_
 refine aS ?_
 obtain ⟨x14, hx14, q9⟩ := bS q9
 refine TL.op1 (OpR.indexM e_sl163 hx14 rfl rfl rfl rfl rfl) rfl ?_
 iterate 2 refine aA rfl rfl ?_
 refine aN rfl ?_
 refine T.region ?_
 iterate 2 refine aA rfl rfl ?_
 obtain ⟨x15, hx15, q9⟩ := bS q9
 refine TL.op1 (OpR.call0 fn211 (tree_leaf_row_Row_c hx15) rfl) rfl ?_
 refine TL.op1 (OpR.lit rfl rfl rfl rfl rfl rfl rfl) rfl ?_
 obtain ⟨x16, hx16, q9⟩ := bS q9
 refine TL.op (OpR.appendM (m := [(c_tree_Node_damier_row_Row (⟨x15.1, x15.2.1, x15.2.2⟩ : tree_Node_damier_row_Row))]) eNP 0 hx16 rfl rfl rfl rfl rfl rfl rfl rfl rfl (fun _ => rfl)) rfl (fun v17 => ?_)
 refine aA rfl rfl ?_
 refine aN rfl ?_
 refine T.region ?_
 iterate 2 refine aA rfl rfl ?_
 refine TL.nil ?_
 obtain rfl := Option.some.inj q9
 exact ⟨m7, Nat.lt_succ_self _, _, Gst.only [2, 3, 7, 8, 9] rfl, v17, (w64 (s5.1 + 1), x16), rfl, i10⟩
noncomputable def slices_Clone_tree_Node_row_Row_tree_Node_row_Row (a0 : List NP) : Option (List NP) :=
  bnd (app 8 [] a0) fun x5 =>
  some x5
theorem slices_Clone_tree_Node_row_Row_tree_Node_row_Row_c {a0 : List NP} {res : (List NP)} (h0 : slices_Clone_tree_Node_row_Row_tree_Node_row_Row a0 = some res) : CallF X 262 [.sl 1 (List.map eNP a0)] [] (fun x => .val (vn x 0)) (fun x => [.row (vn x 0) (List.map eNP res) 1 23]) := by
 unfold slices_Clone_tree_Node_row_Row_tree_Node_row_Row at h0
 refine CallF.mkG (X := X) rfl Tryz.func262 rfl rfl Tryz.ntmps262 rfl rfl ?_
 refine aS ?_
 refine aA rfl rfl ?_
 refine aN rfl ?_
 refine T.seq ?_
 refine aS ?_
 refine aA rfl rfl ?_
 refine TL.isNil rfl rfl rfl rfl (fun b1 e2 => ?_)
 refine aN rfl ?_
 rcases Bool.eq_false_or_eq_true b1 with c3 | c3
 · obtain rfl := map_nil_of (e2 c3)
   rw [app_nil] at h0
   refine T.condT rfl (c3) ?_
   refine aS ?_
   refine aA rfl rfl ?_
   refine aN rfl ?_
   refine T.ret ?_
   obtain rfl := Option.some.inj h0
   exact PostG.retP (ks := [0]) (Gst.trans (Gst.only [2] rfl) (Gst.nilRow (ow := []) 1 23 rfl)) (.tuple #[(.slice none 0 0)]) (cT rfl ResL.nil) rfl rfl rfl rfl
 refine T.condF rfl (c3) ?_
 refine aK rfl ?_
 refine aS ?_
 refine TL.op (OpR.litRow rfl rfl rfl rfl rfl rfl rfl rfl (fun _ => rfl)) rfl (fun v4 => ?_)
 refine aA rfl rfl ?_
 obtain ⟨x5, hx5, h0⟩ := bS h0
 refine TL.op (OpR.appendM (m := a0) eNP 0 hx5 rfl rfl rfl rfl rfl rfl rfl rfl rfl (fun _ => rfl)) rfl (fun v6 => ?_)
 refine aA rfl rfl ?_
 refine aN rfl ?_
 refine T.ret ?_
 obtain rfl := Option.some.inj h0
 exact rO [0] [2] rfl (.tuple #[v6]) (cT rfl ResL.nil) rfl rfl rfl rfl
noncomputable def tree_cuts_tree_Node_row_Row.l1 (s6 : (List NP) × Int × (List (List NP))) : Option (Lp ((List NP) × Int × (List (List NP))) (List (List NP))) :=
  if s6.2.1 > 0 then
    bnd (dvd (s6.1.length : Int) s6.2.1) fun x15 =>
    bnd (cut s6.1 0 x15) fun x16 =>
    bnd (slices_Clone_tree_Node_row_Row_tree_Node_row_Row x16) fun x17 =>
    bnd (app 24 s6.2.2 [x17]) fun x19 =>
    bnd (cut s6.1 x15 (s6.1.length : Int)) fun x21 =>
    some (Lp.next (x21, w64 (s6.2.1 - 1), x19))
  else
    some (Lp.done s6.2.2)
noncomputable def tree_cuts_tree_Node_row_Row (a0 : List NP) : Option (List (List NP)) :=
  bnd ((mkc 24 (w64 (quo (w64 ((w64 ((a0.length : Int) + 6)) - 1)) 5)) : Option (List (List NP)))) fun x1 =>
  bnd (loop tree_cuts_tree_Node_row_Row.l1 (a0, w64 (quo (w64 ((w64 ((a0.length : Int) + 6)) - 1)) 5), x1) : Option (List (List NP))) fun t3 =>
  some t3
theorem tree_cuts_tree_Node_row_Row_c {a0 : List NP} {res : (List (List NP))} (h0 : tree_cuts_tree_Node_row_Row a0 = some res) : CallF X 235 [.sl 1 (List.map eNP a0)] [] (fun x => .sl 1 (List.map e_sl221 res)) (fun x => []) := by
 unfold tree_cuts_tree_Node_row_Row at h0
 refine CallF.mkG (X := X) rfl Tryz.func235 rfl rfl Tryz.ntmps235 rfl rfl ?_
 refine aS ?_
 refine aA rfl rfl ?_
 refine aN rfl ?_
 refine aS ?_
 refine aA rfl rfl ?_
 refine TL.op1 (OpR.cast (OpR.pure rfl) (intE (lenM _ _))) rfl ?_
 iterate 4 refine aA rfl rfl ?_
 refine aN rfl ?_
 refine aS ?_
 refine aA rfl rfl ?_
 obtain ⟨x1, hx1, h0⟩ := bS h0
 refine TL.op (OpR.makeC e_sl221 hx1 rfl rfl rfl rfl rfl rfl rfl (fun _ => rfl)) rfl (fun v2 => ?_)
 refine aA rfl rfl ?_
 refine aN rfl ?_
 refine T.seq ?_
 obtain ⟨t3, ht3, h0⟩ := bS h0
 refine T.cutC (fun S' => ∃ y4 : Value, S' = ⟨[(4, .val y4), (2, .val (.slice none 0 0))], [.row y4 (List.map e_sl221 t3) 1 221], 32⟩) (fun _ h => h) ?_ ?_
 rotate_left
 · rintro _ ⟨y4, rfl⟩
   show T X _ _ _
   refine aS ?_
   iterate 2 refine aA rfl rfl ?_
   refine aN rfl ?_
   refine T.ret ?_
   obtain rfl := Option.some.inj h0
   exact PostG.retP (ks := []) (Gst.trans (Gst.only [2] rfl) (Gst.trans (Gst.freezeRow 0 rfl rfl (ReS.cons (Re.base .all) ReS.nil) (ReO.same ReO.nil)) (Gst.pick [] rfl rfl))) undef (cT rfl ResL.nil) rfl rfl rfl rfl
 refine T.block ?_
 obtain ⟨n7, n12⟩ := loop_some ht3
 refine T.loop (fun n S' => ∃ S'', Gst S' S'' ∧ ∃ y5 : Value, ∃ s6 : (List NP) × Int × (List (List NP)), S'' = ⟨[(4, .val y5), (3, (dN s6.2.1)), (2, .val (.slice none 0 0)), (0, .sl 1 (List.map eNP s6.1))], [.row y5 (List.map e_sl221 s6.2.2) 1 221], 32⟩ ∧ iter tree_cuts_tree_Node_row_Row.l1 n s6 = some t3) n7 ?_ ?_
 · exact ⟨_, Gst.only [0, 2, 3, 4] rfl, v2, (a0, w64 (quo (w64 ((w64 ((a0.length : Int) + 6)) - 1)) 5), x1), rfl, n12⟩
 rintro n7 _ ⟨_, g, y5, s6, rfl, i11⟩
 refine T.ghost g ?_
 obtain ⟨m8, q9, rfl, q10, i11⟩ := iter_succ i11
 unfold tree_cuts_tree_Node_row_Row.l1 at q10
 refine T.seq ?_
 refine aS ?_
 iterate 2 refine aA rfl rfl ?_
 refine aN rfl ?_
 rcases ite_some q10 with ⟨c14, q10⟩ | ⟨c14, q10⟩
 rotate_left
 · refine T.condF rfl (decide_eq_false c14) ?_
   refine T.exit ?_
   obtain rfl := Option.some.inj q10
   obtain rfl : _ = _ := i11
   exact ⟨_, Gst.only [2, 4] rfl, y5, rfl⟩
 refine T.condT rfl (decide_eq_true c14) ?_
 refine aK rfl ?_
 refine T.seq ?_
 refine T.block ?_
 refine aS ?_
 refine aA rfl rfl ?_
 refine TL.op1 (OpR.cast (OpR.pure rfl) (intE (lenM _ _))) rfl ?_
 refine aA rfl rfl ?_
 obtain ⟨x15, hx15, q10⟩ := bS q10
 refine TL.op1 (OpR.dvdM hx15 rfl rfl rfl) rfl ?_
 refine aA rfl rfl ?_
 refine aN rfl ?_
 refine aS ?_
 iterate 3 refine aA rfl rfl ?_
 obtain ⟨x16, hx16, q10⟩ := bS q10
 refine TL.op1 (OpR.sliceM (sz := 1) eNP hx16 rfl rfl rfl rfl BdM.none (BdM.some rfl) rfl) rfl ?_
 obtain ⟨x17, hx17, q10⟩ := bS q10
 refine TL.op (OpR.call [] fn262 (slices_Clone_tree_Node_row_Row_tree_Node_row_Row_c hx17) rfl rfl rfl (fun _ => rfl)) rfl (fun w18 => ?_)
 refine TL.ghost (Gst.freezeRow 1 rfl rfl (ReS.cons (Re.base .all) (ReS.refl _)) (ReO.same (ReO.same ReO.nil))) ?_
 refine TL.op1 (OpR.lit rfl rfl rfl rfl rfl rfl rfl) rfl ?_
 obtain ⟨x19, hx19, q10⟩ := bS q10
 refine TL.op (OpR.appendM (m := [x17]) e_sl221 0 hx19 rfl rfl rfl rfl rfl rfl rfl rfl rfl (fun _ => rfl)) rfl (fun v20 => ?_)
 refine aA rfl rfl ?_
 refine aN rfl ?_
 refine T.region ?_
 iterate 2 refine aA rfl rfl ?_
 obtain ⟨x21, hx21, q10⟩ := bS q10
 refine TL.op1 (OpR.sliceM (sz := 1) eNP hx21 rfl rfl rfl rfl (BdM.some rfl) BdM.none rfl) rfl ?_
 refine aA rfl rfl ?_
 refine aN rfl ?_
 refine T.region ?_
 iterate 3 refine aA rfl rfl ?_
 refine TL.nil ?_
 obtain rfl := Option.some.inj q10
 exact ⟨m8, Nat.lt_succ_self _, _, gP [0, 2, 3, 4] [0] rfl rfl rfl, v20, (x21, w64 (s6.2.1 - 1), x19), rfl, i11⟩
noncomputable def tree_inner_row_Row.l1 (a0 : List NP) (s3 : Int × Int) : Option (Lp (Int × Int) Int) :=
  if s3.1 < (a0.length : Int) then
    bnd (idx a0 s3.1) fun x12 =>
    bnd (o_tree_Node_damier_row_Row x12) fun x13 =>
    some (Lp.next (w64 (s3.1 + 1), w64 (s3.2 + x13.fN)))
  else
    some (Lp.done s3.2)
noncomputable def tree_inner_row_Row (a0 : List NP) : Option ((List NP) × (List row_Row) × Int) :=
  bnd (loop (tree_inner_row_Row.l1 a0) (0, 0) : Option Int) fun t2 =>
  some (a0, [], t2)
theorem tree_inner_row_Row_c {a0 : List NP} {res : (List NP) × (List row_Row) × Int} (h0 : tree_inner_row_Row a0 = some res) : CallF X 236 [.sl 1 (List.map eNP a0)] [] (fun x => .nod [.sl 1 (List.map eNP res.1), .sl 3 (List.map e_row_Row res.2.1), dN res.2.2]) (fun x => []) := by
 unfold tree_inner_row_Row at h0
 refine CallF.mkG (X := X) rfl Tryz.func236 rfl rfl Tryz.ntmps236 rfl rfl ?_
 refine aS ?_
 refine aA rfl rfl ?_
 refine aN rfl ?_
 refine aS ?_
 refine aA rfl rfl ?_
 refine TL.op1 (OpR.wk (d' := fun _ => .agg [.sl 1 (List.map eNP a0), .sl 3 (List.map e_row_Row []), dN 0]) (OpR.build rfl rfl rfl rfl rfl) (fun _ => Re.agg (ReL.cons Re.refl (ReL.cons (Re.base .nil) (ReL.cons Re.refl ReL.nil))) (fun _ _ h => by cases h; exact ⟨_, rfl⟩))) rfl ?_
 refine TL.op (OpR.boxVar rfl rfl (fun _ => rfl)) rfl (fun p1 => ?_)
 refine aA rfl rfl ?_
 refine aN rfl ?_
 refine T.seq ?_
 refine aS ?_
 refine aA rfl rfl ?_
 refine TL.op1 (OpR.cast (OpR.pure rfl) (intE (lenM _ _))) rfl ?_
 refine aA rfl rfl ?_
 refine aN rfl ?_
 obtain ⟨t2, ht2, h0⟩ := bS h0
 refine T.cutC (fun S' => S' = ⟨[(3, (dP (blk p1))), (2, dQ)], [.var (blk p1) [.sl 1 (List.map eNP a0), .sl 3 (List.map e_row_Row []), dN t2] 223], 28⟩) (fun _ h => h) ?_ ?_
 rotate_left
 · rintro _ rfl
   show T X _ _ _
   refine aS ?_
   iterate 2 refine aA rfl rfl ?_
   refine aN rfl ?_
   refine T.ghost (Gst.trans (Gst.only [2] rfl) (Gst.freezeVar 0 rfl rfl (ReS.cons (Re.base .all) ReS.nil) (ReO.same ReO.nil))) ?_
   refine T.ret ?_
   obtain rfl := Option.some.inj h0
   exact rP [] [2] [] rfl rfl rfl undef (cT rfl ResL.nil) rfl rfl rfl rfl
 refine T.block ?_
 obtain ⟨n4, n9⟩ := loop_some ht2
 refine T.loop (fun n S' => ∃ S'', Gst S' S'' ∧ ∃ s3 : Int × Int, S'' = ⟨[(11, (dN s3.1)), (10, (dN (a0.length : Int))), (9, .sl 1 (List.map eNP a0)), (3, (dP (blk p1))), (2, dQ)], [.var (blk p1) [.sl 1 (List.map eNP a0), .sl 3 (List.map e_row_Row []), dN s3.2] 223], 28⟩ ∧ iter (tree_inner_row_Row.l1 a0) n s3 = some t2) n4 ?_ ?_
 · exact ⟨_, Gst.only [2, 3, 9, 10, 11] rfl, (0, 0), rfl, n9⟩
 rintro n4 _ ⟨_, g, s3, rfl, i8⟩
 refine T.ghost g ?_
 obtain ⟨m5, q6, rfl, q7, i8⟩ := iter_succ i8
 unfold tree_inner_row_Row.l1 at q7
 refine aS ?_
 refine aA rfl rfl ?_
 refine aN rfl ?_
 refine T.seq ?_
 rcases ite_some q7 with ⟨c11, q7⟩ | ⟨c11, q7⟩
 rotate_left
 · refine T.condF rfl (decide_eq_false c11) ?_
   refine T.exit ?_
   obtain rfl := Option.some.inj q7
   obtain rfl : _ = _ := i8
   exact ⟨_, Gst.only [2, 3] rfl, rfl⟩
 refine T.condT rfl (decide_eq_true c11) ?_
 refine aK rfl ?_
 refine T.seq ?_
 refine T.block ?_
 refine aS ?_
 obtain ⟨x12, hx12, q7⟩ := bS q7
 obtain ⟨x13, hx13, q7⟩ := bS q7
 rw [o_tree_Node_damier_row_Row_eq hx13] at hx12
 refine TL.op1 (OpR.indexM eNP hx12 rfl rfl rfl rfl rfl) rfl ?_
 iterate 2 refine aA rfl rfl ?_
 refine aN rfl ?_
 refine T.drawS drawsX (fun env14 => [dP (blk p1), dP (blk p1), .val (.pointer (some ⟨(blk p1), 2, none⟩)), dN s3.2, .nod [.sl 1 (List.map eNP x13.fKids), .sl 3 (List.map e_row_Row x13.fItems), dN x13.fN], .nod [.sl 1 (List.map eNP x13.fKids), .sl 3 (List.map e_row_Row x13.fItems), dN x13.fN], .nod [dN x13.fN], dN x13.fN, dN (w64 (s3.2 + x13.fN)), dP (blk p1), .val (.pointer (some ⟨(blk p1), 2, none⟩)), .dead]) (fun D env14 => [(bif D 11 then .var (blk p1) [.sl 1 (List.map eNP a0), .sl 3 (List.map e_row_Row []), dN (w64 (s3.2 + x13.fN))] 223 else .var (blk p1) [.sl 1 (List.map eNP a0), .sl 3 (List.map e_row_Row []), dN s3.2] 223)]) [0, 1, 3, 7, 0, 16, 48, 112, 255, 511, 1023, 2047] [2, 3, 9, 10, 11] _ (by decide +kernel) (by decide +kernel) (fun _ => rfl) (fun _ => rfl) ?_ (fun _ => rfl) (fun _ => rfl) ?_
 rotate_left
 · intro env14
   show T X _ _ _
   refine T.region ?_
   iterate 2 refine aA rfl rfl ?_
   refine TL.nil ?_
   obtain rfl := Option.some.inj q7
   exact ⟨m5, Nat.lt_succ_self _, _, Gst.only [2, 3, 9, 10, 11] rfl, (w64 (s3.1 + 1), w64 (s3.2 + x13.fN)), rfl, i8⟩
 iterate 3 refine aC ?_
 refine OpsS.cons' true ?_ (fun _ _ _ _ _ _ _ => rfl) ?_
 · intro D env14 hA
   have e11 : D 11 = false := hA.no 11 _ rfl rfl
   exact OpS.yp [(11, false)] ⟨e11, trivial⟩ (Want.plain rfl) (OpR.loadPtr 0 rfl rfl rfl rfl) (fun x => rfl) (fun x => rfl)
 iterate 7 refine aC ?_
 refine OpsS.cons' true ?_ (fun _ _ _ _ _ _ _ => rfl) ?_
 · intro D env14 hA
   exact OpS.yp [(11, false)] ⟨hA.me, trivial⟩ (Want.plain rfl) (OpR.store 0 rfl rfl rfl rfl rfl rfl rfl rfl) (fun x => rfl) (fun x => rfl)
 exact trivial
noncomputable def tree_inners_row_Row.l1 (x1 : (List (List NP))) (s5 : Int × (List NP)) : Option (Lp (Int × (List NP)) (List NP)) :=
  if s5.1 < (x1.length : Int) then
    bnd (idx x1 s5.1) fun x14 =>
    bnd (tree_inner_row_Row x14) fun x15 =>
    bnd (app 8 s5.2 [(c_tree_Node_damier_row_Row (⟨x15.1, x15.2.1, x15.2.2⟩ : tree_Node_damier_row_Row))]) fun x16 =>
    some (Lp.next (w64 (s5.1 + 1), x16))
  else
    some (Lp.done s5.2)
noncomputable def tree_inners_row_Row (a0 : List NP) : Option (List NP) :=
  bnd (tree_cuts_tree_Node_row_Row a0) fun x1 =>
  bnd (loop (tree_inners_row_Row.l1 x1) (0, []) : Option (List NP)) fun t2 =>
  some t2
theorem tree_inners_row_Row_c {a0 : List NP} {res : (List NP)} (h0 : tree_inners_row_Row a0 = some res) : CallF X 209 [.sl 1 (List.map eNP a0)] [] (fun x => .sl 1 (List.map eNP res)) (fun x => []) := by
 unfold tree_inners_row_Row at h0
 refine CallF.mkG (X := X) rfl Tryz.func209 rfl rfl Tryz.ntmps209 rfl rfl ?_
 refine aS ?_
 refine aA rfl rfl ?_
 refine aN rfl ?_
 refine aS ?_
 refine aA rfl rfl ?_
 refine aN rfl ?_
 refine T.seq ?_
 refine aS ?_
 refine aA rfl rfl ?_
 obtain ⟨x1, hx1, h0⟩ := bS h0
 refine TL.op1 (OpR.call0 fn235 (tree_cuts_tree_Node_row_Row_c hx1) rfl) rfl ?_
 refine TL.op1 (OpR.cast (OpR.pure rfl) (intE (lenM _ _))) rfl ?_
 refine aA rfl rfl ?_
 refine aN rfl ?_
 obtain ⟨t2, ht2, h0⟩ := bS h0
 refine T.cutC (fun S' => ∃ y3 : Value, S' = ⟨[(3, .val y3), (2, .val (.slice none 0 0))], [.row y3 (List.map eNP t2) 1 23], 20⟩) (fun _ h => h) ?_ ?_
 rotate_left
 · rintro _ ⟨y3, rfl⟩
   show T X _ _ _
   refine aS ?_
   iterate 2 refine aA rfl rfl ?_
   refine aN rfl ?_
   refine T.ret ?_
   obtain rfl := Option.some.inj h0
   exact PostG.retP (ks := []) (Gst.trans (Gst.only [2] rfl) (Gst.trans (Gst.freezeRow 0 rfl rfl (ReS.cons (Re.base .all) ReS.nil) (ReO.same ReO.nil)) (Gst.pick [] rfl rfl))) undef (cT rfl ResL.nil) rfl rfl rfl rfl
 refine T.block ?_
 obtain ⟨n6, n11⟩ := loop_some ht2
 refine T.loop (fun n S' => ∃ S'', Gst S' S'' ∧ ∃ y4 : Value, ∃ s5 : Int × (List NP), S'' = ⟨[(9, (dN s5.1)), (8, (dN (x1.length : Int))), (7, .sl 1 (List.map e_sl221 x1)), (3, .val y4), (2, .val (.slice none 0 0))], [.row y4 (List.map eNP s5.2) 1 23], 20⟩ ∧ iter (tree_inners_row_Row.l1 x1) n s5 = some t2) n6 ?_ ?_
 · exact ⟨_, Gst.trans (Gst.only [2, 3, 7, 8, 9] rfl) (Gst.nilRow (ow := []) 1 23 rfl), (.slice none 0 0), (0, []), rfl, n11⟩
 rintro n6 _ ⟨_, g, y4, s5, rfl, i10⟩
 refine T.ghost g ?_
 obtain ⟨m7, q8, rfl, q9, i10⟩ := iter_succ i10
 unfold tree_inners_row_Row.l1 at q9
 refine aS ?_
 refine aA rfl rfl ?_
 refine aN rfl ?_
 refine T.seq ?_
 rcases ite_some q9 with ⟨c13, q9⟩ | ⟨c13, q9⟩
 rotate_left
 · refine T.condF rfl (decide_eq_false c13) ?_
   refine T.exit ?_
   obtain rfl := Option.some.inj q9
   obtain rfl : _ = _ := i10
   exact ⟨_, Gst.only [2, 3] rfl, y4, rfl⟩
 refine T.condT rfl (decide_eq_true c13) ?_
 refine aK rfl ?_
 refine T.seq ?_
 refine T.block ?_
 refine aS ?_
 obtain ⟨x14, hx14, q9⟩ := bS q9
 refine TL.op1 (OpR.indexM e_sl221 hx14 rfl rfl rfl rfl rfl) rfl ?_
 iterate 2 refine aA rfl rfl ?_
 refine aN rfl ?_
 refine T.region ?_
 iterate 2 refine aA rfl rfl ?_
 obtain ⟨x15, hx15, q9⟩ := bS q9
 refine TL.op1 (OpR.call0 fn236 (tree_inner_row_Row_c hx15) rfl) rfl ?_
 refine TL.op1 (OpR.lit rfl rfl rfl rfl rfl rfl rfl) rfl ?_
 obtain ⟨x16, hx16, q9⟩ := bS q9
 refine TL.op (OpR.appendM (m := [(c_tree_Node_damier_row_Row (⟨x15.1, x15.2.1, x15.2.2⟩ : tree_Node_damier_row_Row))]) eNP 0 hx16 rfl rfl rfl rfl rfl rfl rfl rfl rfl (fun _ => rfl)) rfl (fun v17 => ?_)
 refine aA rfl rfl ?_
 refine aN rfl ?_
 refine T.region ?_
 iterate 2 refine aA rfl rfl ?_
 refine TL.nil ?_
 obtain rfl := Option.some.inj q9
 exact ⟨m7, Nat.lt_succ_self _, _, Gst.only [2, 3, 7, 8, 9] rfl, v17, (w64 (s5.1 + 1), x16), rfl, i10⟩
noncomputable def tree_above_row_Row.l1 (s3 : (List NP)) : Option (Lp (List NP) (List NP)) :=
  if (s3.length : Int) > 1 then
    bnd (tree_inners_row_Row s3) fun x12 =>
    some (Lp.next x12)
  else
    some (Lp.done s3)
noncomputable def tree_above_row_Row.l2 (s21 : (List NP) × (List row_Row) × Int) : Option (Lp ((List NP) × (List row_Row) × Int) ((List NP) × (List row_Row) × Int)) :=
  if (s21.1.length : Int) = 1 then
    bnd (idx s21.1 0) fun x30 =>
    bnd (o_tree_Node_damier_row_Row x30) fun x31 =>
    some (Lp.next (x31.fKids, x31.fItems, x31.fN))
  else
    some (Lp.done (s21.1, s21.2.1, s21.2.2))
noncomputable def tree_above_row_Row (a0 : List NP) : Option tree_Tree_damier_row_Row :=
  bnd (loop tree_above_row_Row.l1 a0 : Option (List NP)) fun t2 =>
  bnd (if (t2.length : Int) = 0 then
    some true
  else
    bnd (idx t2 0) fun x15 =>
    bnd (o_tree_Node_damier_row_Row x15) fun x16 =>
    some (x16.fN == 0) : Option Bool) fun t13 =>
  if t13 = true then
    some (⟨none⟩ : tree_Tree_damier_row_Row)
  else
    bnd (idx t2 0) fun x18 =>
    bnd (o_tree_Node_damier_row_Row x18) fun x19 =>
    bnd (loop tree_above_row_Row.l2 (x19.fKids, x19.fItems, x19.fN) : Option ((List NP) × (List row_Row) × Int)) fun t20 =>
    some (⟨(some (c_tree_Node_damier_row_Row (⟨t20.1, t20.2.1, t20.2.2⟩ : tree_Node_damier_row_Row)))⟩ : tree_Tree_damier_row_Row)
theorem tree_above_row_Row_c {a0 : List NP} {res : tree_Tree_damier_row_Row} (h0 : tree_above_row_Row a0 = some res) : CallF X 168 [.sl 1 (List.map eNP a0)] [] (fun x => .agg [(eOP res.fRoot)]) (fun x => []) := by
 unfold tree_above_row_Row at h0
 refine CallF.mkG (X := X) rfl Tryz.func168 rfl rfl Tryz.ntmps168 rfl rfl ?_
 refine aS ?_
 refine TL.op (OpR.alloc rfl rfl (fun _ => rfl)) rfl (fun p1 => ?_)
 refine aN rfl ?_
 refine T.seq ?_
 obtain ⟨t2, ht2, h0⟩ := bS h0
 refine T.cutC (fun S' => S' = ⟨[(2, (dP (blk p1))), (0, .sl 1 (List.map eNP t2))], [.var (blk p1) [(eOP none)] 25], 39⟩) (fun _ h => h) ?_ ?_
 · refine T.block ?_
   obtain ⟨n4, n9⟩ := loop_some ht2
   refine T.loop (fun n S' => ∃ S'', Gst S' S'' ∧ ∃ s3 : (List NP), S'' = ⟨[(2, (dP (blk p1))), (0, .sl 1 (List.map eNP s3))], [.var (blk p1) [(eOP none)] 25], 39⟩ ∧ iter tree_above_row_Row.l1 n s3 = some t2) n4 ?_ ?_
   · exact ⟨_, Gst.only [0, 2] rfl, a0, rfl, n9⟩
   rintro n4 _ ⟨_, g, s3, rfl, i8⟩
   refine T.ghost g ?_
   obtain ⟨m5, q6, rfl, q7, i8⟩ := iter_succ i8
   unfold tree_above_row_Row.l1 at q7
   refine T.seq ?_
   refine aS ?_
   refine aA rfl rfl ?_
   refine TL.op1 (OpR.cast (OpR.pure rfl) (intE (lenM _ _))) rfl ?_
   refine aA rfl rfl ?_
   refine aN rfl ?_
   rcases ite_some q7 with ⟨c11, q7⟩ | ⟨c11, q7⟩
   rotate_left
   · refine T.condF rfl (decide_eq_false c11) ?_
     refine T.exit ?_
     obtain rfl := Option.some.inj q7
     obtain rfl : _ = _ := i8
     exact ⟨_, Gst.only [0, 2] rfl, rfl⟩
   refine T.condT rfl (decide_eq_true c11) ?_
   refine aK rfl ?_
   refine T.block ?_
   refine T.region ?_
   refine aA rfl rfl ?_
   obtain ⟨x12, hx12, q7⟩ := bS q7
   refine TL.op1 (OpR.call0 fn209 (tree_inners_row_Row_c hx12) rfl) rfl ?_
   refine aA rfl rfl ?_
   refine TL.nil ?_
   obtain rfl := Option.some.inj q7
   exact ⟨m5, Nat.lt_succ_self _, _, Gst.only [0, 2] rfl, x12, rfl, i8⟩
 rintro _ rfl
 show T X _ _ _
 refine T.seq ?_
 refine T.seq ?_
 obtain ⟨t13, ht13, h0⟩ := bS h0
 refine T.cutC (fun S' => S' = ⟨[(20, (dT t13)), (2, (dP (blk p1))), (0, .sl 1 (List.map eNP t2))], [.var (blk p1) [(eOP none)] 25], 39⟩) (fun _ h => h) ?_ ?_
 · refine T.region ?_
   refine aA rfl rfl ?_
   refine TL.op1 (OpR.cast (OpR.pure rfl) (intE (lenM _ _))) rfl ?_
   iterate 2 refine aA rfl rfl ?_
   rcases ite_some ht13 with ⟨c14, ht13⟩ | ⟨c14, ht13⟩
   · refine TL.off rfl rfl rfl rfl (beq_iff_eq.2 c14) rfl rfl ?_
     refine TL.off rfl rfl rfl rfl (beq_iff_eq.2 c14) rfl rfl ?_
     refine TL.off rfl rfl rfl rfl (beq_iff_eq.2 c14) rfl rfl ?_
     refine TL.off rfl rfl rfl rfl (beq_iff_eq.2 c14) rfl rfl ?_
     refine TL.off rfl rfl rfl rfl (beq_iff_eq.2 c14) rfl rfl ?_
     refine TL.off rfl rfl rfl rfl (beq_iff_eq.2 c14) rfl rfl ?_
     refine TL.off rfl rfl rfl rfl (beq_iff_eq.2 c14) rfl rfl ?_
     refine TL.op1 (OpR.pickT rfl (beq_iff_eq.2 c14) rfl) rfl ?_
     refine TL.nil ?_
     obtain rfl := Option.some.inj ht13
     exact ⟨_, Gst.only [0, 2, 20] rfl, rfl⟩
   refine TL.on rfl rfl rfl rfl (beq_eq_false_iff_ne.2 c14) ?_
   refine aA rfl rfl ?_
   refine TL.on rfl rfl rfl rfl (beq_eq_false_iff_ne.2 c14) ?_
   obtain ⟨x15, hx15, ht13⟩ := bS ht13
   obtain ⟨x16, hx16, ht13⟩ := bS ht13
   rw [o_tree_Node_damier_row_Row_eq hx16] at hx15
   refine TL.op1 (OpR.indexM eNP hx15 rfl rfl rfl rfl rfl) rfl ?_
   refine TL.on rfl rfl rfl rfl (beq_eq_false_iff_ne.2 c14) ?_
   refine aA rfl rfl ?_
   refine TL.on rfl rfl rfl rfl (beq_eq_false_iff_ne.2 c14) ?_
   refine aA rfl rfl ?_
   refine TL.on rfl rfl rfl rfl (beq_eq_false_iff_ne.2 c14) ?_
   refine aA rfl rfl ?_
   refine TL.on rfl rfl rfl rfl (beq_eq_false_iff_ne.2 c14) ?_
   refine aA rfl rfl ?_
   refine TL.on rfl rfl rfl rfl (beq_eq_false_iff_ne.2 c14) ?_
   refine aA rfl rfl ?_
   refine TL.op1 (OpR.pickF rfl (beq_eq_false_iff_ne.2 c14) rfl) rfl ?_
   refine TL.nil ?_
   obtain rfl := Option.some.inj ht13
   exact ⟨_, Gst.only [0, 2, 20] rfl, rfl⟩
 rintro _ rfl
 show T X _ _ _
 rcases ite_some h0 with ⟨c17, h0⟩ | ⟨c17, h0⟩
 · refine T.condT rfl (c17) ?_
   refine aS ?_
   refine TL.op1 (OpR.build rfl rfl rfl rfl rfl) rfl ?_
   refine TL.op0 (OpR.store 0 rfl rfl rfl rfl rfl rfl rfl rfl) ?_
   refine aN rfl ?_
   refine T.ret ?_
   obtain rfl := Option.some.inj h0
   exact rO [] [2] rfl undef (cV 0 rfl rfl rfl rfl ResL.nil) rfl rfl rfl rfl
 refine T.condF rfl (eq_false_of_ne_true c17) ?_
 refine aK rfl ?_
 refine aS ?_
 refine aA rfl rfl ?_
 obtain ⟨x18, hx18, h0⟩ := bS h0
 obtain ⟨x19, hx19, h0⟩ := bS h0
 rw [o_tree_Node_damier_row_Row_eq hx19] at hx18
 refine TL.op1 (OpR.indexM eNP hx18 rfl rfl rfl rfl rfl) rfl ?_
 iterate 2 refine aA rfl rfl ?_
 refine aN rfl ?_
 refine T.seq ?_
 obtain ⟨t20, ht20, h0⟩ := bS h0
 refine T.cutC (fun S' => S' = ⟨[(3, .nod [.sl 1 (List.map eNP t20.1), .sl 3 (List.map e_row_Row t20.2.1), dN t20.2.2]), (2, (dP (blk p1)))], [.var (blk p1) [(eOP none)] 25], 39⟩) (fun _ h => h) ?_ ?_
 rotate_left
 · rintro _ rfl
   show T X _ _ _
   refine aS ?_
   refine aA rfl rfl ?_
   refine TL.op1 (OpR.build rfl rfl rfl rfl rfl) rfl ?_
   refine TL.op0 (OpR.store 0 rfl rfl rfl rfl rfl rfl rfl rfl) ?_
   refine aN rfl ?_
   refine T.ret ?_
   obtain rfl := Option.some.inj h0
   exact rO [] [2] rfl undef (cV 0 rfl rfl rfl rfl ResL.nil) rfl rfl rfl rfl
 refine T.block ?_
 obtain ⟨n22, n27⟩ := loop_some ht20
 refine T.loop (fun n S' => ∃ S'', Gst S' S'' ∧ ∃ s21 : (List NP) × (List row_Row) × Int, S'' = ⟨[(3, .nod [.sl 1 (List.map eNP s21.1), .sl 3 (List.map e_row_Row s21.2.1), dN s21.2.2]), (2, (dP (blk p1)))], [.var (blk p1) [(eOP none)] 25], 39⟩ ∧ iter tree_above_row_Row.l2 n s21 = some t20) n22 ?_ ?_
 · exact ⟨_, Gst.only [2, 3] rfl, (x19.fKids, x19.fItems, x19.fN), rfl, n27⟩
 rintro n22 _ ⟨_, g, s21, rfl, i26⟩
 refine T.ghost g ?_
 obtain ⟨m23, q24, rfl, q25, i26⟩ := iter_succ i26
 unfold tree_above_row_Row.l2 at q25
 refine T.seq ?_
 refine aS ?_
 iterate 4 refine aA rfl rfl ?_
 refine TL.op1 (OpR.cast (OpR.pure rfl) (intE (lenM _ _))) rfl ?_
 refine aA rfl rfl ?_
 refine aN rfl ?_
 rcases ite_some q25 with ⟨c29, q25⟩ | ⟨c29, q25⟩
 rotate_left
 · refine T.condF rfl (beq_eq_false_iff_ne.2 c29) ?_
   refine T.exit ?_
   obtain rfl := Option.some.inj q25
   obtain rfl : _ = _ := i26
   exact ⟨_, Gst.only [2, 3] rfl, rfl⟩
 refine T.condT rfl (beq_iff_eq.2 c29) ?_
 refine aK rfl ?_
 refine T.block ?_
 refine T.region ?_
 iterate 4 refine aA rfl rfl ?_
 obtain ⟨x30, hx30, q25⟩ := bS q25
 obtain ⟨x31, hx31, q25⟩ := bS q25
 rw [o_tree_Node_damier_row_Row_eq hx31] at hx30
 refine TL.op1 (OpR.indexM eNP hx30 rfl rfl rfl rfl rfl) rfl ?_
 iterate 2 refine aA rfl rfl ?_
 refine TL.nil ?_
 obtain rfl := Option.some.inj q25
 exact ⟨m23, Nat.lt_succ_self _, _, Gst.only [2, 3] rfl, (x31.fKids, x31.fItems, x31.fN), rfl, i26⟩
noncomputable def tree_Of_row_Row (a0 : List row_Row) : Option tree_Tree_damier_row_Row :=
  bnd (tree_leaves_row_Row a0) fun x2 =>
  bnd (tree_above_row_Row x2) fun x3 =>
  some x3
theorem tree_Of_row_Row_c {a0 : List row_Row} {res : tree_Tree_damier_row_Row} (h0 : tree_Of_row_Row a0 = some res) : CallF X 101 [.sl 3 (List.map e_row_Row a0)] [] (fun x => .agg [(eOP res.fRoot)]) (fun x => []) := by
 unfold tree_Of_row_Row at h0
 refine CallF.mkG (X := X) rfl Tryz.func101 rfl rfl Tryz.ntmps101 rfl rfl ?_
 refine aS ?_
 refine TL.op (OpR.alloc rfl rfl (fun _ => rfl)) rfl (fun p1 => ?_)
 refine aN rfl ?_
 refine aS ?_
 refine aA rfl rfl ?_
 obtain ⟨x2, hx2, h0⟩ := bS h0
 refine TL.op1 (OpR.call0 fn169 (tree_leaves_row_Row_c hx2) rfl) rfl ?_
 obtain ⟨x3, hx3, h0⟩ := bS h0
 refine TL.op1 (OpR.call0 fn168 (tree_above_row_Row_c hx3) rfl) rfl ?_
 refine TL.op0 (OpR.store 0 rfl rfl rfl rfl rfl rfl rfl rfl) ?_
 refine aN rfl ?_
 refine T.ret ?_
 obtain rfl := Option.some.inj h0
 exact rO [] [2] rfl undef (cV 0 rfl rfl rfl rfl ResL.nil) rfl rfl rfl rfl
noncomputable def grid_ends.l1 (a0 : List scan_Row) (x2 : scan_Row) (s5 : Int) : Option (Lp Int (Ex Unit (Bool × Int))) :=
  if s5 < (a0.length : Int) then
    bnd (idx a0 s5) fun x14 =>
    if x14.fEnd = 0 then
      some (Lp.next (w64 (s5 + 1)))
    else
      some (Lp.done (Ex.ret ((!(x2.fEnd == 0)), x14.fEnd)))
  else
    some (Lp.done (Ex.brk ()))
noncomputable def grid_ends (a0 : List scan_Row) : Option (Bool × Int) :=
  if (a0.length : Int) = 0 then
    some (false, 2)
  else
    bnd (idx a0 (w64 ((a0.length : Int) - 1))) fun x2 =>
    bnd (loop (grid_ends.l1 a0 x2) 0 : Option (Ex Unit (Bool × Int))) fun t3 => match t3 with
      | .brk u4 =>
        some ((!(x2.fEnd == 0)), 2)
      | .ret u4 => some u4
theorem grid_ends_c {a0 : List scan_Row} {res : Bool × Int} (h0 : grid_ends a0 = some res) : CallF X 132 [.sl 2 (List.map e_scan_Row a0)] [] (fun x => .tup [dT res.1, dN res.2]) (fun x => []) := by
 unfold grid_ends at h0
 refine CallF.mkG (X := X) rfl Tryz.func132 rfl rfl Tryz.ntmps132 rfl rfl ?_
 refine aS ?_
 iterate 2 refine aA rfl rfl ?_
 refine aN rfl ?_
 refine T.seq ?_
 refine aS ?_
 refine aA rfl rfl ?_
 refine TL.op1 (OpR.cast (OpR.pure rfl) (intE (lenM _ _))) rfl ?_
 refine aA rfl rfl ?_
 refine aN rfl ?_
 rcases ite_some h0 with ⟨c1, h0⟩ | ⟨c1, h0⟩
 · refine T.condT rfl (beq_iff_eq.2 c1) ?_
   refine aS ?_
   iterate 2 refine aA rfl rfl ?_
   refine aN rfl ?_
   refine T.ret ?_
   obtain rfl := Option.some.inj h0
   exact rO [] [2, 3] rfl undef (cT rfl (cT rfl ResL.nil)) rfl rfl rfl rfl
 refine T.condF rfl (beq_eq_false_iff_ne.2 c1) ?_
 refine aK rfl ?_
 refine aS ?_
 iterate 2 refine aA rfl rfl ?_
 refine TL.op1 (OpR.cast (OpR.pure rfl) (intE (lenM _ _))) rfl ?_
 refine aA rfl rfl ?_
 obtain ⟨x2, hx2, h0⟩ := bS h0
 refine TL.op1 (OpR.indexM e_scan_Row hx2 rfl rfl rfl rfl rfl) rfl ?_
 iterate 4 refine aA rfl rfl ?_
 refine aN rfl ?_
 refine T.seq ?_
 refine aS ?_
 refine aA rfl rfl ?_
 refine TL.op1 (OpR.cast (OpR.pure rfl) (intE (lenM _ _))) rfl ?_
 refine aA rfl rfl ?_
 refine aN rfl ?_
 obtain ⟨t3, ht3, h0⟩ := bS h0
 refine T.cutC (fun S' => ∃ u4, t3 = Ex.brk u4 ∧ S' = ⟨[(4, (dT (!(x2.fEnd == 0)))), (3, (dN 0)), (2, (dT false))], [], 32⟩) (fun _ h => h) ?_ ?_
 rotate_left
 · rintro _ ⟨u4, rfl, rfl⟩
   show T X _ _ _
   refine aS ?_
   iterate 3 refine aA rfl rfl ?_
   refine aN rfl ?_
   refine T.ret ?_
   obtain rfl := Option.some.inj h0
   exact rO [] [2, 3] rfl undef (cT rfl (cT rfl ResL.nil)) rfl rfl rfl rfl
 refine T.block ?_
 obtain ⟨n6, n11⟩ := loop_some ht3
 refine T.loop (fun n S' => ∃ S'', Gst S' S'' ∧ ∃ s5 : Int, S'' = ⟨[(20, (dN s5)), (19, (dN (a0.length : Int))), (18, .sl 2 (List.map e_scan_Row a0)), (4, (dT (!(x2.fEnd == 0)))), (3, (dN 0)), (2, (dT false))], [], 32⟩ ∧ iter (grid_ends.l1 a0 x2) n s5 = some t3) n6 ?_ ?_
 · exact ⟨_, Gst.only [2, 3, 4, 18, 19, 20] rfl, 0, rfl, n11⟩
 rintro n6 _ ⟨_, g, s5, rfl, i10⟩
 refine T.ghost g ?_
 obtain ⟨m7, q8, rfl, q9, i10⟩ := iter_succ i10
 unfold grid_ends.l1 at q9
 refine aS ?_
 refine aA rfl rfl ?_
 refine aN rfl ?_
 refine T.seq ?_
 rcases ite_some q9 with ⟨c13, q9⟩ | ⟨c13, q9⟩
 rotate_left
 · refine T.condF rfl (decide_eq_false c13) ?_
   refine T.exit ?_
   obtain rfl := Option.some.inj q9
   obtain rfl : _ = _ := i10
   exact ⟨_, Gst.only [2, 3, 4] rfl, _, rfl, rfl⟩
 refine T.condT rfl (decide_eq_true c13) ?_
 refine aK rfl ?_
 refine T.seq ?_
 refine T.block ?_
 refine aS ?_
 obtain ⟨x14, hx14, q9⟩ := bS q9
 refine TL.op1 (OpR.indexM e_scan_Row hx14 rfl rfl rfl rfl rfl) rfl ?_
 refine aA rfl rfl ?_
 refine TL.op (OpR.alloc rfl rfl (fun _ => rfl)) rfl (fun p15 => ?_)
 refine TL.op0 (OpR.store 0 rfl rfl rfl rfl rfl rfl rfl rfl) ?_
 refine aN rfl ?_
 refine aS ?_
 refine aA rfl rfl ?_
 refine TL.op1 (OpR.loadPtr 0 rfl rfl rfl rfl) rfl ?_
 refine aA rfl rfl ?_
 refine aN rfl ?_
 rcases ite_some q9 with ⟨c16, q9⟩ | ⟨c16, q9⟩
 · refine T.condF rfl (not_t (beq_iff_eq.2 c16)) ?_
   refine aK rfl ?_
   refine T.region ?_
   iterate 2 refine aA rfl rfl ?_
   refine TL.nil ?_
   obtain rfl := Option.some.inj q9
   exact ⟨m7, Nat.lt_succ_self _, _, gP [2, 3, 4, 18, 19, 20] [] rfl rfl rfl, w64 (s5 + 1), rfl, i10⟩
 refine T.condT rfl (not_f (beq_eq_false_iff_ne.2 c16)) ?_
 refine T.seq ?_
 refine T.drawQ drawsX [dT (!(x2.fEnd == 0)), .val (.pointer (some ⟨(blk p15), 1, none⟩)), dN x14.fEnd, dT (!(x2.fEnd == 0)), dN x14.fEnd] [2, 3, 4, 18, 19, 20] (by decide +kernel) rfl ?_ rfl ?_
 rotate_left
 · show T X _ _ _
   refine T.ret ?_
   obtain rfl := Option.some.inj q9
   obtain rfl : _ = _ := i10
   obtain rfl := Option.some.inj h0
   exact rP [] [2, 3] [] rfl rfl rfl undef (cT rfl (cT rfl ResL.nil)) rfl rfl rfl rfl
 iterate 2 refine aB rfl rfl rfl ?_
 refine OpsQ.yes (Want.plain rfl) rfl (OpR.loadPtr 0 rfl rfl rfl rfl) ?_
 iterate 2 refine aB rfl rfl rfl ?_
 exact OpsQ.nil
noncomputable def grid_Load.l1 (x5 : (List scan_Row)) (s13 : Int × Int × (List row_Row)) : Option (Lp (Int × Int × (List row_Row)) (Ex (List row_Row) ((grid_Grid × Int × (List UInt8)) ⊕ (grid_Grid × Int)))) :=
  if s13.2.1 < (x5.length : Int) then
    bnd (idx x5 s13.2.1) fun x22 =>
    bnd (row_Load x22) fun x24 =>
    bnd (idx s13.2.2 s13.2.1) fun x25 =>
    if x24.2 = 0 then
      some (Lp.next (x24.2, w64 (s13.2.1 + 1), (s13.2.2.set s13.2.1.toNat x24.1)))
    else
      bnd (grid_refused x24.2) fun x27 =>
      some (Lp.done (Ex.ret (Sum.inl (x27.1, x27.2.1, x27.2.2))))
  else
    some (Lp.done (Ex.brk s13.2.2))
noncomputable def grid_Load.l2 (x35 : (List scan_Row)) (s43 : Int × Int × (List row_Row)) : Option (Lp (Int × Int × (List row_Row)) (Ex (List row_Row) ((grid_Grid × Int × (List UInt8)) ⊕ (grid_Grid × Int)))) :=
  if s43.2.1 < (x35.length : Int) then
    bnd (idx x35 s43.2.1) fun x52 =>
    bnd (row_Load x52) fun x54 =>
    bnd (idx s43.2.2 s43.2.1) fun x55 =>
    if x54.2 = 0 then
      some (Lp.next (x54.2, w64 (s43.2.1 + 1), (s43.2.2.set s43.2.1.toNat x54.1)))
    else
      bnd (grid_refused x54.2) fun x57 =>
      some (Lp.done (Ex.ret (Sum.inl (x57.1, x57.2.1, x57.2.2))))
  else
    some (Lp.done (Ex.brk s43.2.2))
noncomputable def grid_Load (a0 : List UInt8) : Option ((grid_Grid × Int × (List UInt8)) ⊕ (grid_Grid × Int)) :=
  bnd (arena_New a0) fun x2 =>
  match x2 with
  | .inl x2 =>
      if x2 = 0 then
        bnd (scan_All a0) fun x5 =>
        if (x5.length : Int) > 400 then
          bnd (grid_refused 6) fun x7 =>
          some (Sum.inl (x7.1, x7.2.1, x7.2.2))
        else
          bnd (mkz 40 (x5.length : Int) ((⟨[], 0, false⟩ : row_Row) : row_Row)) fun x9 =>
          bnd (loop (grid_Load.l1 x5) (x2, 0, x9) : Option (Ex (List row_Row) ((grid_Grid × Int × (List UInt8)) ⊕ (grid_Grid × Int)))) fun t11 => match t11 with
            | .brk u12 =>
              bnd (tree_Of_row_Row u12) fun x29 =>
              bnd (grid_ends x5) fun x31 =>
              some (Sum.inr ((⟨x29, x31.1, x31.2⟩ : grid_Grid), 0))
            | .ret u12 => some u12
      else
        bnd (grid_refused x2) fun x32 =>
        some (Sum.inl (x32.1, x32.2.1, x32.2.2))
  | .inr x2 =>
      if x2.1 = 0 then
        bnd (scan_All a0) fun x35 =>
        if (x35.length : Int) > 400 then
          bnd (grid_refused 6) fun x37 =>
          some (Sum.inl (x37.1, x37.2.1, x37.2.2))
        else
          bnd (mkz 40 (x35.length : Int) ((⟨[], 0, false⟩ : row_Row) : row_Row)) fun x39 =>
          bnd (loop (grid_Load.l2 x35) (x2.1, 0, x39) : Option (Ex (List row_Row) ((grid_Grid × Int × (List UInt8)) ⊕ (grid_Grid × Int)))) fun t41 => match t41 with
            | .brk u42 =>
              bnd (tree_Of_row_Row u42) fun x59 =>
              bnd (grid_ends x35) fun x61 =>
              some (Sum.inl ((⟨x59, x61.1, x61.2⟩ : grid_Grid), 0, x2.2))
            | .ret u42 => some u42
      else
        bnd (grid_refused x2.1) fun x62 =>
        some (Sum.inl (x62.1, x62.2.1, x62.2.2))
theorem grid_Load_c {a0 : List UInt8} {res : (grid_Grid × Int × (List UInt8)) ⊕ (grid_Grid × Int)} (h0 : grid_Load a0 = some res) : CallF X 67 [.sl 1 (lB a0)] [] (fun x => (match res with | .inl res => .tup [.agg [(eOP res.1.fRows.fRoot), dT res.1.fTail, dN res.1.fEnd], dP (blk (vn x 0)), dN res.2.1] | .inr res => .tup [.agg [(eOP res.1.fRows.fRoot), dT res.1.fTail, dN res.1.fEnd], dQ, dN res.2])) (fun x => (match res with | .inl res => [.var (blk (vn x 0)) [.val (vn x 1)] 264, .row (vn x 1) (lB res.2.2) 1 5] | .inr res => [])) := by
 unfold grid_Load at h0
 refine CallF.mkG (X := X) rfl Tryz.func67 rfl rfl Tryz.ntmps67 rfl rfl ?_
 refine aS ?_
 refine TL.op (OpR.alloc rfl rfl (fun _ => rfl)) rfl (fun p1 => ?_)
 iterate 2 refine aA rfl rfl ?_
 refine aN rfl ?_
 refine aS ?_
 refine aA rfl rfl ?_
 obtain ⟨x2, hx2, h0⟩ := bS h0
 rcases x2 with x2 | x2
 · dsimp only at h0
   refine TL.op1 (OpR.call0 fn128 (arena_New_cx1 hx2) rfl) rfl ?_
   iterate 5 refine aA rfl rfl ?_
   refine aN rfl ?_
   refine T.seq ?_
   refine aS ?_
   iterate 2 refine aA rfl rfl ?_
   refine aN rfl ?_
   rcases ite_some h0 with ⟨c4, h0⟩ | ⟨c4, h0⟩
   rotate_left
   · refine T.condT rfl (not_f (beq_eq_false_iff_ne.2 c4)) ?_
     refine aS ?_
     refine aA rfl rfl ?_
     obtain ⟨x32, hx32, h0⟩ := bS h0
     refine TL.op (OpR.call [] fn129 (grid_refused_c hx32) rfl rfl rfl (fun _ => rfl)) rfl (fun w33 => ?_)
     iterate 3 refine aA rfl rfl ?_
     refine TL.op0 (OpR.store 0 rfl rfl rfl rfl rfl rfl rfl rfl) ?_
     iterate 2 refine aA rfl rfl ?_
     refine aN rfl ?_
     refine T.ret ?_
     obtain rfl := Option.some.inj h0
     exact rO [1, 2] [2, 3, 4] rfl (.tuple #[(vn w33 0), (vn w33 1)]) (cV 0 rfl rfl rfl rfl (cT rfl (cT rfl ResL.nil))) rfl rfl rfl rfl
   refine T.condF rfl (not_t (beq_iff_eq.2 c4)) ?_
   refine aK rfl ?_
   refine aS ?_
   refine aA rfl rfl ?_
   obtain ⟨x5, hx5, h0⟩ := bS h0
   refine TL.op1 (OpR.call0 fn130 (scan_All_c hx5) rfl) rfl ?_
   refine aA rfl rfl ?_
   refine aN rfl ?_
   refine T.seq ?_
   refine aS ?_
   refine aA rfl rfl ?_
   refine TL.op1 (OpR.cast (OpR.pure rfl) (intE (lenM _ _))) rfl ?_
   refine aA rfl rfl ?_
   refine aN rfl ?_
   rcases ite_some h0 with ⟨c6, h0⟩ | ⟨c6, h0⟩
   · refine T.condT rfl (decide_eq_true c6) ?_
     refine aS ?_
     obtain ⟨x7, hx7, h0⟩ := bS h0
     refine TL.op (OpR.call [] fn129 (grid_refused_c hx7) rfl rfl rfl (fun _ => rfl)) rfl (fun w8 => ?_)
     iterate 3 refine aA rfl rfl ?_
     refine TL.op0 (OpR.store 0 rfl rfl rfl rfl rfl rfl rfl rfl) ?_
     iterate 2 refine aA rfl rfl ?_
     refine aN rfl ?_
     refine T.ret ?_
     obtain rfl := Option.some.inj h0
     exact rO [1, 2] [2, 3, 4] rfl (.tuple #[(vn w8 0), (vn w8 1)]) (cV 0 rfl rfl rfl rfl (cT rfl (cT rfl ResL.nil))) rfl rfl rfl rfl
   refine T.condF rfl (decide_eq_false c6) ?_
   refine aK rfl ?_
   refine aS ?_
   refine aA rfl rfl ?_
   refine TL.op1 (OpR.cast (OpR.pure rfl) (intE (lenM _ _))) rfl ?_
   obtain ⟨x9, hx9, h0⟩ := bS h0
   refine TL.op (OpR.makeN e_row_Row hx9 rfl rfl rfl rfl rfl rfl rfl rfl rfl rfl (ReL.cons (Re.base .nil) (ReL.cons Re.refl (ReL.cons Re.refl ReL.nil))) rfl (fun _ => rfl)) rfl (fun v10 => ?_)
   refine aA rfl rfl ?_
   refine aN rfl ?_
   refine T.seq ?_
   refine aS ?_
   refine aA rfl rfl ?_
   refine TL.op1 (OpR.cast (OpR.pure rfl) (intE (lenM _ _))) rfl ?_
   refine aA rfl rfl ?_
   refine aN rfl ?_
   obtain ⟨t11, ht11, h0⟩ := bS h0
   refine T.cutC (fun S' => ∃ u12, t11 = Ex.brk u12 ∧ S' = ⟨[(8, .val v10), (7, .sl 2 (List.map e_scan_Row x5)), (5, dQ), (4, (dN 0)), (3, dQ), (2, (dP (blk p1)))], [.var (blk p1) [(eOP none), dT false, dN 0] 27, .row v10 (List.map e_row_Row u12) 3 49], 71⟩) (fun _ h => h) ?_ ?_
   rotate_left
   · rintro _ ⟨u12, rfl, rfl⟩
     show T X _ _ _
     refine aS ?_
     refine aA rfl rfl ?_
     refine TL.ghost (Gst.freezeRow 1 rfl rfl (ReS.cons (Re.base .all) (ReS.refl _)) (ReO.same (ReO.same ReO.nil))) ?_
     obtain ⟨x29, hx29, h0⟩ := bS h0
     refine TL.op1 (OpR.call0 fn101 (tree_Of_row_Row_c hx29) rfl) rfl ?_
     refine TL.op1 (OpR.build rfl rfl rfl rfl rfl) rfl ?_
     refine TL.op (OpR.alloc rfl rfl (fun _ => rfl)) rfl (fun p30 => ?_)
     refine TL.op0 (OpR.store 2 rfl rfl rfl rfl rfl rfl rfl rfl) ?_
     refine aN rfl ?_
     refine aS ?_
     refine aA rfl rfl ?_
     obtain ⟨x31, hx31, h0⟩ := bS h0
     refine TL.op1 (OpR.call0 fn132 (grid_ends_c hx31) rfl) rfl ?_
     iterate 4 refine aA rfl rfl ?_
     refine TL.op0 (OpR.store 2 rfl rfl rfl rfl rfl rfl rfl rfl) ?_
     refine aA rfl rfl ?_
     refine TL.op0 (OpR.store 2 rfl rfl rfl rfl rfl rfl rfl rfl) ?_
     refine aN rfl ?_
     refine aS ?_
     refine TL.op1 (OpR.loadPtr 2 rfl rfl rfl rfl) rfl ?_
     refine aA rfl rfl ?_
     refine TL.op0 (OpR.store 0 rfl rfl rfl rfl rfl rfl rfl rfl) ?_
     iterate 2 refine aA rfl rfl ?_
     refine aN rfl ?_
     refine T.ret ?_
     obtain rfl := Option.some.inj h0
     exact rP [] [2, 3, 4] [0] rfl rfl rfl undef (cV 0 rfl rfl rfl rfl (cT rfl (cT rfl ResL.nil))) rfl rfl rfl rfl
   refine T.block ?_
   obtain ⟨n14, n19⟩ := loop_some ht11
   refine T.loop (fun n S' => ∃ S'', Gst S' S'' ∧ ∃ s13 : Int × Int × (List row_Row), S'' = ⟨[(38, (dN s13.2.1)), (37, (dN (x5.length : Int))), (36, .sl 2 (List.map e_scan_Row x5)), (8, .val v10), (7, .sl 2 (List.map e_scan_Row x5)), (6, (dN s13.1)), (5, dQ), (4, (dN 0)), (3, dQ), (2, (dP (blk p1)))], [.var (blk p1) [(eOP none), dT false, dN 0] 27, .row v10 (List.map e_row_Row s13.2.2) 3 49], 71⟩ ∧ iter (grid_Load.l1 x5) n s13 = some t11) n14 ?_ ?_
   · exact ⟨_, Gst.only [2, 3, 4, 5, 6, 7, 8, 36, 37, 38] rfl, (x2, 0, x9), rfl, n19⟩
   rintro n14 _ ⟨_, g, s13, rfl, i18⟩
   refine T.ghost g ?_
   obtain ⟨m15, q16, rfl, q17, i18⟩ := iter_succ i18
   unfold grid_Load.l1 at q17
   refine aS ?_
   refine aA rfl rfl ?_
   refine aN rfl ?_
   refine T.seq ?_
   rcases ite_some q17 with ⟨c21, q17⟩ | ⟨c21, q17⟩
   rotate_left
   · refine T.condF rfl (decide_eq_false c21) ?_
     refine T.exit ?_
     obtain rfl := Option.some.inj q17
     obtain rfl : _ = _ := i18
     exact ⟨_, Gst.only [2, 3, 4, 5, 7, 8] rfl, _, rfl, rfl⟩
   refine T.condT rfl (decide_eq_true c21) ?_
   refine aK rfl ?_
   refine T.seq ?_
   refine T.block ?_
   refine aS ?_
   refine aA rfl rfl ?_
   obtain ⟨x22, hx22, q17⟩ := bS q17
   refine TL.op1 (OpR.indexM e_scan_Row hx22 rfl rfl rfl rfl rfl) rfl ?_
   refine aA rfl rfl ?_
   refine TL.op (OpR.alloc rfl rfl (fun _ => rfl)) rfl (fun p23 => ?_)
   refine aA rfl rfl ?_
   refine TL.op0 (OpR.store 2 rfl rfl rfl rfl rfl rfl rfl rfl) ?_
   refine aN rfl ?_
   refine aS ?_
   iterate 2 refine aA rfl rfl ?_
   refine TL.op1 (OpR.loadPtr 2 rfl rfl rfl rfl) rfl ?_
   obtain ⟨x24, hx24, q17⟩ := bS q17
   refine TL.op1 (OpR.call0 fn131 (row_Load_c hx24) rfl) rfl ?_
   iterate 3 refine aA rfl rfl ?_
   obtain ⟨x25, hx25, q17⟩ := bS q17
   refine TL.op1 (OpR.rowIndexM e_row_Row 1 hx25 rfl rfl rfl rfl rfl rfl rfl) rfl ?_
   refine TL.op0 (OpR.rowStore0M (j := s13.2.1) e_row_Row x24.1 1 hx25 rfl rfl rfl rfl rfl rfl rfl rfl rfl) ?_
   refine aA rfl rfl ?_
   refine aN rfl ?_
   refine aS ?_
   iterate 2 refine aA rfl rfl ?_
   refine aN rfl ?_
   rcases ite_some q17 with ⟨c26, q17⟩ | ⟨c26, q17⟩
   · refine T.condF rfl (not_t (beq_iff_eq.2 c26)) ?_
     refine aK rfl ?_
     refine T.region ?_
     iterate 2 refine aA rfl rfl ?_
     refine TL.nil ?_
     obtain rfl := Option.some.inj q17
     exact ⟨m15, Nat.lt_succ_self _, _, gP [2, 3, 4, 5, 6, 7, 8, 36, 37, 38] [0, 1] rfl rfl rfl, (x24.2, w64 (s13.2.1 + 1), (s13.2.2.set s13.2.1.toNat x24.1)), rfl, i18⟩
   refine T.condT rfl (not_f (beq_eq_false_iff_ne.2 c26)) ?_
   refine aS ?_
   refine aA rfl rfl ?_
   obtain ⟨x27, hx27, q17⟩ := bS q17
   refine TL.op (OpR.call [] fn129 (grid_refused_c hx27) rfl rfl rfl (fun _ => rfl)) rfl (fun w28 => ?_)
   iterate 3 refine aA rfl rfl ?_
   refine TL.op0 (OpR.store 0 rfl rfl rfl rfl rfl rfl rfl rfl) ?_
   iterate 2 refine aA rfl rfl ?_
   refine aN rfl ?_
   refine T.ret ?_
   obtain rfl := Option.some.inj q17
   obtain rfl : _ = _ := i18
   obtain rfl := Option.some.inj h0
   exact rP [1, 2] [2, 3, 4] [0, 3, 4] rfl rfl rfl (.tuple #[(vn w28 0), (vn w28 1)]) (cV 0 rfl rfl rfl rfl (cT rfl (cT rfl ResL.nil))) rfl rfl rfl rfl
 dsimp only at h0
 refine TL.op (OpR.call [] fn128 (arena_New_cx2 hx2) rfl rfl rfl (fun _ => rfl)) rfl (fun w3 => ?_)
 iterate 5 refine aA rfl rfl ?_
 refine aN rfl ?_
 refine T.seq ?_
 refine aS ?_
 iterate 2 refine aA rfl rfl ?_
 refine aN rfl ?_
 rcases ite_some h0 with ⟨c34, h0⟩ | ⟨c34, h0⟩
 rotate_left
 · refine T.condT rfl (not_f (beq_eq_false_iff_ne.2 c34)) ?_
   refine aS ?_
   refine aA rfl rfl ?_
   obtain ⟨x62, hx62, h0⟩ := bS h0
   refine TL.op (OpR.call [] fn129 (grid_refused_c hx62) rfl rfl rfl (fun _ => rfl)) rfl (fun w63 => ?_)
   iterate 3 refine aA rfl rfl ?_
   refine TL.op0 (OpR.store 0 rfl rfl rfl rfl rfl rfl rfl rfl) ?_
   iterate 2 refine aA rfl rfl ?_
   refine aN rfl ?_
   refine T.ret ?_
   obtain rfl := Option.some.inj h0
   exact rP [1, 2] [2, 3, 4] [0, 3, 4] rfl rfl rfl (.tuple #[(vn w63 0), (vn w63 1)]) (cV 0 rfl rfl rfl rfl (cT rfl (cT rfl ResL.nil))) rfl rfl rfl rfl
 refine T.condF rfl (not_t (beq_iff_eq.2 c34)) ?_
 refine aK rfl ?_
 refine aS ?_
 refine aA rfl rfl ?_
 obtain ⟨x35, hx35, h0⟩ := bS h0
 refine TL.op1 (OpR.call0 fn130 (scan_All_c hx35) rfl) rfl ?_
 refine aA rfl rfl ?_
 refine aN rfl ?_
 refine T.seq ?_
 refine aS ?_
 refine aA rfl rfl ?_
 refine TL.op1 (OpR.cast (OpR.pure rfl) (intE (lenM _ _))) rfl ?_
 refine aA rfl rfl ?_
 refine aN rfl ?_
 rcases ite_some h0 with ⟨c36, h0⟩ | ⟨c36, h0⟩
 · refine T.condT rfl (decide_eq_true c36) ?_
   refine aS ?_
   obtain ⟨x37, hx37, h0⟩ := bS h0
   refine TL.op (OpR.call [] fn129 (grid_refused_c hx37) rfl rfl rfl (fun _ => rfl)) rfl (fun w38 => ?_)
   iterate 3 refine aA rfl rfl ?_
   refine TL.op0 (OpR.store 0 rfl rfl rfl rfl rfl rfl rfl rfl) ?_
   iterate 2 refine aA rfl rfl ?_
   refine aN rfl ?_
   refine T.ret ?_
   obtain rfl := Option.some.inj h0
   exact rP [1, 2] [2, 3, 4] [0, 3, 4] rfl rfl rfl (.tuple #[(vn w38 0), (vn w38 1)]) (cV 0 rfl rfl rfl rfl (cT rfl (cT rfl ResL.nil))) rfl rfl rfl rfl
 refine T.condF rfl (decide_eq_false c36) ?_
 refine aK rfl ?_
 refine aS ?_
 refine aA rfl rfl ?_
 refine TL.op1 (OpR.cast (OpR.pure rfl) (intE (lenM _ _))) rfl ?_
 obtain ⟨x39, hx39, h0⟩ := bS h0
 refine TL.op (OpR.makeN e_row_Row hx39 rfl rfl rfl rfl rfl rfl rfl rfl rfl rfl (ReL.cons (Re.base .nil) (ReL.cons Re.refl (ReL.cons Re.refl ReL.nil))) rfl (fun _ => rfl)) rfl (fun v40 => ?_)
 refine aA rfl rfl ?_
 refine aN rfl ?_
 refine T.seq ?_
 refine aS ?_
 refine aA rfl rfl ?_
 refine TL.op1 (OpR.cast (OpR.pure rfl) (intE (lenM _ _))) rfl ?_
 refine aA rfl rfl ?_
 refine aN rfl ?_
 obtain ⟨t41, ht41, h0⟩ := bS h0
 refine T.cutC (fun S' => ∃ u42, t41 = Ex.brk u42 ∧ S' = ⟨[(8, .val v40), (7, .sl 2 (List.map e_scan_Row x35)), (5, (dP (blk (vn w3 0)))), (4, (dN 0)), (3, dQ), (2, (dP (blk p1)))], [.var (blk p1) [(eOP none), dT false, dN 0] 27, .var (blk (vn w3 0)) [.val (vn w3 1)] 264, .row v40 (List.map e_row_Row u42) 3 49, .row (vn w3 1) (lB x2.2) 1 5], 71⟩) (fun _ h => h) ?_ ?_
 rotate_left
 · rintro _ ⟨u42, rfl, rfl⟩
   show T X _ _ _
   refine aS ?_
   refine aA rfl rfl ?_
   refine TL.ghost (Gst.freezeRow 2 rfl rfl (ReS.cons (Re.base .all) (ReS.refl _)) (ReO.same (ReO.same (ReO.same (ReO.same ReO.nil))))) ?_
   obtain ⟨x59, hx59, h0⟩ := bS h0
   refine TL.op1 (OpR.call0 fn101 (tree_Of_row_Row_c hx59) rfl) rfl ?_
   refine TL.op1 (OpR.build rfl rfl rfl rfl rfl) rfl ?_
   refine TL.op (OpR.alloc rfl rfl (fun _ => rfl)) rfl (fun p60 => ?_)
   refine TL.op0 (OpR.store 4 rfl rfl rfl rfl rfl rfl rfl rfl) ?_
   refine aN rfl ?_
   refine aS ?_
   refine aA rfl rfl ?_
   obtain ⟨x61, hx61, h0⟩ := bS h0
   refine TL.op1 (OpR.call0 fn132 (grid_ends_c hx61) rfl) rfl ?_
   iterate 4 refine aA rfl rfl ?_
   refine TL.op0 (OpR.store 4 rfl rfl rfl rfl rfl rfl rfl rfl) ?_
   refine aA rfl rfl ?_
   refine TL.op0 (OpR.store 4 rfl rfl rfl rfl rfl rfl rfl rfl) ?_
   refine aN rfl ?_
   refine aS ?_
   refine TL.op1 (OpR.loadPtr 4 rfl rfl rfl rfl) rfl ?_
   refine aA rfl rfl ?_
   refine TL.op0 (OpR.store 0 rfl rfl rfl rfl rfl rfl rfl rfl) ?_
   iterate 2 refine aA rfl rfl ?_
   refine aN rfl ?_
   refine T.ret ?_
   obtain rfl := Option.some.inj h0
   exact rP [1, 2] [2, 3, 4] [0, 1, 3] rfl rfl rfl (.tuple #[(vn w3 0), (vn w3 1)]) (cV 0 rfl rfl rfl rfl (cT rfl (cT rfl ResL.nil))) rfl rfl rfl rfl
 refine T.block ?_
 obtain ⟨n44, n49⟩ := loop_some ht41
 refine T.loop (fun n S' => ∃ S'', Gst S' S'' ∧ ∃ s43 : Int × Int × (List row_Row), S'' = ⟨[(38, (dN s43.2.1)), (37, (dN (x35.length : Int))), (36, .sl 2 (List.map e_scan_Row x35)), (8, .val v40), (7, .sl 2 (List.map e_scan_Row x35)), (6, (dN s43.1)), (5, (dP (blk (vn w3 0)))), (4, (dN 0)), (3, dQ), (2, (dP (blk p1)))], [.var (blk p1) [(eOP none), dT false, dN 0] 27, .var (blk (vn w3 0)) [.val (vn w3 1)] 264, .row v40 (List.map e_row_Row s43.2.2) 3 49, .row (vn w3 1) (lB x2.2) 1 5], 71⟩ ∧ iter (grid_Load.l2 x35) n s43 = some t41) n44 ?_ ?_
 · exact ⟨_, gP [2, 3, 4, 5, 6, 7, 8, 36, 37, 38] [0, 1, 3, 2] rfl rfl rfl, (x2.1, 0, x39), rfl, n49⟩
 rintro n44 _ ⟨_, g, s43, rfl, i48⟩
 refine T.ghost g ?_
 obtain ⟨m45, q46, rfl, q47, i48⟩ := iter_succ i48
 unfold grid_Load.l2 at q47
 refine aS ?_
 refine aA rfl rfl ?_
 refine aN rfl ?_
 refine T.seq ?_
 rcases ite_some q47 with ⟨c51, q47⟩ | ⟨c51, q47⟩
 rotate_left
 · refine T.condF rfl (decide_eq_false c51) ?_
   refine T.exit ?_
   obtain rfl := Option.some.inj q47
   obtain rfl : _ = _ := i48
   exact ⟨_, Gst.only [2, 3, 4, 5, 7, 8] rfl, _, rfl, rfl⟩
 refine T.condT rfl (decide_eq_true c51) ?_
 refine aK rfl ?_
 refine T.seq ?_
 refine T.block ?_
 refine aS ?_
 refine aA rfl rfl ?_
 obtain ⟨x52, hx52, q47⟩ := bS q47
 refine TL.op1 (OpR.indexM e_scan_Row hx52 rfl rfl rfl rfl rfl) rfl ?_
 refine aA rfl rfl ?_
 refine TL.op (OpR.alloc rfl rfl (fun _ => rfl)) rfl (fun p53 => ?_)
 refine aA rfl rfl ?_
 refine TL.op0 (OpR.store 4 rfl rfl rfl rfl rfl rfl rfl rfl) ?_
 refine aN rfl ?_
 refine aS ?_
 iterate 2 refine aA rfl rfl ?_
 refine TL.op1 (OpR.loadPtr 4 rfl rfl rfl rfl) rfl ?_
 obtain ⟨x54, hx54, q47⟩ := bS q47
 refine TL.op1 (OpR.call0 fn131 (row_Load_c hx54) rfl) rfl ?_
 iterate 3 refine aA rfl rfl ?_
 obtain ⟨x55, hx55, q47⟩ := bS q47
 refine TL.op1 (OpR.rowIndexM e_row_Row 2 hx55 rfl rfl rfl rfl rfl rfl rfl) rfl ?_
 refine TL.op0 (OpR.rowStore0M (j := s43.2.1) e_row_Row x54.1 2 hx55 rfl rfl rfl rfl rfl rfl rfl rfl rfl) ?_
 refine aA rfl rfl ?_
 refine aN rfl ?_
 refine aS ?_
 iterate 2 refine aA rfl rfl ?_
 refine aN rfl ?_
 rcases ite_some q47 with ⟨c56, q47⟩ | ⟨c56, q47⟩
 · refine T.condF rfl (not_t (beq_iff_eq.2 c56)) ?_
   refine aK rfl ?_
   refine T.region ?_
   iterate 2 refine aA rfl rfl ?_
   refine TL.nil ?_
   obtain rfl := Option.some.inj q47
   exact ⟨m45, Nat.lt_succ_self _, _, gP [2, 3, 4, 5, 6, 7, 8, 36, 37, 38] [0, 1, 2, 3] rfl rfl rfl, (x54.2, w64 (s43.2.1 + 1), (s43.2.2.set s43.2.1.toNat x54.1)), rfl, i48⟩
 refine T.condT rfl (not_f (beq_eq_false_iff_ne.2 c56)) ?_
 refine aS ?_
 refine aA rfl rfl ?_
 obtain ⟨x57, hx57, q47⟩ := bS q47
 refine TL.op (OpR.call [] fn129 (grid_refused_c hx57) rfl rfl rfl (fun _ => rfl)) rfl (fun w58 => ?_)
 iterate 3 refine aA rfl rfl ?_
 refine TL.op0 (OpR.store 0 rfl rfl rfl rfl rfl rfl rfl rfl) ?_
 iterate 2 refine aA rfl rfl ?_
 refine aN rfl ?_
 refine T.ret ?_
 obtain rfl := Option.some.inj q47
 obtain rfl : _ = _ := i48
 obtain rfl := Option.some.inj h0
 exact rP [1, 2] [2, 3, 4] [0, 5, 6] rfl rfl rfl (.tuple #[(vn w58 0), (vn w58 1)]) (cV 0 rfl rfl rfl rfl (cT rfl (cT rfl ResL.nil))) rfl rfl rfl rfl
theorem grid_Load_cx1 {a0 : List UInt8} {res : grid_Grid × Int × (List UInt8)} (h0 : grid_Load a0 = some (Sum.inl res)) : CallF X 67 [.sl 1 (lB a0)] [] (fun x => .tup [.agg [(eOP res.1.fRows.fRoot), dT res.1.fTail, dN res.1.fEnd], dP (blk (vn x 0)), dN res.2.1]) (fun x => [.var (blk (vn x 0)) [.val (vn x 1)] 264, .row (vn x 1) (lB res.2.2) 1 5]) := grid_Load_c h0
theorem grid_Load_cx2 {a0 : List UInt8} {res : grid_Grid × Int} (h0 : grid_Load a0 = some (Sum.inr res)) : CallF X 67 [.sl 1 (lB a0)] [] (fun x => .tup [.agg [(eOP res.1.fRows.fRoot), dT res.1.fTail, dN res.1.fEnd], dQ, dN res.2]) (fun x => []) := grid_Load_c h0
noncomputable def filter_wrong.l1 (a0 : List filter_Test) (s3 : Int) : Option (Lp Int (Ex Unit Bool)) :=
  if s3 < (a0.length : Int) then
    bnd (idx a0 s3) fun x12 =>
    bnd (filter_Right x12) fun x14 =>
    if x14 = true then
      some (Lp.next (w64 (s3 + 1)))
    else
      some (Lp.done (Ex.ret true))
  else
    some (Lp.done (Ex.brk ()))
noncomputable def filter_wrong (a0 : List filter_Test) : Option Bool :=
  bnd (loop (filter_wrong.l1 a0) 0 : Option (Ex Unit Bool)) fun t1 => match t1 with
    | .brk u2 =>
      some false
    | .ret u2 => some u2
theorem filter_wrong_c {a0 : List filter_Test} {res : Bool} (h0 : filter_wrong a0 = some res) : CallF X 115 [.sl 4 (List.map e_filter_Test a0)] [] (fun x => (dT res)) (fun x => []) := by
 unfold filter_wrong at h0
 refine CallF.mkG (X := X) rfl Tryz.func115 rfl rfl Tryz.ntmps115 rfl rfl ?_
 refine aS ?_
 refine aA rfl rfl ?_
 refine aN rfl ?_
 refine T.seq ?_
 refine aS ?_
 refine aA rfl rfl ?_
 refine TL.op1 (OpR.cast (OpR.pure rfl) (intE (lenM _ _))) rfl ?_
 refine aA rfl rfl ?_
 refine aN rfl ?_
 obtain ⟨t1, ht1, h0⟩ := bS h0
 refine T.cutC (fun S' => ∃ u2, t1 = Ex.brk u2 ∧ S' = ⟨[(2, (dT false))], [], 15⟩) (fun _ h => h) ?_ ?_
 rotate_left
 · rintro _ ⟨u2, rfl, rfl⟩
   show T X _ _ _
   refine aS ?_
   refine aA rfl rfl ?_
   refine aN rfl ?_
   refine T.ret ?_
   obtain rfl := Option.some.inj h0
   exact rO [] [2] rfl undef (cT rfl ResL.nil) rfl rfl rfl rfl
 refine T.block ?_
 obtain ⟨n4, n9⟩ := loop_some ht1
 refine T.loop (fun n S' => ∃ S'', Gst S' S'' ∧ ∃ s3 : Int, S'' = ⟨[(7, (dN s3)), (6, (dN (a0.length : Int))), (5, .sl 4 (List.map e_filter_Test a0)), (2, (dT false))], [], 15⟩ ∧ iter (filter_wrong.l1 a0) n s3 = some t1) n4 ?_ ?_
 · exact ⟨_, Gst.only [2, 5, 6, 7] rfl, 0, rfl, n9⟩
 rintro n4 _ ⟨_, g, s3, rfl, i8⟩
 refine T.ghost g ?_
 obtain ⟨m5, q6, rfl, q7, i8⟩ := iter_succ i8
 unfold filter_wrong.l1 at q7
 refine aS ?_
 refine aA rfl rfl ?_
 refine aN rfl ?_
 refine T.seq ?_
 rcases ite_some q7 with ⟨c11, q7⟩ | ⟨c11, q7⟩
 rotate_left
 · refine T.condF rfl (decide_eq_false c11) ?_
   refine T.exit ?_
   obtain rfl := Option.some.inj q7
   obtain rfl : _ = _ := i8
   exact ⟨_, Gst.only [2] rfl, _, rfl, rfl⟩
 refine T.condT rfl (decide_eq_true c11) ?_
 refine aK rfl ?_
 refine T.seq ?_
 refine T.block ?_
 refine aS ?_
 obtain ⟨x12, hx12, q7⟩ := bS q7
 refine TL.op1 (OpR.indexM e_filter_Test hx12 rfl rfl rfl rfl rfl) rfl ?_
 refine aA rfl rfl ?_
 refine TL.op (OpR.alloc rfl rfl (fun _ => rfl)) rfl (fun p13 => ?_)
 refine TL.op0 (OpR.store 0 rfl rfl rfl rfl rfl rfl rfl rfl) ?_
 refine aN rfl ?_
 refine aS ?_
 refine TL.op1 (OpR.loadPtr 0 rfl rfl rfl rfl) rfl ?_
 obtain ⟨x14, hx14, q7⟩ := bS q7
 refine TL.op1 (OpR.call0 fn33 (filter_Right_c hx14) rfl) rfl ?_
 refine aA rfl rfl ?_
 refine aN rfl ?_
 rcases ite_some q7 with ⟨c15, q7⟩ | ⟨c15, q7⟩
 · refine T.condF rfl (not_t (c15)) ?_
   refine aK rfl ?_
   refine T.region ?_
   iterate 2 refine aA rfl rfl ?_
   refine TL.nil ?_
   obtain rfl := Option.some.inj q7
   exact ⟨m5, Nat.lt_succ_self _, _, gP [2, 5, 6, 7] [] rfl rfl rfl, w64 (s3 + 1), rfl, i8⟩
 refine T.condT rfl (not_f (eq_false_of_ne_true c15)) ?_
 refine aS ?_
 refine aA rfl rfl ?_
 refine aN rfl ?_
 refine T.ret ?_
 obtain rfl := Option.some.inj q7
 obtain rfl : _ = _ := i8
 obtain rfl := Option.some.inj h0
 exact rP [] [2] [] rfl rfl rfl undef (cT rfl ResL.nil) rfl rfl rfl rfl
noncomputable def tree_Tree_row_Row_Len (a0 : tree_Tree_damier_row_Row) : Option Int :=
  bnd (some a0.fRoot) fun q1 => match q1 with
    | none =>
      some 0
    | some z2 =>
      bnd (o_tree_Node_damier_row_Row z2) fun x3 =>
      some x3.fN
theorem tree_Tree_row_Row_Len_c {a0 : tree_Tree_damier_row_Row} {res : Int} (h0 : tree_Tree_row_Row_Len a0 = some res) : CallF X 79 [.agg [(eOP a0.fRoot)]] [] (fun x => (dN res)) (fun x => []) := by
 unfold tree_Tree_row_Row_Len at h0
 refine CallF.mkG (X := X) rfl Tryz.func79 rfl rfl Tryz.ntmps79 rfl rfl ?_
 refine aS ?_
 refine TL.op1 (OpR.boxImm rfl rfl) rfl ?_
 refine aA rfl rfl ?_
 refine aN rfl ?_
 refine T.seq ?_
 refine aS ?_
 refine aA rfl rfl ?_
 obtain ⟨q1, hq1, h0⟩ := bS h0
 rcases q1 with _ | z2
 · dsimp only at h0
   refine TL.op1 (OpR.cast (OpR.pure rfl) (congrArg eOP (Option.some.inj hq1))) rfl ?_
   refine TL.op1 (OpR.ptrNil (A := none) rfl rfl rfl) rfl ?_
   refine aN rfl ?_
   refine T.condT rfl rfl ?_
   refine aS ?_
   refine aA rfl rfl ?_
   refine aN rfl ?_
   refine T.ret ?_
   obtain rfl := Option.some.inj h0
   exact rO [] [2] rfl undef (cT rfl ResL.nil) rfl rfl rfl rfl
 dsimp only at h0
 obtain ⟨x3, hx3, h0⟩ := bS h0
 rw [o_tree_Node_damier_row_Row_eq hx3] at hq1
 refine TL.op1 (OpR.cast (OpR.pure rfl) (congrArg eOP (Option.some.inj hq1))) rfl ?_
 refine TL.op1 (OpR.nodNil rfl rfl rfl) rfl ?_
 refine aN rfl ?_
 refine T.condF rfl rfl ?_
 refine aK rfl ?_
 refine aS ?_
 refine aA rfl rfl ?_
 refine TL.op1 (OpR.cast (OpR.pure rfl) (congrArg eOP (Option.some.inj hq1))) rfl ?_
 iterate 4 refine aA rfl rfl ?_
 refine aN rfl ?_
 refine T.ret ?_
 obtain rfl := Option.some.inj h0
 exact rO [] [2] rfl undef (cT rfl ResL.nil) rfl rfl rfl rfl
noncomputable def walk_stretch_row_Row (a0 : tree_Tree_damier_row_Row) (a1 : Int) (a2 : Int) : Option (Int × Int) :=
  bnd (tree_Tree_row_Row_Len a0) fun x1 =>
  bnd (some (if x1 < (if 0 > a1 then 0 else a1) then x1 else (if 0 > a1 then 0 else a1))) fun x2 =>
  bnd (tree_Tree_row_Row_Len a0) fun x3 =>
  bnd (some (if x3 < (if x2 > a2 then x2 else a2) then x3 else (if x2 > a2 then x2 else a2))) fun x4 =>
  some (x2, x4)
theorem walk_stretch_row_Row_c {a0 : tree_Tree_damier_row_Row} {a1 : Int} {a2 : Int} {res : Int × Int} (h0 : walk_stretch_row_Row a0 a1 a2 = some res) : CallF X 145 [.agg [(eOP a0.fRoot)], dN a1, dN a2] [] (fun x => .tup [dN res.1, dN res.2]) (fun x => []) := by
 unfold walk_stretch_row_Row at h0
 refine CallF.mkG (X := X) rfl Tryz.func145 rfl rfl Tryz.ntmps145 rfl rfl ?_
 refine aS ?_
 refine TL.op1 (OpR.boxImm rfl rfl) rfl ?_
 iterate 2 refine aA rfl rfl ?_
 refine aN rfl ?_
 refine aS ?_
 iterate 3 refine aA rfl rfl ?_
 obtain ⟨x1, hx1, h0⟩ := bS h0
 refine TL.op1 (OpR.call0 fn79 (tree_Tree_row_Row_Len_c hx1) rfl) rfl ?_
 obtain ⟨x2, hx2, h0⟩ := bS h0
 refine TL.op1 (OpR.cast (OpR.pure rfl) (intE (Option.some.inj hx2))) rfl ?_
 refine aA rfl rfl ?_
 refine aN rfl ?_
 refine aS ?_
 iterate 5 refine aA rfl rfl ?_
 obtain ⟨x3, hx3, h0⟩ := bS h0
 refine TL.op1 (OpR.call0 fn79 (tree_Tree_row_Row_Len_c hx3) rfl) rfl ?_
 obtain ⟨x4, hx4, h0⟩ := bS h0
 refine TL.op1 (OpR.cast (OpR.pure rfl) (intE (Option.some.inj hx4))) rfl ?_
 iterate 2 refine aA rfl rfl ?_
 refine aN rfl ?_
 refine T.ret ?_
 obtain rfl := Option.some.inj h0
 exact rO [] [6, 7] rfl undef (cT rfl (cT rfl ResL.nil)) rfl rfl rfl rfl
noncomputable def walk_Range_row_Row (a0 : tree_Tree_damier_row_Row) (a1 : Int) (a2 : Int) : Option (Int × Int × (Option NP)) :=
  bnd (walk_stretch_row_Row a0 a1 a2) fun x4 =>
  some (x4.1, x4.2, a0.fRoot)
theorem walk_Range_row_Row_c {a0 : tree_Tree_damier_row_Row} {a1 : Int} {a2 : Int} {res : Int × Int × (Option NP)} (h0 : walk_Range_row_Row a0 a1 a2 = some res) : CallF X 80 [.agg [(eOP a0.fRoot)], dN a1, dN a2] [] (fun x => .fn (.func 146) [] [dP (blk (vn x 0)), dP (blk (vn x 1)), dP (blk (vn x 2))]) (fun x => [.var (blk (vn x 0)) [dN res.1] 3, .var (blk (vn x 1)) [dN res.2.1] 3, .var (blk (vn x 2)) [(eOP res.2.2)] 25]) := by
 unfold walk_Range_row_Row at h0
 refine CallF.mkG (X := X) rfl Tryz.func80 rfl rfl Tryz.ntmps80 rfl rfl ?_
 refine aS ?_
 refine TL.op (OpR.boxVar rfl rfl (fun _ => rfl)) rfl (fun p1 => ?_)
 refine TL.op (OpR.boxVar rfl rfl (fun _ => rfl)) rfl (fun p2 => ?_)
 refine TL.op (OpR.boxVar rfl rfl (fun _ => rfl)) rfl (fun p3 => ?_)
 refine aA rfl rfl ?_
 refine aN rfl ?_
 refine aS ?_
 refine TL.op1 (OpR.loadPtr 0 rfl rfl rfl rfl) rfl ?_
 refine TL.op1 (OpR.loadPtr 1 rfl rfl rfl rfl) rfl ?_
 refine TL.op1 (OpR.loadPtr 2 rfl rfl rfl rfl) rfl ?_
 obtain ⟨x4, hx4, h0⟩ := bS h0
 refine TL.op1 (OpR.call0 fn145 (walk_stretch_row_Row_c hx4) rfl) rfl ?_
 iterate 3 refine aA rfl rfl ?_
 refine TL.op0 (OpR.store 1 rfl rfl rfl rfl rfl rfl rfl rfl) ?_
 refine TL.op0 (OpR.store 2 rfl rfl rfl rfl rfl rfl rfl rfl) ?_
 refine aN rfl ?_
 refine aS ?_
 iterate 2 refine aA rfl rfl ?_
 refine aN rfl ?_
 refine T.ret ?_
 obtain rfl := Option.some.inj h0
 exact rP [0, 1, 2] [6] [1, 2, 0] rfl rfl rfl (.tuple #[p2, p3, p1]) (cT rfl ResL.nil) rfl rfl rfl rfl
noncomputable def tree_Tree_row_Row_Root (a0 : tree_Tree_damier_row_Row) : Option (Unit ⊕ ((List NP) × (List row_Row) × Int)) :=
  bnd (some a0.fRoot) fun q1 => match q1 with
    | none =>
      some (Sum.inl ())
    | some z2 =>
      bnd (o_tree_Node_damier_row_Row z2) fun x3 =>
      some (Sum.inr (x3.fKids, x3.fItems, x3.fN))
theorem tree_Tree_row_Row_Root_c {a0 : tree_Tree_damier_row_Row} {res : Unit ⊕ ((List NP) × (List row_Row) × Int)} (h0 : tree_Tree_row_Row_Root a0 = some res) : CallF X 148 [.agg [(eOP a0.fRoot)]] [] (fun x => (match res with | .inl res => dQ | .inr res => .nod [.sl 1 (List.map eNP res.1), .sl 3 (List.map e_row_Row res.2.1), dN res.2.2])) (fun x => (match res with | .inl res => [] | .inr res => [])) := by
 unfold tree_Tree_row_Row_Root at h0
 refine CallF.mkG (X := X) rfl Tryz.func148 rfl rfl Tryz.ntmps148 rfl rfl ?_
 refine aS ?_
 refine TL.op1 (OpR.boxImm rfl rfl) rfl ?_
 refine aA rfl rfl ?_
 refine aN rfl ?_
 refine aS ?_
 refine aA rfl rfl ?_
 obtain ⟨q1, hq1, h0⟩ := bS h0
 rcases q1 with _ | z2
 · dsimp only at h0
   refine TL.op1 (OpR.cast (OpR.pure rfl) (congrArg eOP (Option.some.inj hq1))) rfl ?_
   refine aA rfl rfl ?_
   refine aN rfl ?_
   refine T.ret ?_
   obtain rfl := Option.some.inj h0
   exact rO [] [2] rfl undef (cT rfl ResL.nil) rfl rfl rfl rfl
 dsimp only at h0
 obtain ⟨x3, hx3, h0⟩ := bS h0
 rw [o_tree_Node_damier_row_Row_eq hx3] at hq1
 refine TL.op1 (OpR.cast (OpR.pure rfl) (congrArg eOP (Option.some.inj hq1))) rfl ?_
 refine aA rfl rfl ?_
 refine aN rfl ?_
 refine T.ret ?_
 obtain rfl := Option.some.inj h0
 exact rO [] [2] rfl undef (cT rfl ResL.nil) rfl rfl rfl rfl
theorem tree_Tree_row_Row_Root_cx1 {a0 : tree_Tree_damier_row_Row} {res : Unit} (h0 : tree_Tree_row_Row_Root a0 = some (Sum.inl res)) : CallF X 148 [.agg [(eOP a0.fRoot)]] [] (fun x => dQ) (fun x => []) := tree_Tree_row_Row_Root_c h0
theorem tree_Tree_row_Row_Root_cx2 {a0 : tree_Tree_damier_row_Row} {res : (List NP) × (List row_Row) × Int} (h0 : tree_Tree_row_Row_Root a0 = some (Sum.inr res)) : CallF X 148 [.agg [(eOP a0.fRoot)]] [] (fun x => .nod [.sl 1 (List.map eNP res.1), .sl 3 (List.map e_row_Row res.2.1), dN res.2.2]) (fun x => []) := tree_Tree_row_Row_Root_c h0
noncomputable def walk_stack_row_Row_down.l1 (a4 : Int) (s4 : (List NP) × (List row_Row) × Int × Int × (List walk_frame_damier_row_Row)) (s14 : Int × Int) : Option (Lp (Int × Int) (Int × Int)) :=
  bnd (if s14.2 < (w64 ((s4.1.length : Int) - 1)) then
    bnd (idx s4.1 s14.2) fun x24 =>
    bnd (o_tree_Node_damier_row_Row x24) fun x25 =>
    some (decide (a4 ≥ (w64 (s14.1 + x25.fN))))
  else
    some false : Option Bool) fun t22 =>
  if t22 = true then
    bnd (idx s4.1 s14.2) fun x27 =>
    bnd (o_tree_Node_damier_row_Row x27) fun x28 =>
    some (Lp.next (w64 (s14.1 + x28.fN), w64 (s14.2 + 1)))
  else
    some (Lp.done (s14.1, s14.2))
noncomputable def walk_stack_row_Row_down.l2 (a4 : Int) (s4 : (List NP) × (List row_Row) × Int × Int × (List walk_frame_damier_row_Row)) : Option (Lp ((List NP) × (List row_Row) × Int × Int × (List walk_frame_damier_row_Row)) ((List NP) × (List row_Row) × Int × Int × (List walk_frame_damier_row_Row))) :=
  if (s4.1.length : Int) > 0 then
    bnd (loop (walk_stack_row_Row_down.l1 a4 s4) (s4.2.2.2.1, 0) : Option (Int × Int)) fun t13 =>
    bnd (app 24 s4.2.2.2.2 [(⟨(some (c_tree_Node_damier_row_Row (⟨s4.1, s4.2.1, s4.2.2.1⟩ : tree_Node_damier_row_Row))), t13.1, t13.2⟩ : walk_frame_damier_row_Row)]) fun x29 =>
    bnd (idx s4.1 t13.2) fun x31 =>
    bnd (o_tree_Node_damier_row_Row x31) fun x32 =>
    some (Lp.next (x32.fKids, x32.fItems, x32.fN, t13.1, x29))
  else
    some (Lp.done (s4.1, s4.2.1, s4.2.2.1, s4.2.2.2.1, s4.2.2.2.2))
noncomputable def walk_stack_row_Row_down (a0 : List NP) (a1 : List row_Row) (a2 : Int) (a3 : Int) (a4 : Int) : Option (List walk_frame_damier_row_Row) :=
  bnd (loop (walk_stack_row_Row_down.l2 a4) (a0, a1, a2, a3, []) : Option ((List NP) × (List row_Row) × Int × Int × (List walk_frame_damier_row_Row))) fun t1 =>
  bnd (app 24 t1.2.2.2.2 [(⟨(some (c_tree_Node_damier_row_Row (⟨t1.1, t1.2.1, t1.2.2.1⟩ : tree_Node_damier_row_Row))), t1.2.2.2.1, w64 (a4 - t1.2.2.2.1)⟩ : walk_frame_damier_row_Row)]) fun x33 =>
  some x33
theorem walk_stack_row_Row_down_c {a0 : List NP} {a1 : List row_Row} {a2 : Int} {a3 : Int} {a4 : Int} {b0 : Nat} {res : (List walk_frame_damier_row_Row)} (h0 : walk_stack_row_Row_down a0 a1 a2 a3 a4 = some res) : CallF X 147 [dP b0, .nod [.sl 1 (List.map eNP a0), .sl 3 (List.map e_row_Row a1), dN a2], dN a3, dN a4] [.var b0 [.val (.slice none 0 0)] 228] (fun x => .tup []) (fun x => [.var b0 [.val (vn x 0)] 228, .row (vn x 0) (List.map e_walk_frame_damier_row_Row res) 3 234]) := by
 unfold walk_stack_row_Row_down at h0
 refine CallF.mkG (X := X) rfl Tryz.func147 rfl rfl Tryz.ntmps147 rfl rfl ?_
 refine T.seq ?_
 obtain ⟨t1, ht1, h0⟩ := bS h0
 refine T.cutC (fun S' => ∃ y2 : Value, S' = ⟨[(3, (dN a4)), (2, (dN t1.2.2.2.1)), (1, .nod [.sl 1 (List.map eNP t1.1), .sl 3 (List.map e_row_Row t1.2.1), dN t1.2.2.1]), (0, (dP b0))], [.var b0 [.val y2] 228, .row y2 (List.map e_walk_frame_damier_row_Row t1.2.2.2.2) 3 234], 88⟩) (fun _ h => h) ?_ ?_
 rotate_left
 · rintro _ ⟨y2, rfl⟩
   show T X _ _ _
   refine T.region ?_
   iterate 4 refine aA rfl rfl ?_
   refine TL.op1 (OpR.loadPtr 0 rfl rfl rfl rfl) rfl ?_
   iterate 5 refine aA rfl rfl ?_
   refine TL.op1 (OpR.build rfl rfl rfl rfl rfl) rfl ?_
   refine TL.op1 (OpR.lit rfl rfl rfl rfl rfl rfl rfl) rfl ?_
   obtain ⟨x33, hx33, h0⟩ := bS h0
   refine TL.op (OpR.appendM (m := [(⟨(some (c_tree_Node_damier_row_Row (⟨t1.1, t1.2.1, t1.2.2.1⟩ : tree_Node_damier_row_Row))), t1.2.2.2.1, w64 (a4 - t1.2.2.2.1)⟩ : walk_frame_damier_row_Row)]) e_walk_frame_damier_row_Row 1 hx33 rfl rfl rfl rfl rfl rfl rfl rfl rfl (fun _ => rfl)) rfl (fun v34 => ?_)
   iterate 2 refine aA rfl rfl ?_
   refine TL.op0 (OpR.store 0 rfl rfl rfl rfl rfl rfl rfl rfl) ?_
   refine TL.nil ?_
   obtain rfl := Option.some.inj h0
   exact PostG.finP (ks := [0, 1]) (Gst.only [] rfl) (.tuple #[v34]) ResL.nil rfl rfl rfl rfl
 refine T.block ?_
 obtain ⟨n5, n10⟩ := loop_some ht1
 refine T.loop (fun n S' => ∃ S'', Gst S' S'' ∧ ∃ y3 : Value, ∃ s4 : (List NP) × (List row_Row) × Int × Int × (List walk_frame_damier_row_Row), S'' = ⟨[(3, (dN a4)), (2, (dN s4.2.2.2.1)), (1, .nod [.sl 1 (List.map eNP s4.1), .sl 3 (List.map e_row_Row s4.2.1), dN s4.2.2.1]), (0, (dP b0))], [.var b0 [.val y3] 228, .row y3 (List.map e_walk_frame_damier_row_Row s4.2.2.2.2) 3 234], 88⟩ ∧ iter (walk_stack_row_Row_down.l2 a4) n s4 = some t1) n5 ?_ ?_
 · exact ⟨_, Gst.trans (Gst.only [0, 1, 2, 3] rfl) (Gst.nilRow (ow := [.var b0 [.val (.slice none 0 0)] 228]) 3 234 rfl), (.slice none 0 0), (a0, a1, a2, a3, []), rfl, n10⟩
 rintro n5 _ ⟨_, g, y3, s4, rfl, i9⟩
 refine T.ghost g ?_
 obtain ⟨m6, q7, rfl, q8, i9⟩ := iter_succ i9
 unfold walk_stack_row_Row_down.l2 at q8
 refine T.seq ?_
 refine aS ?_
 iterate 4 refine aA rfl rfl ?_
 refine TL.op1 (OpR.cast (OpR.pure rfl) (intE (lenM _ _))) rfl ?_
 refine aA rfl rfl ?_
 refine aN rfl ?_
 rcases ite_some q8 with ⟨c12, q8⟩ | ⟨c12, q8⟩
 rotate_left
 · refine T.condF rfl (decide_eq_false c12) ?_
   refine T.exit ?_
   obtain rfl := Option.some.inj q8
   obtain rfl : _ = _ := i9
   exact ⟨_, Gst.only [0, 1, 2, 3] rfl, y3, rfl⟩
 refine T.condT rfl (decide_eq_true c12) ?_
 refine aK rfl ?_
 refine T.block ?_
 refine aS ?_
 refine aA rfl rfl ?_
 refine aN rfl ?_
 refine T.seq ?_
 obtain ⟨t13, ht13, q8⟩ := bS q8
 refine T.cutC (fun S' => S' = ⟨[(8, (dN t13.2)), (3, (dN a4)), (2, (dN t13.1)), (1, .nod [.sl 1 (List.map eNP s4.1), .sl 3 (List.map e_row_Row s4.2.1), dN s4.2.2.1]), (0, (dP b0))], [.var b0 [.val y3] 228, .row y3 (List.map e_walk_frame_damier_row_Row s4.2.2.2.2) 3 234], 88⟩) (fun _ h => h) ?_ ?_
 rotate_left
 · rintro _ rfl
   show T X _ _ _
   refine aS ?_
   iterate 4 refine aA rfl rfl ?_
   refine TL.op1 (OpR.loadPtr 0 rfl rfl rfl rfl) rfl ?_
   iterate 3 refine aA rfl rfl ?_
   refine TL.op1 (OpR.build rfl rfl rfl rfl rfl) rfl ?_
   refine TL.op1 (OpR.lit rfl rfl rfl rfl rfl rfl rfl) rfl ?_
   obtain ⟨x29, hx29, q8⟩ := bS q8
   refine TL.op (OpR.appendM (m := [(⟨(some (c_tree_Node_damier_row_Row (⟨s4.1, s4.2.1, s4.2.2.1⟩ : tree_Node_damier_row_Row))), t13.1, t13.2⟩ : walk_frame_damier_row_Row)]) e_walk_frame_damier_row_Row 1 hx29 rfl rfl rfl rfl rfl rfl rfl rfl rfl (fun _ => rfl)) rfl (fun v30 => ?_)
   iterate 2 refine aA rfl rfl ?_
   refine TL.op0 (OpR.store 0 rfl rfl rfl rfl rfl rfl rfl rfl) ?_
   refine aN rfl ?_
   refine T.region ?_
   iterate 5 refine aA rfl rfl ?_
   obtain ⟨x31, hx31, q8⟩ := bS q8
   obtain ⟨x32, hx32, q8⟩ := bS q8
   rw [o_tree_Node_damier_row_Row_eq hx32] at hx31
   refine TL.op1 (OpR.indexM eNP hx31 rfl rfl rfl rfl rfl) rfl ?_
   iterate 2 refine aA rfl rfl ?_
   refine TL.nil ?_
   obtain rfl := Option.some.inj q8
   exact ⟨m6, Nat.lt_succ_self _, _, Gst.only [0, 1, 2, 3] rfl, v30, (x32.fKids, x32.fItems, x32.fN, t13.1, x29), rfl, i9⟩
 refine T.block ?_
 obtain ⟨n15, n20⟩ := loop_some ht13
 refine T.loop (fun n S' => ∃ S'', Gst S' S'' ∧ ∃ s14 : Int × Int, S'' = ⟨[(8, (dN s14.2)), (3, (dN a4)), (2, (dN s14.1)), (1, .nod [.sl 1 (List.map eNP s4.1), .sl 3 (List.map e_row_Row s4.2.1), dN s4.2.2.1]), (0, (dP b0))], [.var b0 [.val y3] 228, .row y3 (List.map e_walk_frame_damier_row_Row s4.2.2.2.2) 3 234], 88⟩ ∧ iter (walk_stack_row_Row_down.l1 a4 s4) n s14 = some t13) n15 ?_ ?_
 · exact ⟨_, Gst.only [0, 1, 2, 3, 8] rfl, (s4.2.2.2.1, 0), rfl, n20⟩
 rintro n15 _ ⟨_, g, s14, rfl, i19⟩
 refine T.ghost g ?_
 obtain ⟨m16, q17, rfl, q18, i19⟩ := iter_succ i19
 unfold walk_stack_row_Row_down.l1 at q18
 refine T.seq ?_
 refine T.seq ?_
 obtain ⟨t22, ht22, q18⟩ := bS q18
 refine T.cutC (fun S' => S' = ⟨[(38, (dT t22)), (8, (dN s14.2)), (3, (dN a4)), (2, (dN s14.1)), (1, .nod [.sl 1 (List.map eNP s4.1), .sl 3 (List.map e_row_Row s4.2.1), dN s4.2.2.1]), (0, (dP b0))], [.var b0 [.val y3] 228, .row y3 (List.map e_walk_frame_damier_row_Row s4.2.2.2.2) 3 234], 88⟩) (fun _ h => h) ?_ ?_
 rotate_left
 · rintro _ rfl
   show T X _ _ _
   rcases ite_some q18 with ⟨c26, q18⟩ | ⟨c26, q18⟩
   rotate_left
   · refine T.condF rfl (eq_false_of_ne_true c26) ?_
     refine T.exit ?_
     obtain rfl := Option.some.inj q18
     obtain rfl : _ = _ := i19
     exact ⟨_, Gst.only [0, 1, 2, 3, 8] rfl, rfl⟩
   refine T.condT rfl (c26) ?_
   refine aK rfl ?_
   refine T.block ?_
   refine aS ?_
   iterate 6 refine aA rfl rfl ?_
   obtain ⟨x27, hx27, q18⟩ := bS q18
   obtain ⟨x28, hx28, q18⟩ := bS q18
   rw [o_tree_Node_damier_row_Row_eq hx28] at hx27
   refine TL.op1 (OpR.indexM eNP hx27 rfl rfl rfl rfl rfl) rfl ?_
   iterate 6 refine aA rfl rfl ?_
   refine aN rfl ?_
   refine T.region ?_
   iterate 3 refine aA rfl rfl ?_
   refine TL.nil ?_
   obtain rfl := Option.some.inj q18
   exact ⟨m16, Nat.lt_succ_self _, _, Gst.only [0, 1, 2, 3, 8] rfl, (w64 (s14.1 + x28.fN), w64 (s14.2 + 1)), rfl, i19⟩
 refine T.region ?_
 iterate 5 refine aA rfl rfl ?_
 refine TL.op1 (OpR.cast (OpR.pure rfl) (intE (lenM _ _))) rfl ?_
 iterate 3 refine aA rfl rfl ?_
 rcases ite_some ht22 with ⟨c23, ht22⟩ | ⟨c23, ht22⟩
 rotate_left
 · refine TL.off rfl rfl rfl rfl (decide_eq_false c23) rfl rfl ?_
   refine TL.off rfl rfl rfl rfl (decide_eq_false c23) rfl rfl ?_
   refine TL.off rfl rfl rfl rfl (decide_eq_false c23) rfl rfl ?_
   refine TL.off rfl rfl rfl rfl (decide_eq_false c23) rfl rfl ?_
   refine TL.off rfl rfl rfl rfl (decide_eq_false c23) rfl rfl ?_
   refine TL.off rfl rfl rfl rfl (decide_eq_false c23) rfl rfl ?_
   refine TL.off rfl rfl rfl rfl (decide_eq_false c23) rfl rfl ?_
   refine TL.off rfl rfl rfl rfl (decide_eq_false c23) rfl rfl ?_
   refine TL.off rfl rfl rfl rfl (decide_eq_false c23) rfl rfl ?_
   refine TL.off rfl rfl rfl rfl (decide_eq_false c23) rfl rfl ?_
   refine TL.off rfl rfl rfl rfl (decide_eq_false c23) rfl rfl ?_
   refine TL.off rfl rfl rfl rfl (decide_eq_false c23) rfl rfl ?_
   refine TL.off rfl rfl rfl rfl (decide_eq_false c23) rfl rfl ?_
   refine TL.off rfl rfl rfl rfl (decide_eq_false c23) rfl rfl ?_
   refine TL.op1 (OpR.pickF rfl (decide_eq_false c23) rfl) rfl ?_
   refine TL.nil ?_
   obtain rfl := Option.some.inj ht22
   exact ⟨_, Gst.only [0, 1, 2, 3, 8, 38] rfl, rfl⟩
 refine TL.on rfl rfl rfl rfl (decide_eq_true c23) ?_
 refine aA rfl rfl ?_
 refine TL.on rfl rfl rfl rfl (decide_eq_true c23) ?_
 refine aA rfl rfl ?_
 refine TL.on rfl rfl rfl rfl (decide_eq_true c23) ?_
 refine aA rfl rfl ?_
 refine TL.on rfl rfl rfl rfl (decide_eq_true c23) ?_
 refine aA rfl rfl ?_
 refine TL.on rfl rfl rfl rfl (decide_eq_true c23) ?_
 refine aA rfl rfl ?_
 refine TL.on rfl rfl rfl rfl (decide_eq_true c23) ?_
 refine aA rfl rfl ?_
 refine TL.on rfl rfl rfl rfl (decide_eq_true c23) ?_
 refine aA rfl rfl ?_
 refine TL.on rfl rfl rfl rfl (decide_eq_true c23) ?_
 obtain ⟨x24, hx24, ht22⟩ := bS ht22
 obtain ⟨x25, hx25, ht22⟩ := bS ht22
 rw [o_tree_Node_damier_row_Row_eq hx25] at hx24
 refine TL.op1 (OpR.indexM eNP hx24 rfl rfl rfl rfl rfl) rfl ?_
 refine TL.on rfl rfl rfl rfl (decide_eq_true c23) ?_
 refine aA rfl rfl ?_
 refine TL.on rfl rfl rfl rfl (decide_eq_true c23) ?_
 refine aA rfl rfl ?_
 refine TL.on rfl rfl rfl rfl (decide_eq_true c23) ?_
 refine aA rfl rfl ?_
 refine TL.on rfl rfl rfl rfl (decide_eq_true c23) ?_
 refine aA rfl rfl ?_
 refine TL.on rfl rfl rfl rfl (decide_eq_true c23) ?_
 refine aA rfl rfl ?_
 refine TL.on rfl rfl rfl rfl (decide_eq_true c23) ?_
 refine aA rfl rfl ?_
 refine TL.op1 (OpR.pickT rfl (decide_eq_true c23) rfl) rfl ?_
 refine TL.nil ?_
 obtain rfl := Option.some.inj ht22
 exact ⟨_, Gst.only [0, 1, 2, 3, 8, 38] rfl, rfl⟩
noncomputable def walk_stack_row_Row_top (a0 : List walk_frame_damier_row_Row) : Option Int :=
  bnd (idx a0 (w64 ((a0.length : Int) - 1))) fun x2 =>
  some (w64 ((a0.length : Int) - 1))
theorem walk_stack_row_Row_top_c {a0 : List walk_frame_damier_row_Row} {b0 : Nat} {v1 : Value} {res : Int} (h0 : walk_stack_row_Row_top a0 = some res) : CallF X 149 [dP b0] [.var b0 [.val v1] 228, .row v1 (List.map e_walk_frame_damier_row_Row a0) 3 234] (fun x => .val (.pointer (some ⟨blk v1, res.toNat * 3, none⟩))) (fun x => [.var b0 [.val v1] 228, .row v1 (List.map e_walk_frame_damier_row_Row a0) 3 234]) := by
 unfold walk_stack_row_Row_top at h0
 refine CallF.mkG (X := X) rfl Tryz.func149 rfl rfl Tryz.ntmps149 rfl rfl ?_
 refine aS ?_
 refine aA rfl rfl ?_
 refine aN rfl ?_
 refine T.seq ?_
 obtain ⟨x2, hx2, h0⟩ := bS h0
 refine T.drawQ drawsX [dP b0, dP b0, dP b0, .val v1, dP b0, dP b0, dP b0, .val v1, dN (a0.length : Int), dN (w64 ((a0.length : Int) - 1)), .val (.pointer (some ⟨blk v1, (w64 ((a0.length : Int) - 1)).toNat * 3, none⟩)), .val (.pointer (some ⟨blk v1, (w64 ((a0.length : Int) - 1)).toNat * 3, none⟩))] [2] (by decide +kernel) rfl ?_ rfl ?_
 rotate_left
 · show T X _ _ _
   refine T.ret ?_
   obtain rfl := Option.some.inj h0
   exact rO [0, 1] [2] rfl undef (cT rfl ResL.nil) rfl rfl rfl rfl
 iterate 3 refine aB rfl rfl rfl ?_
 refine OpsQ.yes (Want.plain rfl) rfl (OpR.loadPtr 0 rfl rfl rfl rfl) ?_
 iterate 3 refine aB rfl rfl rfl ?_
 refine OpsQ.yes (Want.plain rfl) rfl (OpR.loadPtr 0 rfl rfl rfl rfl) ?_
 refine OpsQ.yes (Want.plain rfl) rfl (OpR.rowLenM e_walk_frame_damier_row_Row 1 rfl rfl rfl rfl) ?_
 refine aB rfl rfl rfl ?_
 refine OpsQ.yes (Want.plain rfl) rfl (OpR.rowIndexM e_walk_frame_damier_row_Row 1 hx2 rfl rfl rfl rfl rfl rfl rfl) ?_
 refine aB rfl rfl rfl ?_
 exact OpsQ.nil
noncomputable def walk_stack_row_Row_down_2.l1 (a4 : Int) (s4 : (List NP) × (List row_Row) × Int × Int × (List walk_frame_damier_row_Row)) (s14 : Int × Int) : Option (Lp (Int × Int) (Int × Int)) :=
  bnd (if s14.2 < (w64 ((s4.1.length : Int) - 1)) then
    bnd (idx s4.1 s14.2) fun x24 =>
    bnd (o_tree_Node_damier_row_Row x24) fun x25 =>
    some (decide (a4 ≥ (w64 (s14.1 + x25.fN))))
  else
    some false : Option Bool) fun t22 =>
  if t22 = true then
    bnd (idx s4.1 s14.2) fun x27 =>
    bnd (o_tree_Node_damier_row_Row x27) fun x28 =>
    some (Lp.next (w64 (s14.1 + x28.fN), w64 (s14.2 + 1)))
  else
    some (Lp.done (s14.1, s14.2))
noncomputable def walk_stack_row_Row_down_2.l2 (a4 : Int) (s4 : (List NP) × (List row_Row) × Int × Int × (List walk_frame_damier_row_Row)) : Option (Lp ((List NP) × (List row_Row) × Int × Int × (List walk_frame_damier_row_Row)) ((List NP) × (List row_Row) × Int × Int × (List walk_frame_damier_row_Row))) :=
  if (s4.1.length : Int) > 0 then
    bnd (loop (walk_stack_row_Row_down_2.l1 a4 s4) (s4.2.2.2.1, 0) : Option (Int × Int)) fun t13 =>
    bnd (app 24 s4.2.2.2.2 [(⟨(some (c_tree_Node_damier_row_Row (⟨s4.1, s4.2.1, s4.2.2.1⟩ : tree_Node_damier_row_Row))), t13.1, t13.2⟩ : walk_frame_damier_row_Row)]) fun x29 =>
    bnd (idx s4.1 t13.2) fun x31 =>
    bnd (o_tree_Node_damier_row_Row x31) fun x32 =>
    some (Lp.next (x32.fKids, x32.fItems, x32.fN, t13.1, x29))
  else
    some (Lp.done (s4.1, s4.2.1, s4.2.2.1, s4.2.2.2.1, s4.2.2.2.2))
noncomputable def walk_stack_row_Row_down_2 (a0 : List NP) (a1 : List row_Row) (a2 : Int) (a3 : Int) (a4 : Int) (a5 : List walk_frame_damier_row_Row) : Option (List walk_frame_damier_row_Row) :=
  bnd (loop (walk_stack_row_Row_down_2.l2 a4) (a0, a1, a2, a3, a5) : Option ((List NP) × (List row_Row) × Int × Int × (List walk_frame_damier_row_Row))) fun t1 =>
  bnd (app 24 t1.2.2.2.2 [(⟨(some (c_tree_Node_damier_row_Row (⟨t1.1, t1.2.1, t1.2.2.1⟩ : tree_Node_damier_row_Row))), t1.2.2.2.1, w64 (a4 - t1.2.2.2.1)⟩ : walk_frame_damier_row_Row)]) fun x33 =>
  some x33
theorem walk_stack_row_Row_down_2_c {a0 : List NP} {a1 : List row_Row} {a2 : Int} {a3 : Int} {a4 : Int} {a5 : List walk_frame_damier_row_Row} {b0 : Nat} {v1 : Value} {res : (List walk_frame_damier_row_Row)} (h0 : walk_stack_row_Row_down_2 a0 a1 a2 a3 a4 a5 = some res) : CallF X 147 [dP b0, .nod [.sl 1 (List.map eNP a0), .sl 3 (List.map e_row_Row a1), dN a2], dN a3, dN a4] [.var b0 [.val v1] 228, .row v1 (List.map e_walk_frame_damier_row_Row a5) 3 234] (fun x => .tup []) (fun x => [.var b0 [.val (vn x 0)] 228, .row (vn x 0) (List.map e_walk_frame_damier_row_Row res) 3 234]) := by
 unfold walk_stack_row_Row_down_2 at h0
 refine CallF.mkG (X := X) rfl Tryz.func147 rfl rfl Tryz.ntmps147 rfl rfl ?_
 refine T.seq ?_
 obtain ⟨t1, ht1, h0⟩ := bS h0
 refine T.cutC (fun S' => ∃ y2 : Value, S' = ⟨[(3, (dN a4)), (2, (dN t1.2.2.2.1)), (1, .nod [.sl 1 (List.map eNP t1.1), .sl 3 (List.map e_row_Row t1.2.1), dN t1.2.2.1]), (0, (dP b0))], [.var b0 [.val y2] 228, .row y2 (List.map e_walk_frame_damier_row_Row t1.2.2.2.2) 3 234], 88⟩) (fun _ h => h) ?_ ?_
 rotate_left
 · rintro _ ⟨y2, rfl⟩
   show T X _ _ _
   refine T.region ?_
   iterate 4 refine aA rfl rfl ?_
   refine TL.op1 (OpR.loadPtr 0 rfl rfl rfl rfl) rfl ?_
   iterate 5 refine aA rfl rfl ?_
   refine TL.op1 (OpR.build rfl rfl rfl rfl rfl) rfl ?_
   refine TL.op1 (OpR.lit rfl rfl rfl rfl rfl rfl rfl) rfl ?_
   obtain ⟨x33, hx33, h0⟩ := bS h0
   refine TL.op (OpR.appendM (m := [(⟨(some (c_tree_Node_damier_row_Row (⟨t1.1, t1.2.1, t1.2.2.1⟩ : tree_Node_damier_row_Row))), t1.2.2.2.1, w64 (a4 - t1.2.2.2.1)⟩ : walk_frame_damier_row_Row)]) e_walk_frame_damier_row_Row 1 hx33 rfl rfl rfl rfl rfl rfl rfl rfl rfl (fun _ => rfl)) rfl (fun v34 => ?_)
   iterate 2 refine aA rfl rfl ?_
   refine TL.op0 (OpR.store 0 rfl rfl rfl rfl rfl rfl rfl rfl) ?_
   refine TL.nil ?_
   obtain rfl := Option.some.inj h0
   exact PostG.finP (ks := [0, 1]) (Gst.only [] rfl) (.tuple #[v34]) ResL.nil rfl rfl rfl rfl
 refine T.block ?_
 obtain ⟨n5, n10⟩ := loop_some ht1
 refine T.loop (fun n S' => ∃ S'', Gst S' S'' ∧ ∃ y3 : Value, ∃ s4 : (List NP) × (List row_Row) × Int × Int × (List walk_frame_damier_row_Row), S'' = ⟨[(3, (dN a4)), (2, (dN s4.2.2.2.1)), (1, .nod [.sl 1 (List.map eNP s4.1), .sl 3 (List.map e_row_Row s4.2.1), dN s4.2.2.1]), (0, (dP b0))], [.var b0 [.val y3] 228, .row y3 (List.map e_walk_frame_damier_row_Row s4.2.2.2.2) 3 234], 88⟩ ∧ iter (walk_stack_row_Row_down_2.l2 a4) n s4 = some t1) n5 ?_ ?_
 · exact ⟨_, Gst.only [0, 1, 2, 3] rfl, v1, (a0, a1, a2, a3, a5), rfl, n10⟩
 rintro n5 _ ⟨_, g, y3, s4, rfl, i9⟩
 refine T.ghost g ?_
 obtain ⟨m6, q7, rfl, q8, i9⟩ := iter_succ i9
 unfold walk_stack_row_Row_down_2.l2 at q8
 refine T.seq ?_
 refine aS ?_
 iterate 4 refine aA rfl rfl ?_
 refine TL.op1 (OpR.cast (OpR.pure rfl) (intE (lenM _ _))) rfl ?_
 refine aA rfl rfl ?_
 refine aN rfl ?_
 rcases ite_some q8 with ⟨c12, q8⟩ | ⟨c12, q8⟩
 rotate_left
 · refine T.condF rfl (decide_eq_false c12) ?_
   refine T.exit ?_
   obtain rfl := Option.some.inj q8
   obtain rfl : _ = _ := i9
   exact ⟨_, Gst.only [0, 1, 2, 3] rfl, y3, rfl⟩
 refine T.condT rfl (decide_eq_true c12) ?_
 refine aK rfl ?_
 refine T.block ?_
 refine aS ?_
 refine aA rfl rfl ?_
 refine aN rfl ?_
 refine T.seq ?_
 obtain ⟨t13, ht13, q8⟩ := bS q8
 refine T.cutC (fun S' => S' = ⟨[(8, (dN t13.2)), (3, (dN a4)), (2, (dN t13.1)), (1, .nod [.sl 1 (List.map eNP s4.1), .sl 3 (List.map e_row_Row s4.2.1), dN s4.2.2.1]), (0, (dP b0))], [.var b0 [.val y3] 228, .row y3 (List.map e_walk_frame_damier_row_Row s4.2.2.2.2) 3 234], 88⟩) (fun _ h => h) ?_ ?_
 rotate_left
 · rintro _ rfl
   show T X _ _ _
   refine aS ?_
   iterate 4 refine aA rfl rfl ?_
   refine TL.op1 (OpR.loadPtr 0 rfl rfl rfl rfl) rfl ?_
   iterate 3 refine aA rfl rfl ?_
   refine TL.op1 (OpR.build rfl rfl rfl rfl rfl) rfl ?_
   refine TL.op1 (OpR.lit rfl rfl rfl rfl rfl rfl rfl) rfl ?_
   obtain ⟨x29, hx29, q8⟩ := bS q8
   refine TL.op (OpR.appendM (m := [(⟨(some (c_tree_Node_damier_row_Row (⟨s4.1, s4.2.1, s4.2.2.1⟩ : tree_Node_damier_row_Row))), t13.1, t13.2⟩ : walk_frame_damier_row_Row)]) e_walk_frame_damier_row_Row 1 hx29 rfl rfl rfl rfl rfl rfl rfl rfl rfl (fun _ => rfl)) rfl (fun v30 => ?_)
   iterate 2 refine aA rfl rfl ?_
   refine TL.op0 (OpR.store 0 rfl rfl rfl rfl rfl rfl rfl rfl) ?_
   refine aN rfl ?_
   refine T.region ?_
   iterate 5 refine aA rfl rfl ?_
   obtain ⟨x31, hx31, q8⟩ := bS q8
   obtain ⟨x32, hx32, q8⟩ := bS q8
   rw [o_tree_Node_damier_row_Row_eq hx32] at hx31
   refine TL.op1 (OpR.indexM eNP hx31 rfl rfl rfl rfl rfl) rfl ?_
   iterate 2 refine aA rfl rfl ?_
   refine TL.nil ?_
   obtain rfl := Option.some.inj q8
   exact ⟨m6, Nat.lt_succ_self _, _, Gst.only [0, 1, 2, 3] rfl, v30, (x32.fKids, x32.fItems, x32.fN, t13.1, x29), rfl, i9⟩
 refine T.block ?_
 obtain ⟨n15, n20⟩ := loop_some ht13
 refine T.loop (fun n S' => ∃ S'', Gst S' S'' ∧ ∃ s14 : Int × Int, S'' = ⟨[(8, (dN s14.2)), (3, (dN a4)), (2, (dN s14.1)), (1, .nod [.sl 1 (List.map eNP s4.1), .sl 3 (List.map e_row_Row s4.2.1), dN s4.2.2.1]), (0, (dP b0))], [.var b0 [.val y3] 228, .row y3 (List.map e_walk_frame_damier_row_Row s4.2.2.2.2) 3 234], 88⟩ ∧ iter (walk_stack_row_Row_down_2.l1 a4 s4) n s14 = some t13) n15 ?_ ?_
 · exact ⟨_, Gst.only [0, 1, 2, 3, 8] rfl, (s4.2.2.2.1, 0), rfl, n20⟩
 rintro n15 _ ⟨_, g, s14, rfl, i19⟩
 refine T.ghost g ?_
 obtain ⟨m16, q17, rfl, q18, i19⟩ := iter_succ i19
 unfold walk_stack_row_Row_down_2.l1 at q18
 refine T.seq ?_
 refine T.seq ?_
 obtain ⟨t22, ht22, q18⟩ := bS q18
 refine T.cutC (fun S' => S' = ⟨[(38, (dT t22)), (8, (dN s14.2)), (3, (dN a4)), (2, (dN s14.1)), (1, .nod [.sl 1 (List.map eNP s4.1), .sl 3 (List.map e_row_Row s4.2.1), dN s4.2.2.1]), (0, (dP b0))], [.var b0 [.val y3] 228, .row y3 (List.map e_walk_frame_damier_row_Row s4.2.2.2.2) 3 234], 88⟩) (fun _ h => h) ?_ ?_
 rotate_left
 · rintro _ rfl
   show T X _ _ _
   rcases ite_some q18 with ⟨c26, q18⟩ | ⟨c26, q18⟩
   rotate_left
   · refine T.condF rfl (eq_false_of_ne_true c26) ?_
     refine T.exit ?_
     obtain rfl := Option.some.inj q18
     obtain rfl : _ = _ := i19
     exact ⟨_, Gst.only [0, 1, 2, 3, 8] rfl, rfl⟩
   refine T.condT rfl (c26) ?_
   refine aK rfl ?_
   refine T.block ?_
   refine aS ?_
   iterate 6 refine aA rfl rfl ?_
   obtain ⟨x27, hx27, q18⟩ := bS q18
   obtain ⟨x28, hx28, q18⟩ := bS q18
   rw [o_tree_Node_damier_row_Row_eq hx28] at hx27
   refine TL.op1 (OpR.indexM eNP hx27 rfl rfl rfl rfl rfl) rfl ?_
   iterate 6 refine aA rfl rfl ?_
   refine aN rfl ?_
   refine T.region ?_
   iterate 3 refine aA rfl rfl ?_
   refine TL.nil ?_
   obtain rfl := Option.some.inj q18
   exact ⟨m16, Nat.lt_succ_self _, _, Gst.only [0, 1, 2, 3, 8] rfl, (w64 (s14.1 + x28.fN), w64 (s14.2 + 1)), rfl, i19⟩
 refine T.region ?_
 iterate 5 refine aA rfl rfl ?_
 refine TL.op1 (OpR.cast (OpR.pure rfl) (intE (lenM _ _))) rfl ?_
 iterate 3 refine aA rfl rfl ?_
 rcases ite_some ht22 with ⟨c23, ht22⟩ | ⟨c23, ht22⟩
 rotate_left
 · refine TL.off rfl rfl rfl rfl (decide_eq_false c23) rfl rfl ?_
   refine TL.off rfl rfl rfl rfl (decide_eq_false c23) rfl rfl ?_
   refine TL.off rfl rfl rfl rfl (decide_eq_false c23) rfl rfl ?_
   refine TL.off rfl rfl rfl rfl (decide_eq_false c23) rfl rfl ?_
   refine TL.off rfl rfl rfl rfl (decide_eq_false c23) rfl rfl ?_
   refine TL.off rfl rfl rfl rfl (decide_eq_false c23) rfl rfl ?_
   refine TL.off rfl rfl rfl rfl (decide_eq_false c23) rfl rfl ?_
   refine TL.off rfl rfl rfl rfl (decide_eq_false c23) rfl rfl ?_
   refine TL.off rfl rfl rfl rfl (decide_eq_false c23) rfl rfl ?_
   refine TL.off rfl rfl rfl rfl (decide_eq_false c23) rfl rfl ?_
   refine TL.off rfl rfl rfl rfl (decide_eq_false c23) rfl rfl ?_
   refine TL.off rfl rfl rfl rfl (decide_eq_false c23) rfl rfl ?_
   refine TL.off rfl rfl rfl rfl (decide_eq_false c23) rfl rfl ?_
   refine TL.off rfl rfl rfl rfl (decide_eq_false c23) rfl rfl ?_
   refine TL.op1 (OpR.pickF rfl (decide_eq_false c23) rfl) rfl ?_
   refine TL.nil ?_
   obtain rfl := Option.some.inj ht22
   exact ⟨_, Gst.only [0, 1, 2, 3, 8, 38] rfl, rfl⟩
 refine TL.on rfl rfl rfl rfl (decide_eq_true c23) ?_
 refine aA rfl rfl ?_
 refine TL.on rfl rfl rfl rfl (decide_eq_true c23) ?_
 refine aA rfl rfl ?_
 refine TL.on rfl rfl rfl rfl (decide_eq_true c23) ?_
 refine aA rfl rfl ?_
 refine TL.on rfl rfl rfl rfl (decide_eq_true c23) ?_
 refine aA rfl rfl ?_
 refine TL.on rfl rfl rfl rfl (decide_eq_true c23) ?_
 refine aA rfl rfl ?_
 refine TL.on rfl rfl rfl rfl (decide_eq_true c23) ?_
 refine aA rfl rfl ?_
 refine TL.on rfl rfl rfl rfl (decide_eq_true c23) ?_
 refine aA rfl rfl ?_
 refine TL.on rfl rfl rfl rfl (decide_eq_true c23) ?_
 obtain ⟨x24, hx24, ht22⟩ := bS ht22
 obtain ⟨x25, hx25, ht22⟩ := bS ht22
 rw [o_tree_Node_damier_row_Row_eq hx25] at hx24
 refine TL.op1 (OpR.indexM eNP hx24 rfl rfl rfl rfl rfl) rfl ?_
 refine TL.on rfl rfl rfl rfl (decide_eq_true c23) ?_
 refine aA rfl rfl ?_
 refine TL.on rfl rfl rfl rfl (decide_eq_true c23) ?_
 refine aA rfl rfl ?_
 refine TL.on rfl rfl rfl rfl (decide_eq_true c23) ?_
 refine aA rfl rfl ?_
 refine TL.on rfl rfl rfl rfl (decide_eq_true c23) ?_
 refine aA rfl rfl ?_
 refine TL.on rfl rfl rfl rfl (decide_eq_true c23) ?_
 refine aA rfl rfl ?_
 refine TL.on rfl rfl rfl rfl (decide_eq_true c23) ?_
 refine aA rfl rfl ?_
 refine TL.op1 (OpR.pickT rfl (decide_eq_true c23) rfl) rfl ?_
 refine TL.nil ?_
 obtain rfl := Option.some.inj ht22
 exact ⟨_, Gst.only [0, 1, 2, 3, 8, 38] rfl, rfl⟩
noncomputable def walk_stack_row_Row_forth.l1 (s7 : (List walk_frame_damier_row_Row)) : Option (Lp (List walk_frame_damier_row_Row) (Ex (List walk_frame_damier_row_Row) (Bool × (List walk_frame_damier_row_Row)))) :=
  if (s7.length : Int) > 0 then
    bnd (walk_stack_row_Row_top s7) fun x16 =>
    bnd (idx s7 x16) fun x17 =>
    bnd (some x17.fN) fun q18 => match q18 with
      | none =>
        none
      | some z19 =>
        bnd (o_tree_Node_damier_row_Row z19) fun x21 =>
        bnd (idx x21.fKids x17.fNext) fun x23 =>
        bnd (o_tree_Node_damier_row_Row x23) fun x24 =>
        bnd (idx (s7.set x16.toNat (⟨x17.fN, w64 (x17.fFirst + x24.fN), x17.fNext⟩ : walk_frame_damier_row_Row)) x16) fun x25 =>
        bnd (idx ((s7.set x16.toNat (⟨x17.fN, w64 (x17.fFirst + x24.fN), x17.fNext⟩ : walk_frame_damier_row_Row)).set x16.toNat (⟨x25.fN, x25.fFirst, w64 (x25.fNext + 1)⟩ : walk_frame_damier_row_Row)) x16) fun x26 =>
        bnd (some x26.fN) fun q27 => match q27 with
          | none =>
            none
          | some z28 =>
            bnd (o_tree_Node_damier_row_Row z28) fun x30 =>
            if x26.fNext < (x30.fKids.length : Int) then
              bnd (idx x30.fKids x26.fNext) fun x34 =>
              bnd (o_tree_Node_damier_row_Row x34) fun x35 =>
              bnd (walk_stack_row_Row_down_2 x35.fKids x35.fItems x35.fN x26.fFirst x26.fFirst ((s7.set x16.toNat (⟨x17.fN, w64 (x17.fFirst + x24.fN), x17.fNext⟩ : walk_frame_damier_row_Row)).set x16.toNat (⟨x25.fN, x25.fFirst, w64 (x25.fNext + 1)⟩ : walk_frame_damier_row_Row))) fun x36 =>
              some (Lp.done (Ex.ret (true, x36)))
            else
              bnd (some (((s7.set x16.toNat (⟨x17.fN, w64 (x17.fFirst + x24.fN), x17.fNext⟩ : walk_frame_damier_row_Row)).set x16.toNat (⟨x25.fN, x25.fFirst, w64 (x25.fNext + 1)⟩ : walk_frame_damier_row_Row)).length : Int)) fun x38 =>
              bnd (cut ((s7.set x16.toNat (⟨x17.fN, w64 (x17.fFirst + x24.fN), x17.fNext⟩ : walk_frame_damier_row_Row)).set x16.toNat (⟨x25.fN, x25.fFirst, w64 (x25.fNext + 1)⟩ : walk_frame_damier_row_Row)) 0 (w64 (x38 - 1))) fun x39 =>
              some (Lp.next x39)
  else
    some (Lp.done (Ex.brk s7))
noncomputable def walk_stack_row_Row_forth (a0 : List walk_frame_damier_row_Row) : Option (Bool × (List walk_frame_damier_row_Row)) :=
  bnd (cut a0 0 (w64 ((a0.length : Int) - 1))) fun x2 =>
  bnd (loop walk_stack_row_Row_forth.l1 x2 : Option (Ex (List walk_frame_damier_row_Row) (Bool × (List walk_frame_damier_row_Row)))) fun t3 => match t3 with
    | .brk u4 =>
      some (false, u4)
    | .ret u4 => some u4
theorem walk_stack_row_Row_forth_c {a0 : List walk_frame_damier_row_Row} {b0 : Nat} {v1 : Value} {res : Bool × (List walk_frame_damier_row_Row)} (h0 : walk_stack_row_Row_forth a0 = some res) : CallF X 150 [dP b0] [.var b0 [.val v1] 228, .row v1 (List.map e_walk_frame_damier_row_Row a0) 3 234] (fun x => (dT res.1)) (fun x => [.var b0 [.val (vn x 0)] 228, .row (vn x 0) (List.map e_walk_frame_damier_row_Row res.2) 3 234]) := by
 unfold walk_stack_row_Row_forth at h0
 refine CallF.mkG (X := X) rfl Tryz.func150 rfl rfl Tryz.ntmps150 rfl rfl ?_
 refine aS ?_
 refine aA rfl rfl ?_
 refine aN rfl ?_
 refine T.seq ?_
 obtain ⟨x2, hx2, h0⟩ := bS h0
 refine T.drawS drawsX (fun env1 => [dP b0, dP b0, dP b0, dP b0, .val v1, dP b0, dP b0, dP b0, .val v1, dN (a0.length : Int), dN (w64 ((a0.length : Int) - 1)), .val (vw v1 (0 : Int).toNat (w64 ((a0.length : Int) - 1) : Int).toNat 3), dP b0, dP b0, .dead]) (fun D env1 => [(bif D 14 then .var b0 [.val (vw v1 (0 : Int).toNat (w64 ((a0.length : Int) - 1) : Int).toNat 3)] 228 else .var b0 [.val v1] 228), .row v1 (List.map e_walk_frame_damier_row_Row a0) 3 234]) [0, 0, 2, 6, 14, 0, 32, 96, 224, 480, 992, 2046, 4095, 8191, 16383] [0, 2] _ (by decide +kernel) (by decide +kernel) (fun _ => rfl) (fun _ => rfl) ?_ (fun _ => rfl) (fun _ => rfl) ?_
 · iterate 4 refine aC ?_
   refine OpsS.cons' true ?_ (fun _ _ _ _ _ _ _ => rfl) ?_
   · intro D env1 hA
     have e14 : D 14 = false := hA.no 14 _ rfl rfl
     exact OpS.yp [(14, false)] ⟨e14, trivial⟩ (Want.plain rfl) (OpR.loadPtr 0 rfl rfl rfl rfl) (fun x => rfl) (fun x => rfl)
   iterate 3 refine aC ?_
   refine OpsS.cons' true ?_ (fun _ _ _ _ _ _ _ => rfl) ?_
   · intro D env1 hA
     have e14 : D 14 = false := hA.no 14 _ rfl rfl
     exact OpS.yp [(14, false)] ⟨e14, trivial⟩ (Want.plain rfl) (OpR.loadPtr 0 rfl rfl rfl rfl) (fun x => rfl) (fun x => rfl)
   refine oT ((dN (a0.length : Int))) (fun _ _ => OpR.rowLenM e_walk_frame_damier_row_Row 1 rfl rfl rfl rfl) ?_
   refine aC ?_
   refine oT (.val (vw v1 (0 : Int).toNat (w64 ((a0.length : Int) - 1) : Int).toNat 3)) (fun _ _ => OpR.sliceRowM e_walk_frame_damier_row_Row 1 hx2 rfl rfl rfl rfl rfl rfl BdM.none (BdM.some rfl)) ?_
   iterate 2 refine aC ?_
   refine OpsS.cons' true ?_ (fun _ _ _ _ _ _ _ => rfl) ?_
   · intro D env1 hA
     exact OpS.yp [(14, false)] ⟨hA.me, trivial⟩ (Want.plain rfl) (OpR.store 0 rfl rfl rfl rfl rfl rfl rfl rfl) (fun x => rfl) (fun x => rfl)
   exact trivial
 intro env1
 show T X _ _ _
 refine T.ghost (Gst.truncM (ow := [.var b0 [.val (vw v1 (0 : Int).toNat (w64 ((a0.length : Int) - 1) : Int).toNat 3)] 228, .row v1 (List.map e_walk_frame_damier_row_Row a0) 3 234]) e_walk_frame_damier_row_Row 1 hx2 rfl rfl) ?_
 refine T.seq ?_
 obtain ⟨t3, ht3, h0⟩ := bS h0
 refine T.cutC (fun S' => ∃ u4, t3 = Ex.brk u4 ∧ ∃ y5 : Value, S' = ⟨[(2, (dT false))], [.var b0 [.val y5] 228, .row y5 (List.map e_walk_frame_damier_row_Row u4) 3 234], 106⟩) (fun _ h => h) ?_ ?_
 rotate_left
 · rintro _ ⟨u4, rfl, y5, rfl⟩
   show T X _ _ _
   refine aS ?_
   refine aA rfl rfl ?_
   refine aN rfl ?_
   refine T.ret ?_
   obtain rfl := Option.some.inj h0
   exact rO [0, 1] [2] rfl (.tuple #[y5]) (cT rfl ResL.nil) rfl rfl rfl rfl
 refine T.block ?_
 obtain ⟨n8, n13⟩ := loop_some ht3
 refine T.loop (fun n S' => ∃ S'', Gst S' S'' ∧ ∃ y6 : Value, ∃ s7 : (List walk_frame_damier_row_Row), S'' = ⟨[(2, (dT false)), (0, (dP b0))], [.var b0 [.val y6] 228, .row y6 (List.map e_walk_frame_damier_row_Row s7) 3 234], 106⟩ ∧ iter walk_stack_row_Row_forth.l1 n s7 = some t3) n8 ?_ ?_
 · exact ⟨_, Gst.only [0, 2] rfl, (vw v1 (0 : Int).toNat (w64 ((a0.length : Int) - 1) : Int).toNat 3), x2, rfl, n13⟩
 rintro n8 _ ⟨_, g, y6, s7, rfl, i12⟩
 refine T.ghost g ?_
 obtain ⟨m9, q10, rfl, q11, i12⟩ := iter_succ i12
 unfold walk_stack_row_Row_forth.l1 at q11
 refine T.seq ?_
 refine aS ?_
 iterate 3 refine aA rfl rfl ?_
 refine TL.op1 (OpR.loadPtr 0 rfl rfl rfl rfl) rfl ?_
 refine TL.op1 (OpR.rowLenM e_walk_frame_damier_row_Row 1 rfl rfl rfl rfl) rfl ?_
 refine aA rfl rfl ?_
 refine aN rfl ?_
 rcases ite_some q11 with ⟨c15, q11⟩ | ⟨c15, q11⟩
 rotate_left
 · refine T.condF rfl (decide_eq_false c15) ?_
   refine T.exit ?_
   obtain rfl := Option.some.inj q11
   obtain rfl : _ = _ := i12
   exact ⟨_, Gst.only [2] rfl, _, rfl, y6, rfl⟩
 refine T.condT rfl (decide_eq_true c15) ?_
 refine aK rfl ?_
 refine T.block ?_
 refine aS ?_
 refine aA rfl rfl ?_
 obtain ⟨x16, hx16, q11⟩ := bS q11
 refine TL.op1 (OpR.call [0, 1] fn149 (walk_stack_row_Row_top_c hx16) rfl rfl rfl (fun _ => rfl)) rfl ?_
 refine aA rfl rfl ?_
 refine aN rfl ?_
 refine T.seq ?_
 obtain ⟨x17, hx17, q11⟩ := bS q11
 obtain ⟨q18, hq18, q11⟩ := bS q11
 rcases q18 with _ | z19
 · dsimp only at q11
   exact (by cases q11)
 dsimp only at q11
 obtain ⟨x21, hx21, q11⟩ := bS q11
 rw [o_tree_Node_damier_row_Row_eq hx21] at hq18
 obtain ⟨x23, hx23, q11⟩ := bS q11
 obtain ⟨x24, hx24, q11⟩ := bS q11
 rw [o_tree_Node_damier_row_Row_eq hx24] at hx23
 refine T.drawS drawsX (fun env22 => [.val (.pointer (some ⟨blk y6, x16.toNat * 3, none⟩)), .val (.pointer (some ⟨blk y6, x16.toNat * 3, none⟩)), .val (.pointer (some ⟨blk y6, x16.toNat * 3 + 1, none⟩)), dN x17.fFirst, .val (.pointer (some ⟨blk y6, x16.toNat * 3, none⟩)), .val (.pointer (some ⟨blk y6, x16.toNat * 3, none⟩)), .val (.pointer (some ⟨blk y6, x16.toNat * 3, none⟩)), .nod [.sl 1 (List.map eNP x21.fKids), .sl 3 (List.map e_row_Row x21.fItems), dN x21.fN], .nod [.sl 1 (List.map eNP x21.fKids), .sl 3 (List.map e_row_Row x21.fItems), dN x21.fN], .nod [.sl 1 (List.map eNP x21.fKids), .sl 3 (List.map e_row_Row x21.fItems), dN x21.fN], .sl 1 (List.map eNP x21.fKids), .val (.pointer (some ⟨blk y6, x16.toNat * 3, none⟩)), .val (.pointer (some ⟨blk y6, x16.toNat * 3, none⟩)), .val (.pointer (some ⟨blk y6, x16.toNat * 3 + 2, none⟩)), dN x17.fNext, .nod [.nod [.sl 1 (List.map eNP x24.fKids), .sl 3 (List.map e_row_Row x24.fItems), dN x24.fN]], .nod [.sl 1 (List.map eNP x24.fKids), .sl 3 (List.map e_row_Row x24.fItems), dN x24.fN], .nod [.sl 1 (List.map eNP x24.fKids), .sl 3 (List.map e_row_Row x24.fItems), dN x24.fN], .nod [dN x24.fN], dN x24.fN, dN (w64 (x17.fFirst + x24.fN)), .val (.pointer (some ⟨blk y6, x16.toNat * 3, none⟩)), .val (.pointer (some ⟨blk y6, x16.toNat * 3 + 1, none⟩)), .dead]) (fun D env22 => [.var b0 [.val y6] 228, (bif D 23 then .row y6 (List.map e_walk_frame_damier_row_Row (s7.set x16.toNat (⟨x17.fN, w64 (x17.fFirst + x24.fN), x17.fNext⟩ : walk_frame_damier_row_Row))) 3 234 else .row y6 (List.map e_walk_frame_damier_row_Row s7) 3 234)]) [0, 1, 3, 7, 0, 16, 48, 112, 240, 496, 1008, 0, 2048, 6144, 14336, 32752, 65520, 131056, 262128, 524272, 1048575, 2097151, 4194303, 8388607] [0, 2, 3] _ (by decide +kernel) (by decide +kernel) (fun _ => rfl) (fun _ => rfl) ?_ (fun _ => rfl) (fun _ => rfl) ?_
 · iterate 3 refine aC ?_
   refine OpsS.cons' true ?_ (fun _ _ _ _ _ _ _ => rfl) ?_
   · intro D env22 hA
     have e23 : D 23 = false := hA.no 23 _ rfl rfl
     exact OpS.yp [(23, false)] ⟨e23, trivial⟩ (Want.plain rfl) (OpR.rowLoadM (j := x16) e_walk_frame_damier_row_Row 1 hx17 rfl rfl rfl rfl) (fun x => rfl) (fun x => rfl)
   iterate 3 refine aC ?_
   refine OpsS.cons' true ?_ (fun _ _ _ _ _ _ _ => rfl) ?_
   · intro D env22 hA
     have e23 : D 23 = false := hA.no 23 _ rfl rfl
     exact OpS.yp [(23, false)] ⟨e23, trivial⟩ (Want.plain rfl) (OpR.cast (OpR.rowLoad0M (j := x16) e_walk_frame_damier_row_Row 1 hx17 rfl rfl rfl rfl) (congrArg eOP (Option.some.inj hq18))) (fun x => rfl) (fun x => rfl)
   iterate 6 refine aC ?_
   refine OpsS.cons' true ?_ (fun _ _ _ _ _ _ _ => rfl) ?_
   · intro D env22 hA
     have e23 : D 23 = false := hA.no 23 _ rfl rfl
     exact OpS.yp [(23, false)] ⟨e23, trivial⟩ (Want.plain rfl) (OpR.rowLoadM (j := x16) e_walk_frame_damier_row_Row 1 hx17 rfl rfl rfl rfl) (fun x => rfl) (fun x => rfl)
   refine oT (.nod [.nod [.sl 1 (List.map eNP x24.fKids), .sl 3 (List.map e_row_Row x24.fItems), dN x24.fN]]) (fun _ _ => OpR.indexM eNP hx23 rfl rfl rfl rfl rfl) ?_
   iterate 7 refine aC ?_
   refine OpsS.cons' true ?_ (fun _ _ _ _ _ _ _ => rfl) ?_
   · intro D env22 hA
     exact OpS.yp [(23, false)] ⟨hA.me, trivial⟩ (Want.plain rfl) (OpR.rowStoreM (j := x16) e_walk_frame_damier_row_Row (⟨x17.fN, w64 (x17.fFirst + x24.fN), x17.fNext⟩ : walk_frame_damier_row_Row) 1 hx17 rfl rfl rfl rfl rfl rfl rfl rfl rfl) (fun x => rfl) (fun x => rfl)
   exact trivial
 intro env22
 show T X _ _ _
 refine aS ?_
 iterate 3 refine aA rfl rfl ?_
 obtain ⟨x25, hx25, q11⟩ := bS q11
 refine TL.op1 (OpR.rowLoadM (j := x16) e_walk_frame_damier_row_Row 1 hx25 rfl rfl rfl rfl) rfl ?_
 iterate 3 refine aA rfl rfl ?_
 refine TL.op0 (OpR.rowStoreM (j := x16) e_walk_frame_damier_row_Row (⟨x25.fN, x25.fFirst, w64 (x25.fNext + 1)⟩ : walk_frame_damier_row_Row) 1 hx25 rfl rfl rfl rfl rfl rfl rfl rfl rfl) ?_
 refine aN rfl ?_
 refine T.seq ?_
 refine T.seq ?_
 obtain ⟨x26, hx26, q11⟩ := bS q11
 obtain ⟨q27, hq27, q11⟩ := bS q11
 rcases q27 with _ | z28
 · dsimp only at q11
   exact (by cases q11)
 dsimp only at q11
 obtain ⟨x30, hx30, q11⟩ := bS q11
 rw [o_tree_Node_damier_row_Row_eq hx30] at hq27
 refine T.drawQ drawsX [.val (.pointer (some ⟨blk y6, x16.toNat * 3, none⟩)), .val (.pointer (some ⟨blk y6, x16.toNat * 3, none⟩)), .val (.pointer (some ⟨blk y6, x16.toNat * 3 + 2, none⟩)), dN x26.fNext, .val (.pointer (some ⟨blk y6, x16.toNat * 3, none⟩)), .val (.pointer (some ⟨blk y6, x16.toNat * 3, none⟩)), .val (.pointer (some ⟨blk y6, x16.toNat * 3, none⟩)), .nod [.sl 1 (List.map eNP x30.fKids), .sl 3 (List.map e_row_Row x30.fItems), dN x30.fN], .nod [.sl 1 (List.map eNP x30.fKids), .sl 3 (List.map e_row_Row x30.fItems), dN x30.fN], .nod [.sl 1 (List.map eNP x30.fKids), .sl 3 (List.map e_row_Row x30.fItems), dN x30.fN], .sl 1 (List.map eNP x30.fKids), dN (x30.fKids.length : Int), dT (decide (x26.fNext < (x30.fKids.length : Int)))] [0, 2, 3, 68] (by decide +kernel) rfl ?_ rfl ?_
 · iterate 3 refine aB rfl rfl rfl ?_
   refine OpsQ.yes (Want.plain rfl) rfl (OpR.rowLoadM (j := x16) e_walk_frame_damier_row_Row 1 hx26 rfl rfl rfl rfl) ?_
   iterate 3 refine aB rfl rfl rfl ?_
   refine OpsQ.yes (Want.plain rfl) rfl (OpR.cast (OpR.rowLoad0M (j := x16) e_walk_frame_damier_row_Row 1 hx26 rfl rfl rfl rfl) (congrArg eOP (Option.some.inj hq27))) ?_
   iterate 3 refine aB rfl rfl rfl ?_
   refine OpsQ.yes (Want.plain rfl) rfl (OpR.cast (OpR.pure rfl) (intE (lenM _ _))) ?_
   refine aB rfl rfl rfl ?_
   exact OpsQ.nil
 show T X _ _ _
 rcases ite_some q11 with ⟨c32, q11⟩ | ⟨c32, q11⟩
 rotate_left
 · refine T.condF rfl (decide_eq_false c32) ?_
   refine aK rfl ?_
   obtain ⟨x38, hx38, q11⟩ := bS q11
   obtain ⟨x39, hx39, q11⟩ := bS q11
   refine T.drawS drawsX (fun env37 => [dP b0, dP b0, dP b0, dP b0, .val y6, dP b0, dP b0, dP b0, .val y6, dN x38, dN (w64 (x38 - 1)), .val (vw y6 (0 : Int).toNat (w64 (x38 - 1) : Int).toNat 3), dP b0, dP b0, .dead]) (fun D env37 => [(bif D 14 then .var b0 [.val (vw y6 (0 : Int).toNat (w64 (x38 - 1) : Int).toNat 3)] 228 else .var b0 [.val y6] 228), .row y6 (List.map e_walk_frame_damier_row_Row ((s7.set x16.toNat (⟨x17.fN, w64 (x17.fFirst + x24.fN), x17.fNext⟩ : walk_frame_damier_row_Row)).set x16.toNat (⟨x25.fN, x25.fFirst, w64 (x25.fNext + 1)⟩ : walk_frame_damier_row_Row))) 3 234]) [0, 0, 2, 6, 14, 0, 32, 96, 224, 480, 992, 2046, 4095, 8191, 16383] [0, 2] _ (by decide +kernel) (by decide +kernel) (fun _ => rfl) (fun _ => rfl) ?_ (fun _ => rfl) (fun _ => rfl) ?_
   rotate_left
   · intro env37
     obtain rfl := Option.some.inj q11
     exact ⟨m9, Nat.lt_succ_self _, _, Gst.trans (Gst.truncM (ow := [.var b0 [.val (vw y6 (0 : Int).toNat (w64 (x38 - 1) : Int).toNat 3)] 228, .row y6 (List.map e_walk_frame_damier_row_Row ((s7.set x16.toNat (⟨x17.fN, w64 (x17.fFirst + x24.fN), x17.fNext⟩ : walk_frame_damier_row_Row)).set x16.toNat (⟨x25.fN, x25.fFirst, w64 (x25.fNext + 1)⟩ : walk_frame_damier_row_Row))) 3 234]) e_walk_frame_damier_row_Row 1 hx39 rfl rfl) (Gst.only [0, 2] rfl), (vw y6 (0 : Int).toNat (w64 (x38 - 1) : Int).toNat 3), x39, rfl, i12⟩
   iterate 4 refine aC ?_
   refine OpsS.cons' true ?_ (fun _ _ _ _ _ _ _ => rfl) ?_
   · intro D env37 hA
     have e14 : D 14 = false := hA.no 14 _ rfl rfl
     exact OpS.yp [(14, false)] ⟨e14, trivial⟩ (Want.plain rfl) (OpR.loadPtr 0 rfl rfl rfl rfl) (fun x => rfl) (fun x => rfl)
   iterate 3 refine aC ?_
   refine OpsS.cons' true ?_ (fun _ _ _ _ _ _ _ => rfl) ?_
   · intro D env37 hA
     have e14 : D 14 = false := hA.no 14 _ rfl rfl
     exact OpS.yp [(14, false)] ⟨e14, trivial⟩ (Want.plain rfl) (OpR.loadPtr 0 rfl rfl rfl rfl) (fun x => rfl) (fun x => rfl)
   refine oT ((dN x38)) (fun _ _ => OpR.cast (OpR.rowLenM e_walk_frame_damier_row_Row 1 rfl rfl rfl rfl) (intE (Option.some.inj hx38))) ?_
   refine aC ?_
   refine oT (.val (vw y6 (0 : Int).toNat (w64 (x38 - 1) : Int).toNat 3)) (fun _ _ => OpR.sliceRowM e_walk_frame_damier_row_Row 1 hx39 rfl rfl rfl rfl rfl rfl BdM.none (BdM.some rfl)) ?_
   iterate 2 refine aC ?_
   refine OpsS.cons' true ?_ (fun _ _ _ _ _ _ _ => rfl) ?_
   · intro D env37 hA
     exact OpS.yp [(14, false)] ⟨hA.me, trivial⟩ (Want.plain rfl) (OpR.store 0 rfl rfl rfl rfl rfl rfl rfl rfl) (fun x => rfl) (fun x => rfl)
   exact trivial
 refine T.condT rfl (decide_eq_true c32) ?_
 refine T.seq ?_
 obtain ⟨x34, hx34, q11⟩ := bS q11
 obtain ⟨x35, hx35, q11⟩ := bS q11
 rw [o_tree_Node_damier_row_Row_eq hx35] at hx34
 obtain ⟨x36, hx36, q11⟩ := bS q11
 refine T.drawS drawsX (fun env33 => [dP b0, .val (.pointer (some ⟨blk y6, x16.toNat * 3, none⟩)), .val (.pointer (some ⟨blk y6, x16.toNat * 3, none⟩)), .val (.pointer (some ⟨blk y6, x16.toNat * 3, none⟩)), .nod [.sl 1 (List.map eNP x30.fKids), .sl 3 (List.map e_row_Row x30.fItems), dN x30.fN], .nod [.sl 1 (List.map eNP x30.fKids), .sl 3 (List.map e_row_Row x30.fItems), dN x30.fN], .nod [.sl 1 (List.map eNP x30.fKids), .sl 3 (List.map e_row_Row x30.fItems), dN x30.fN], .sl 1 (List.map eNP x30.fKids), .val (.pointer (some ⟨blk y6, x16.toNat * 3, none⟩)), .val (.pointer (some ⟨blk y6, x16.toNat * 3, none⟩)), .val (.pointer (some ⟨blk y6, x16.toNat * 3 + 2, none⟩)), dN x26.fNext, .nod [.nod [.sl 1 (List.map eNP x35.fKids), .sl 3 (List.map e_row_Row x35.fItems), dN x35.fN]], .nod [.sl 1 (List.map eNP x35.fKids), .sl 3 (List.map e_row_Row x35.fItems), dN x35.fN], .val (.pointer (some ⟨blk y6, x16.toNat * 3, none⟩)), .val (.pointer (some ⟨blk y6, x16.toNat * 3, none⟩)), .val (.pointer (some ⟨blk y6, x16.toNat * 3 + 1, none⟩)), dN x26.fFirst, .val (.pointer (some ⟨blk y6, x16.toNat * 3, none⟩)), .val (.pointer (some ⟨blk y6, x16.toNat * 3, none⟩)), .val (.pointer (some ⟨blk y6, x16.toNat * 3 + 1, none⟩)), dN x26.fFirst, .tup []]) (fun D env33 => [(bif D 22 then .var b0 [.val (vn (env33 22) 0)] 228 else .var b0 [.val y6] 228), (bif D 22 then .row (vn (env33 22) 0) (List.map e_walk_frame_damier_row_Row x36) 3 234 else .row y6 (List.map e_walk_frame_damier_row_Row ((s7.set x16.toNat (⟨x17.fN, w64 (x17.fFirst + x24.fN), x17.fNext⟩ : walk_frame_damier_row_Row)).set x16.toNat (⟨x25.fN, x25.fFirst, w64 (x25.fNext + 1)⟩ : walk_frame_damier_row_Row))) 3 234)]) [0, 0, 2, 6, 14, 30, 62, 126, 0, 256, 768, 1792, 4094, 8190, 0, 16384, 49152, 114688, 0, 262144, 786432, 1835008, 4194303] [0, 2] _ (by decide +kernel) (by decide +kernel) (fun _ => rfl) (fun _ => rfl) ?_ (fun _ => rfl) (fun _ => rfl) ?_
 rotate_left
 · intro env33
   show T X _ _ _
   refine aS ?_
   refine aA rfl rfl ?_
   refine aN rfl ?_
   refine T.ret ?_
   obtain rfl := Option.some.inj q11
   obtain rfl : _ = _ := i12
   obtain rfl := Option.some.inj h0
   exact rO [0, 1] [2] rfl (.tuple #[(vn (env33 22) 0)]) (cT rfl ResL.nil) rfl rfl rfl rfl
 iterate 4 refine aC ?_
 refine OpsS.cons' true ?_ (fun _ _ _ _ _ _ _ => rfl) ?_
 · intro D env33 hA
   have e22 : D 22 = false := hA.no 22 _ rfl rfl
   exact OpS.yp [(22, false)] ⟨e22, trivial⟩ (Want.plain rfl) (OpR.cast (OpR.rowLoad0M (j := x16) e_walk_frame_damier_row_Row 1 hx26 rfl rfl rfl rfl) (congrArg eOP (Option.some.inj hq27))) (fun x => rfl) (fun x => rfl)
 iterate 6 refine aC ?_
 refine OpsS.cons' true ?_ (fun _ _ _ _ _ _ _ => rfl) ?_
 · intro D env33 hA
   have e22 : D 22 = false := hA.no 22 _ rfl rfl
   exact OpS.yp [(22, false)] ⟨e22, trivial⟩ (Want.plain rfl) (OpR.rowLoadM (j := x16) e_walk_frame_damier_row_Row 1 hx26 rfl rfl rfl rfl) (fun x => rfl) (fun x => rfl)
 refine oT (.nod [.nod [.sl 1 (List.map eNP x35.fKids), .sl 3 (List.map e_row_Row x35.fItems), dN x35.fN]]) (fun _ _ => OpR.indexM eNP hx34 rfl rfl rfl rfl rfl) ?_
 iterate 4 refine aC ?_
 refine OpsS.cons' true ?_ (fun _ _ _ _ _ _ _ => rfl) ?_
 · intro D env33 hA
   have e22 : D 22 = false := hA.no 22 _ rfl rfl
   exact OpS.yp [(22, false)] ⟨e22, trivial⟩ (Want.plain rfl) (OpR.rowLoadM (j := x16) e_walk_frame_damier_row_Row 1 hx26 rfl rfl rfl rfl) (fun x => rfl) (fun x => rfl)
 iterate 3 refine aC ?_
 refine OpsS.cons' true ?_ (fun _ _ _ _ _ _ _ => rfl) ?_
 · intro D env33 hA
   have e22 : D 22 = false := hA.no 22 _ rfl rfl
   exact OpS.yp [(22, false)] ⟨e22, trivial⟩ (Want.plain rfl) (OpR.rowLoadM (j := x16) e_walk_frame_damier_row_Row 1 hx26 rfl rfl rfl rfl) (fun x => rfl) (fun x => rfl)
 refine OpsS.cons' true ?_ (fun D hA env33 x j hj hD => match j, hj, hD with | 0, _, _ => rfl | 1, _, _ => rfl | 2, _, _ => rfl | 3, _, _ => rfl | 4, _, _ => rfl | 5, _, _ => rfl | 6, _, _ => rfl | 7, _, _ => rfl | 8, _, _ => rfl | 9, _, _ => rfl | 10, _, _ => rfl | 11, _, _ => rfl | 12, _, _ => rfl | 13, _, _ => rfl | 14, _, _ => rfl | 15, _, _ => rfl | 16, _, _ => rfl | 17, _, _ => rfl | 18, _, _ => rfl | 19, _, _ => rfl | 20, _, _ => rfl | 21, _, _ => rfl | 22, hj, _ => absurd rfl hj | _ + 23, _, _ => rfl) ?_
 · intro D env33 hA
   exact OpS.yp [(22, false)] ⟨hA.me, trivial⟩ (Want.plain rfl) (OpR.call [0, 1] fn147 (walk_stack_row_Row_down_2_c hx36) rfl rfl rfl (fun _ => rfl)) (fun x => rfl) (fun x => rfl)
 exact trivial
noncomputable def walk_All_row_Row_r0 (a0 : Int) (a1 : row_Row) (a2 : List row_Row) : Option (List row_Row) :=
  bnd (app 40 a2 [a1]) fun x32 =>
  some x32
theorem walk_All_row_Row_r0_c {a0 : Int} {a1 : row_Row} {a2 : List row_Row} {b0 : Nat} {b1 : Nat} {v2 : Value} {res : (List row_Row)} (h0 : walk_All_row_Row_r0 a0 a1 a2 = some res) : RoundF X b0 [dN a0, .agg [.sl 5 (List.map e_cell_Cell a1.fCells), dN a1.fEnd, dT a1.fHidden]] [.lp b0 .ready none [13, 14] rfA100_0 rfB100_0 [(3, (dP b1))] 20, .var b1 [.val v2] 163, .row v2 (List.map e_row_Row a2) 3 49] (fun x => (dT true)) (fun x => [.lp b0 .ready none [13, 14] rfA100_0 rfB100_0 [(3, (dP b1))] 20, .var b1 [.val (vn x 0)] 163, .row (vn x 0) (List.map e_row_Row res) 3 49]) := by
 unfold walk_All_row_Row_r0 at h0
 refine RoundF.mk (X := X) rfl rfl rfl ?_
 refine T.region ?_
 refine TL.op (OpR.alloc rfl rfl (fun _ => rfl)) rfl (fun p31 => ?_)
 refine TL.op0 (OpR.store 3 rfl rfl rfl rfl rfl rfl rfl rfl) ?_
 refine TL.nil ?_
 refine RoundA.mk ?_
 refine T.block ?_
 refine T.region ?_
 refine TL.op1 (OpR.loadPtr 1 rfl rfl rfl rfl) rfl ?_
 refine TL.op1 (OpR.loadPtr 3 rfl rfl rfl rfl) rfl ?_
 refine TL.op1 (OpR.lit rfl rfl rfl rfl rfl rfl rfl) rfl ?_
 obtain ⟨x32, hx32, h0⟩ := bS h0
 refine TL.op (OpR.appendM (m := [a1]) e_row_Row 2 hx32 rfl rfl rfl rfl rfl rfl rfl rfl rfl (fun _ => rfl)) rfl (fun v33 => ?_)
 refine TL.op0 (OpR.store 1 rfl rfl rfl rfl rfl rfl rfl rfl) ?_
 refine TL.nil ?_
 obtain rfl := Option.some.inj h0
 exact RoundG.mk (ks := [0, 1, 2]) (gP [] [0, 1, 2] rfl rfl rfl) (.tuple #[v33]) rfl rfl rfl rfl rfl
noncomputable def walk_Range_row_Row_1.l1 (a1 : Int) (s10 : Int × (List row_Row) × (List walk_frame_damier_row_Row)) : Option (Lp (Int × (List row_Row) × (List walk_frame_damier_row_Row)) (List row_Row)) :=
  if s10.1 < a1 then
    bnd (walk_stack_row_Row_top s10.2.2) fun x19 =>
    bnd (idx s10.2.2 x19) fun x20 =>
    bnd (some x20.fN) fun q21 => match q21 with
      | none =>
        none
      | some z22 =>
        bnd (o_tree_Node_damier_row_Row z22) fun x24 =>
        bnd (if x20.fNext = (x24.fItems.length : Int) then
          bnd (walk_stack_row_Row_forth s10.2.2) fun x29 =>
          some x29.2
        else
          some s10.2.2 : Option (List walk_frame_damier_row_Row)) fun t26 =>
        bnd (walk_stack_row_Row_top t26) fun x31 =>
        bnd (idx t26 x31) fun x32 =>
        bnd (some x32.fN) fun q33 => match q33 with
          | none =>
            none
          | some z34 =>
            bnd (o_tree_Node_damier_row_Row z34) fun x36 =>
            bnd (idx x36.fItems x32.fNext) fun x38 =>
            bnd (walk_All_row_Row_r0 s10.1 x38 s10.2.1) fun x39 =>
            some (Lp.next (w64 (s10.1 + 1), x39, (t26.set x31.toNat (⟨x32.fN, x32.fFirst, w64 (x32.fNext + 1)⟩ : walk_frame_damier_row_Row))))
  else
    some (Lp.done s10.2.1)
noncomputable def walk_Range_row_Row_1 (a0 : Int) (a1 : Int) (a2 : Option NP) (a3 : List row_Row) : Option (List row_Row) :=
  if a0 = a1 then
    some a3
  else
    bnd (tree_Tree_row_Row_Root (⟨a2⟩ : tree_Tree_damier_row_Row)) fun x4 =>
    match x4 with
    | .inl x4 =>
        none
    | .inr x4 =>
        bnd (walk_stack_row_Row_down x4.1 x4.2.1 x4.2.2 0 a0) fun x5 =>
        bnd (loop (walk_Range_row_Row_1.l1 a1) (a0, a3, x5) : Option (List row_Row)) fun t6 =>
        some t6
theorem walk_Range_row_Row_1_c {a0 : Int} {a1 : Int} {a2 : Option NP} {a3 : List row_Row} {b0 : Nat} {b1 : Nat} {b2 : Nat} {b3 : Nat} {b4 : Nat} {v5 : Value} {res : (List row_Row)} (h0 : walk_Range_row_Row_1 a0 a1 a2 a3 = some res) : CallF X 146 [.fn (.yield b0) [] [], dP b1, dP b2, dP b3] [.lp b0 .ready none [13, 14] rfA100_0 rfB100_0 [(3, (dP b4))] 20, .var b1 [dN a0] 3, .var b2 [dN a1] 3, .var b3 [(eOP a2)] 25, .var b4 [.val v5] 163, .row v5 (List.map e_row_Row a3) 3 49] (fun x => .tup []) (fun x => [.lp b0 .ready none [13, 14] rfA100_0 rfB100_0 [(3, (dP b4))] 20, .var b1 [dN a0] 3, .var b2 [dN a1] 3, .var b3 [(eOP a2)] 25, .var b4 [.val (vn x 0)] 163, .row (vn x 0) (List.map e_row_Row res) 3 49]) := by
 unfold walk_Range_row_Row_1 at h0
 refine CallF.mkG (X := X) rfl Tryz.func146 rfl rfl Tryz.ntmps146 rfl rfl ?_
 refine T.seq ?_
 refine aS ?_
 refine TL.op1 (OpR.loadPtr 1 rfl rfl rfl rfl) rfl ?_
 refine TL.op1 (OpR.loadPtr 2 rfl rfl rfl rfl) rfl ?_
 refine aA rfl rfl ?_
 refine aN rfl ?_
 rcases ite_some h0 with ⟨c1, h0⟩ | ⟨c1, h0⟩
 · refine T.condT rfl (beq_iff_eq.2 c1) ?_
   refine T.ret ?_
   obtain rfl := Option.some.inj h0
   exact rO [0, 1, 2, 3, 4, 5] [] rfl (.tuple #[v5]) ResL.nil rfl rfl rfl rfl
 refine T.condF rfl (beq_eq_false_iff_ne.2 c1) ?_
 refine aK rfl ?_
 refine aS ?_
 refine TL.op (OpR.alloc rfl rfl (fun _ => rfl)) rfl (fun p2 => ?_)
 refine aN rfl ?_
 refine T.seq ?_
 obtain ⟨x4, hx4, h0⟩ := bS h0
 rcases x4 with x4 | x4
 · dsimp only at h0
   exact (by cases h0)
 dsimp only at h0
 obtain ⟨x5, hx5, h0⟩ := bS h0
 refine T.drawS drawsX (fun env3 => [.agg [(eOP a2)], .nod [.sl 1 (List.map eNP x4.1), .sl 3 (List.map e_row_Row x4.2.1), dN x4.2.2], dN a0, .tup []]) (fun D env3 => [.lp b0 .ready none [13, 14] rfA100_0 rfB100_0 [(3, (dP b4))] 20, .var b1 [dN a0] 3, .var b2 [dN a1] 3, .var b3 [(eOP a2)] 25, .var b4 [.val v5] 163, .row v5 (List.map e_row_Row a3) 3 49, (bif D 3 then .var (blk p2) [.val (vn (env3 3) 0)] 228 else .var (blk p2) [.val (.slice none 0 0)] 228)] ++ (bif D 3 then [.row (vn (env3 3) 0) (List.map e_walk_frame_damier_row_Row x5) 3 234] else [])) [0, 1, 0, 7] [0, 1, 2, 5] _ (by decide +kernel) (by decide +kernel) (fun _ => rfl) (fun _ => rfl) ?_ (fun _ => rfl) (fun _ => rfl) ?_
 · refine oT (.agg [(eOP a2)]) (fun _ _ => OpR.loadPtr 3 rfl rfl rfl rfl) ?_
   refine oT (.nod [.sl 1 (List.map eNP x4.1), .sl 3 (List.map e_row_Row x4.2.1), dN x4.2.2]) (fun _ _ => OpR.call0 fn148 (tree_Tree_row_Row_Root_cx2 hx4) rfl) ?_
   refine oT ((dN a0)) (fun _ _ => OpR.loadPtr 1 rfl rfl rfl rfl) ?_
   refine OpsS.cons' true ?_ (fun D hA env3 x j hj hD => match j, hj, hD with | 0, _, _ => rfl | 1, _, _ => rfl | 2, _, _ => rfl | 3, hj, _ => absurd rfl hj | _ + 4, _, _ => rfl) ?_
   · intro D env3 hA
     exact OpS.yp [(3, false)] ⟨hA.me, trivial⟩ (Want.plain rfl) (OpR.call [6] fn147 (walk_stack_row_Row_down_c hx5) rfl rfl rfl (fun _ => rfl)) (fun x => rfl) (fun x => rfl)
   exact trivial
 intro env3
 show T X _ _ _
 refine aS ?_
 refine TL.op1 (OpR.loadPtr 1 rfl rfl rfl rfl) rfl ?_
 refine aA rfl rfl ?_
 refine aN rfl ?_
 obtain ⟨t6, ht6, h0⟩ := bS h0
 refine T.cutN (fun S' => ∃ y7 : Value, S' = ⟨[], [.lp b0 .ready none [13, 14] rfA100_0 rfB100_0 [(3, (dP b4))] 20, .var b1 [dN a0] 3, .var b2 [dN a1] 3, .var b3 [(eOP a2)] 25, .var b4 [.val y7] 163, .row y7 (List.map e_row_Row t6) 3 49], 62⟩) (fun _ _ g ⟨h, S', ds, g', r⟩ => ⟨h, S', ds, Gst.trans g g', r⟩) ?_ ?_
 rotate_left
 · rintro _ ⟨y7, rfl⟩
   obtain rfl := Option.some.inj h0
   exact PostG.finP (ks := [0, 1, 2, 3, 4, 5]) (Gst.only [] rfl) (.tuple #[y7]) ResL.nil rfl rfl rfl rfl
 refine T.block ?_
 obtain ⟨n11, n16⟩ := loop_some ht6
 refine T.loop (fun n S' => ∃ S'', Gst S' S'' ∧ ∃ y8 : Value, ∃ y9 : Value, ∃ s10 : Int × (List row_Row) × (List walk_frame_damier_row_Row), S'' = ⟨[(6, (dN s10.1)), (5, (dP (blk p2))), (2, (dP b2)), (0, .fn (.yield b0) [] [])], [.lp b0 .ready none [13, 14] rfA100_0 rfB100_0 [(3, (dP b4))] 20, .var b1 [dN a0] 3, .var b2 [dN a1] 3, .var b3 [(eOP a2)] 25, .var b4 [.val y8] 163, .row y8 (List.map e_row_Row s10.2.1) 3 49, .var (blk p2) [.val y9] 228, .row y9 (List.map e_walk_frame_damier_row_Row s10.2.2) 3 234], 62⟩ ∧ iter (walk_Range_row_Row_1.l1 a1) n s10 = some t6) n11 ?_ ?_
 · exact ⟨_, Gst.only [0, 2, 5, 6] rfl, v5, (vn (env3 3) 0), (a0, a3, x5), rfl, n16⟩
 rintro n11 _ ⟨_, g, y8, y9, s10, rfl, i15⟩
 refine T.ghost g ?_
 obtain ⟨m12, q13, rfl, q14, i15⟩ := iter_succ i15
 unfold walk_Range_row_Row_1.l1 at q14
 refine T.seq ?_
 refine aS ?_
 refine aA rfl rfl ?_
 refine TL.op1 (OpR.loadPtr 2 rfl rfl rfl rfl) rfl ?_
 refine aA rfl rfl ?_
 refine aN rfl ?_
 rcases ite_some q14 with ⟨c18, q14⟩ | ⟨c18, q14⟩
 rotate_left
 · refine T.condF rfl (decide_eq_false c18) ?_
   refine T.exit ?_
   obtain rfl := Option.some.inj q14
   obtain rfl : _ = _ := i15
   exact ⟨_, gP [] [0, 1, 2, 3, 4, 5] rfl rfl rfl, y8, rfl⟩
 refine T.condT rfl (decide_eq_true c18) ?_
 refine aK rfl ?_
 refine T.seq ?_
 refine T.block ?_
 refine T.seq ?_
 refine aS ?_
 obtain ⟨x19, hx19, q14⟩ := bS q14
 refine TL.op1 (OpR.call [6, 7] fn149 (walk_stack_row_Row_top_c hx19) rfl rfl rfl (fun _ => rfl)) rfl ?_
 refine aA rfl rfl ?_
 refine aN rfl ?_
 refine T.seq ?_
 obtain ⟨x20, hx20, q14⟩ := bS q14
 obtain ⟨q21, hq21, q14⟩ := bS q14
 rcases q21 with _ | z22
 · dsimp only at q14
   exact (by cases q14)
 dsimp only at q14
 obtain ⟨x24, hx24, q14⟩ := bS q14
 rw [o_tree_Node_damier_row_Row_eq hx24] at hq21
 refine T.drawQ drawsX [.val (.pointer (some ⟨blk y9, x19.toNat * 3, none⟩)), .val (.pointer (some ⟨blk y9, x19.toNat * 3, none⟩)), .val (.pointer (some ⟨blk y9, x19.toNat * 3 + 2, none⟩)), dN x20.fNext, .val (.pointer (some ⟨blk y9, x19.toNat * 3, none⟩)), .val (.pointer (some ⟨blk y9, x19.toNat * 3, none⟩)), .val (.pointer (some ⟨blk y9, x19.toNat * 3, none⟩)), .nod [.sl 1 (List.map eNP x24.fKids), .sl 3 (List.map e_row_Row x24.fItems), dN x24.fN], .nod [.sl 1 (List.map eNP x24.fKids), .sl 3 (List.map e_row_Row x24.fItems), dN x24.fN], .nod [.sl 3 (List.map e_row_Row x24.fItems), dN x24.fN], .sl 3 (List.map e_row_Row x24.fItems), dN (x24.fItems.length : Int), dT (x20.fNext == (x24.fItems.length : Int))] [0, 2, 5, 6, 35] (by decide +kernel) rfl ?_ rfl ?_
 · iterate 3 refine aB rfl rfl rfl ?_
   refine OpsQ.yes (Want.plain rfl) rfl (OpR.rowLoadM (j := x19) e_walk_frame_damier_row_Row 7 hx20 rfl rfl rfl rfl) ?_
   iterate 3 refine aB rfl rfl rfl ?_
   refine OpsQ.yes (Want.plain rfl) rfl (OpR.cast (OpR.rowLoad0M (j := x19) e_walk_frame_damier_row_Row 7 hx20 rfl rfl rfl rfl) (congrArg eOP (Option.some.inj hq21))) ?_
   iterate 3 refine aB rfl rfl rfl ?_
   refine OpsQ.yes (Want.plain rfl) rfl (OpR.cast (OpR.pure rfl) (intE (lenM _ _))) ?_
   refine aB rfl rfl rfl ?_
   exact OpsQ.nil
 show T X _ _ _
 obtain ⟨t26, ht26, q14⟩ := bS q14
 refine T.cutC (fun S' => ∃ y27 : Value, S' = ⟨[(6, (dN s10.1)), (5, (dP (blk p2))), (2, (dP b2)), (0, .fn (.yield b0) [] [])], [.lp b0 .ready none [13, 14] rfA100_0 rfB100_0 [(3, (dP b4))] 20, .var b1 [dN a0] 3, .var b2 [dN a1] 3, .var b3 [(eOP a2)] 25, .var b4 [.val y8] 163, .row y8 (List.map e_row_Row s10.2.1) 3 49, .var (blk p2) [.val y27] 228, .row y27 (List.map e_walk_frame_damier_row_Row t26) 3 234], 62⟩) (fun _ h => h) ?_ ?_
 · rcases ite_some ht26 with ⟨c28, ht26⟩ | ⟨c28, ht26⟩
   rotate_left
   · refine T.condF rfl (beq_eq_false_iff_ne.2 c28) ?_
     refine T.skip ?_
     obtain rfl := Option.some.inj ht26
     exact ⟨_, Gst.only [0, 2, 5, 6] rfl, y9, rfl⟩
   refine T.condT rfl (beq_iff_eq.2 c28) ?_
   refine T.region ?_
   obtain ⟨x29, hx29, ht26⟩ := bS ht26
   refine TL.op (OpR.call [6, 7] fn150 (walk_stack_row_Row_forth_c hx29) rfl rfl rfl (fun _ => rfl)) rfl (fun w30 => ?_)
   refine TL.nil ?_
   obtain rfl := Option.some.inj ht26
   exact ⟨_, Gst.only [0, 2, 5, 6] rfl, (vn w30 0), rfl⟩
 rintro _ ⟨y27, rfl⟩
 show T X _ _ _
 refine aS ?_
 obtain ⟨x31, hx31, q14⟩ := bS q14
 refine TL.op1 (OpR.call [6, 7] fn149 (walk_stack_row_Row_top_c hx31) rfl rfl rfl (fun _ => rfl)) rfl ?_
 refine aA rfl rfl ?_
 refine aN rfl ?_
 refine T.seq ?_
 refine T.seq ?_
 obtain ⟨x32, hx32, q14⟩ := bS q14
 obtain ⟨q33, hq33, q14⟩ := bS q14
 rcases q33 with _ | z34
 · dsimp only at q14
   exact (by cases q14)
 dsimp only at q14
 obtain ⟨x36, hx36, q14⟩ := bS q14
 rw [o_tree_Node_damier_row_Row_eq hx36] at hq33
 obtain ⟨x38, hx38, q14⟩ := bS q14
 obtain ⟨x39, hx39, q14⟩ := bS q14
 refine T.drawS drawsX (fun env37 => [.fn (.yield b0) [] [], dN s10.1, .val (.pointer (some ⟨blk y27, x31.toNat * 3, none⟩)), .val (.pointer (some ⟨blk y27, x31.toNat * 3, none⟩)), .val (.pointer (some ⟨blk y27, x31.toNat * 3, none⟩)), .nod [.sl 1 (List.map eNP x36.fKids), .sl 3 (List.map e_row_Row x36.fItems), dN x36.fN], .nod [.sl 1 (List.map eNP x36.fKids), .sl 3 (List.map e_row_Row x36.fItems), dN x36.fN], .nod [.sl 3 (List.map e_row_Row x36.fItems), dN x36.fN], .sl 3 (List.map e_row_Row x36.fItems), .val (.pointer (some ⟨blk y27, x31.toNat * 3, none⟩)), .val (.pointer (some ⟨blk y27, x31.toNat * 3, none⟩)), .val (.pointer (some ⟨blk y27, x31.toNat * 3 + 2, none⟩)), dN x32.fNext, .nod [.sl 5 (List.map e_cell_Cell x38.fCells), dN x38.fEnd, dT x38.fHidden], .agg [.sl 5 (List.map e_cell_Cell x38.fCells), dN x38.fEnd, dT x38.fHidden], dT true, dT false]) (fun D env37 => [.lp b0 .ready none [13, 14] rfA100_0 rfB100_0 [(3, (dP b4))] 20, .var b1 [dN a0] 3, .var b2 [dN a1] 3, .var b3 [(eOP a2)] 25, (bif D 15 then .var b4 [.val (vn (env37 15) 0)] 163 else .var b4 [.val y8] 163), (bif D 15 then .row (vn (env37 15) 0) (List.map e_row_Row x39) 3 49 else .row y8 (List.map e_row_Row s10.2.1) 3 49), .var (blk p2) [.val y27] 228, .row y27 (List.map e_walk_frame_damier_row_Row t26) 3 234]) [0, 0, 0, 4, 12, 28, 60, 124, 252, 0, 512, 1536, 3584, 8188, 16380, 32767, 65535] [0, 2, 5, 6, 8, 54] _ (by decide +kernel) (by decide +kernel) (fun _ => rfl) (fun _ => rfl) ?_ (fun _ => rfl) (fun _ => rfl) ?_
 rotate_left
 · intro env37
   show T X _ _ _
   refine T.condF rfl rfl ?_
   refine aK rfl ?_
   refine T.region ?_
   iterate 3 refine aA rfl rfl ?_
   refine TL.op1 (OpR.rowLoadM (j := x31) e_walk_frame_damier_row_Row 7 hx32 rfl rfl rfl rfl) rfl ?_
   iterate 3 refine aA rfl rfl ?_
   refine TL.op0 (OpR.rowStoreM (j := x31) e_walk_frame_damier_row_Row (⟨x32.fN, x32.fFirst, w64 (x32.fNext + 1)⟩ : walk_frame_damier_row_Row) 7 hx32 rfl rfl rfl rfl rfl rfl rfl rfl rfl) ?_
   refine aN rfl ?_
   refine T.region ?_
   iterate 3 refine aA rfl rfl ?_
   refine TL.nil ?_
   obtain rfl := Option.some.inj q14
   exact ⟨m12, Nat.lt_succ_self _, _, Gst.only [0, 2, 5, 6] rfl, (vn (env37 15) 0), y27, (w64 (s10.1 + 1), x39, (t26.set x31.toNat (⟨x32.fN, x32.fFirst, w64 (x32.fNext + 1)⟩ : walk_frame_damier_row_Row))), rfl, i15⟩
 iterate 5 refine aC ?_
 refine oT (.nod [.sl 1 (List.map eNP x36.fKids), .sl 3 (List.map e_row_Row x36.fItems), dN x36.fN]) (fun _ _ => OpR.cast (OpR.rowLoad0M (j := x31) e_walk_frame_damier_row_Row 7 hx32 rfl rfl rfl rfl) (congrArg eOP (Option.some.inj hq33))) ?_
 iterate 6 refine aC ?_
 refine oT ((dN x32.fNext)) (fun _ _ => OpR.rowLoadM (j := x31) e_walk_frame_damier_row_Row 7 hx32 rfl rfl rfl rfl) ?_
 refine oT (.nod [.sl 5 (List.map e_cell_Cell x38.fCells), dN x38.fEnd, dT x38.fHidden]) (fun _ _ => OpR.indexM e_row_Row hx38 rfl rfl rfl rfl rfl) ?_
 refine aC ?_
 refine OpsS.cons' true ?_ (fun D hA env37 x j hj hD => match j, hj, hD with | 0, _, _ => rfl | 1, _, _ => rfl | 2, _, _ => rfl | 3, _, _ => rfl | 4, _, _ => rfl | 5, _, _ => rfl | 6, _, _ => rfl | 7, _, _ => rfl | 8, _, _ => rfl | 9, _, _ => rfl | 10, _, _ => rfl | 11, _, _ => rfl | 12, _, _ => rfl | 13, _, _ => rfl | 14, _, _ => rfl | 15, hj, _ => absurd rfl hj | 16, _, _ => rfl | _ + 17, _, _ => rfl) ?_
 · intro D env37 hA
   exact OpS.yp [(15, false)] ⟨hA.me, trivial⟩ (Want.plain rfl) (OpR.callY [0, 4, 5] rfl (walk_All_row_Row_r0_c hx39) rfl rfl rfl (fun _ => rfl)) (fun x => rfl) (fun x => rfl)
 refine aC ?_
 exact trivial
noncomputable def walk_All_row_Row (a0 : tree_Tree_damier_row_Row) : Option (List row_Row) :=
  bnd (tree_Tree_row_Row_Len a0) fun x1 =>
  bnd ((mkc 40 x1 : Option (List row_Row))) fun x2 =>
  bnd (tree_Tree_row_Row_Len a0) fun x6 =>
  bnd (walk_Range_row_Row a0 0 x6) fun x7 =>
  bnd (walk_Range_row_Row_1 x7.1 x7.2.1 x7.2.2 x2) fun x9 =>
  some x9
theorem walk_All_row_Row_c {a0 : tree_Tree_damier_row_Row} {res : (List row_Row)} (h0 : walk_All_row_Row a0 = some res) : CallF X 100 [.agg [(eOP a0.fRoot)]] [] (fun x => .sl 3 (List.map e_row_Row res)) (fun x => []) := by
 unfold walk_All_row_Row at h0
 refine CallF.mkG (X := X) rfl Tryz.func100 rfl rfl Tryz.ntmps100 rfl rfl ?_
 refine aS ?_
 refine TL.op1 (OpR.boxImm rfl rfl) rfl ?_
 refine aA rfl rfl ?_
 refine aN rfl ?_
 refine aS ?_
 refine aA rfl rfl ?_
 obtain ⟨x1, hx1, h0⟩ := bS h0
 refine TL.op1 (OpR.call0 fn79 (tree_Tree_row_Row_Len_c hx1) rfl) rfl ?_
 obtain ⟨x2, hx2, h0⟩ := bS h0
 refine TL.op (OpR.makeC e_row_Row hx2 rfl rfl rfl rfl rfl rfl rfl (fun _ => rfl)) rfl (fun v3 => ?_)
 refine TL.op (OpR.alloc rfl rfl (fun _ => rfl)) rfl (fun p4 => ?_)
 refine TL.op0 (OpR.store 1 rfl rfl rfl rfl rfl rfl rfl rfl) ?_
 refine aN rfl ?_
 refine T.seq ?_
 refine T.seq ?_
 obtain ⟨x6, hx6, h0⟩ := bS h0
 obtain ⟨x7, hx7, h0⟩ := bS h0
 refine T.drawS drawsX (fun env5 => [.agg [(eOP a0.fRoot)], .agg [(eOP a0.fRoot)], dN x6, .fn (.func 146) [] [dP (blk (vn (env5 3) 0)), dP (blk (vn (env5 3) 1)), dP (blk (vn (env5 3) 2))]]) (fun D env5 => [.row v3 (List.map e_row_Row x2) 3 49, .var (blk p4) [.val v3] 163] ++ (bif D 3 then [.var (blk (vn (env5 3) 0)) [dN x7.1] 3] else []) ++ (bif D 3 then [.var (blk (vn (env5 3) 1)) [dN x7.2.1] 3] else []) ++ (bif D 3 then [.var (blk (vn (env5 3) 2)) [(eOP x7.2.2)] 25] else [])) [0, 0, 2, 7] [2, 3, 12] _ (by decide +kernel) (by decide +kernel) (fun _ => rfl) (fun _ => rfl) ?_ (fun _ => rfl) (fun _ => rfl) ?_
 rotate_left
 · intro env5
   show T X _ _ _
   refine T.block ?_
   obtain ⟨x9, hx9, h0⟩ := bS h0
   refine T.rangeN (A := rfA100_0) (B := rfB100_0) [3] [2, 3, 4, 1, 0] (.inl rfl) rfl rfl rfl rfl rfl fn146 rfl rfl (fun l8 => (walk_Range_row_Row_1_c hx9)) (fun _ => rfl) (fun w10 => ?_)
   show T X _ _ _
   refine aS ?_
   refine TL.op1 (OpR.loadPtr 1 rfl rfl rfl rfl) rfl ?_
   refine aA rfl rfl ?_
   refine aN rfl ?_
   refine T.ret ?_
   obtain rfl := Option.some.inj h0
   exact PostG.retP (ks := []) (Gst.trans (Gst.only [2] rfl) (Gst.trans (Gst.freezeRow 0 rfl rfl (ReS.cons (Re.base .all) ReS.nil) (ReO.same (ReO.var (ReL.cons (Re.base .all) ReL.nil) (ReO.same (ReO.same (ReO.same ReO.nil)))))) (Gst.pick [] rfl rfl))) undef (cT rfl ResL.nil) rfl rfl rfl rfl
 iterate 2 refine aC ?_
 refine oT ((dN x6)) (fun _ _ => OpR.call0 fn79 (tree_Tree_row_Row_Len_c hx6) rfl) ?_
 refine OpsS.cons' true ?_ (fun D hA env5 x j hj hD => match j, hj, hD with | 0, _, _ => rfl | 1, _, _ => rfl | 2, _, _ => rfl | 3, hj, _ => absurd rfl hj | _ + 4, _, _ => rfl) ?_
 · intro D env5 hA
   exact OpS.yp [(3, false)] ⟨hA.me, trivial⟩ (Want.plain rfl) (OpR.call [] fn80 (walk_Range_row_Row_c hx7) rfl rfl rfl (fun _ => rfl)) (fun x => rfl) (fun x => rfl)
 exact trivial
noncomputable def row_Row_has (a0 : row_Row) (a1 : Int) : Option Bool :=
  bnd (if a1 ≥ 0 then
    some (decide (a1 < (a0.fCells.length : Int)))
  else
    some false : Option Bool) fun t1 =>
  some t1
theorem row_Row_has_c {a0 : row_Row} {a1 : Int} {res : Bool} (h0 : row_Row_has a0 a1 = some res) : CallF X 158 [.agg [.sl 5 (List.map e_cell_Cell a0.fCells), dN a0.fEnd, dT a0.fHidden], dN a1] [] (fun x => (dT res)) (fun x => []) := by
 unfold row_Row_has at h0
 refine CallF.mkG (X := X) rfl Tryz.func158 rfl rfl Tryz.ntmps158 rfl rfl ?_
 refine aS ?_
 refine TL.op1 (OpR.boxImm rfl rfl) rfl ?_
 refine aA rfl rfl ?_
 refine aN rfl ?_
 refine T.seq ?_
 obtain ⟨t1, ht1, h0⟩ := bS h0
 refine T.cutC (fun S' => S' = ⟨[(4, (dT t1))], [], 14⟩) (fun _ h => h) ?_ ?_
 rotate_left
 · rintro _ rfl
   show T X _ _ _
   refine T.ret ?_
   obtain rfl := Option.some.inj h0
   exact rO [] [4] rfl undef (cT rfl ResL.nil) rfl rfl rfl rfl
 refine T.region ?_
 iterate 3 refine aA rfl rfl ?_
 rcases ite_some ht1 with ⟨c2, ht1⟩ | ⟨c2, ht1⟩
 rotate_left
 · refine TL.off rfl rfl rfl rfl (decide_eq_false c2) rfl rfl ?_
   refine TL.off rfl rfl rfl rfl (decide_eq_false c2) rfl rfl ?_
   refine TL.off rfl rfl rfl rfl (decide_eq_false c2) rfl rfl ?_
   refine TL.off rfl rfl rfl rfl (decide_eq_false c2) rfl rfl ?_
   refine TL.off rfl rfl rfl rfl (decide_eq_false c2) rfl rfl ?_
   refine TL.op1 (OpR.pickF rfl (decide_eq_false c2) rfl) rfl ?_
   refine aA rfl rfl ?_
   refine TL.nil ?_
   obtain rfl := Option.some.inj ht1
   exact ⟨_, Gst.only [4] rfl, rfl⟩
 refine TL.on rfl rfl rfl rfl (decide_eq_true c2) ?_
 refine aA rfl rfl ?_
 refine TL.on rfl rfl rfl rfl (decide_eq_true c2) ?_
 refine aA rfl rfl ?_
 refine TL.on rfl rfl rfl rfl (decide_eq_true c2) ?_
 refine aA rfl rfl ?_
 refine TL.on rfl rfl rfl rfl (decide_eq_true c2) ?_
 refine TL.op1 (OpR.cast (OpR.pure rfl) (intE (lenM _ _))) rfl ?_
 refine TL.on rfl rfl rfl rfl (decide_eq_true c2) ?_
 refine aA rfl rfl ?_
 refine TL.op1 (OpR.pickT rfl (decide_eq_true c2) rfl) rfl ?_
 refine aA rfl rfl ?_
 refine TL.nil ?_
 obtain rfl := Option.some.inj ht1
 exact ⟨_, Gst.only [4] rfl, rfl⟩
noncomputable def row_Row_At (a0 : row_Row) (a1 : Int) : Option (cell_Cell × Bool) :=
  bnd (row_Row_has a0 a1) fun x2 =>
  if x2 = true then
    bnd (idx a0.fCells a1) fun x4 =>
    some (x4, true)
  else
    some ((⟨(⟨[], 0⟩ : piece_Text), (⟨0, 0⟩ : arena_Span), false⟩ : cell_Cell), false)
theorem row_Row_At_c {a0 : row_Row} {a1 : Int} {res : cell_Cell × Bool} (h0 : row_Row_At a0 a1 = some res) : CallF X 111 [.agg [.sl 5 (List.map e_cell_Cell a0.fCells), dN a0.fEnd, dT a0.fHidden], dN a1] [] (fun x => .tup [.agg [.sl 2 (List.map e_arena_Span res.1.fText.fL), dN res.1.fText.fN, dN res.1.fRaw.fAt, dN res.1.fRaw.fN, dT res.1.fKept], dT res.2]) (fun x => []) := by
 unfold row_Row_At at h0
 refine CallF.mkG (X := X) rfl Tryz.func111 rfl rfl Tryz.ntmps111 rfl rfl ?_
 refine aS ?_
 refine TL.op1 (OpR.boxImm rfl rfl) rfl ?_
 refine TL.op (OpR.alloc rfl rfl (fun _ => rfl)) rfl (fun p1 => ?_)
 refine aA rfl rfl ?_
 refine aN rfl ?_
 refine T.seq ?_
 refine aS ?_
 iterate 2 refine aA rfl rfl ?_
 obtain ⟨x2, hx2, h0⟩ := bS h0
 refine TL.op1 (OpR.call0 fn158 (row_Row_has_c hx2) rfl) rfl ?_
 refine aA rfl rfl ?_
 refine aN rfl ?_
 rcases ite_some h0 with ⟨c3, h0⟩ | ⟨c3, h0⟩
 rotate_left
 · refine T.condT rfl (not_f (eq_false_of_ne_true c3)) ?_
   refine aS ?_
   refine TL.op1 (OpR.build rfl rfl rfl rfl rfl) rfl ?_
   refine TL.op0 (OpR.store 0 rfl rfl rfl rfl rfl rfl rfl rfl) ?_
   refine aA rfl rfl ?_
   refine aN rfl ?_
   refine T.ret ?_
   obtain rfl := Option.some.inj h0
   exact PostG.retP (ks := []) (Gst.trans (Gst.only [4, 5] rfl) (Gst.denil (ReS.cons Re.refl (ReS.cons Re.refl ReS.nil)) (ReO.var (ReL.cons (Re.base .nil) (ReL.cons Re.refl (ReL.cons Re.refl (ReL.cons Re.refl (ReL.cons Re.refl ReL.nil))))) ReO.nil))) undef (cV 0 rfl rfl rfl rfl (cT rfl ResL.nil)) rfl rfl rfl rfl
 refine T.condF rfl (not_t (c3)) ?_
 refine aK rfl ?_
 refine aS ?_
 iterate 3 refine aA rfl rfl ?_
 obtain ⟨x4, hx4, h0⟩ := bS h0
 refine TL.op1 (OpR.indexM e_cell_Cell hx4 rfl rfl rfl rfl rfl) rfl ?_
 refine aA rfl rfl ?_
 refine TL.op0 (OpR.store 0 rfl rfl rfl rfl rfl rfl rfl rfl) ?_
 refine aA rfl rfl ?_
 refine aN rfl ?_
 refine T.ret ?_
 obtain rfl := Option.some.inj h0
 exact rO [] [4, 5] rfl undef (cV 0 rfl rfl rfl rfl (cT rfl ResL.nil)) rfl rfl rfl rfl
noncomputable def filter_of (a0 : Int) : Option (Unit ⊕ (Unit ⊕ (Unit ⊕ (Unit ⊕ (Unit ⊕ (Unit ⊕ Unit)))))) :=
  if a0 = 0 then
    some (Sum.inl ())
  else
    if a0 = 1 then
      some (Sum.inr (Sum.inl ()))
    else
      if a0 = 2 then
        some (Sum.inr (Sum.inr (Sum.inl ())))
      else
        if a0 = 3 then
          some (Sum.inr (Sum.inr (Sum.inr (Sum.inl ()))))
        else
          if a0 = 4 then
            some (Sum.inr (Sum.inr (Sum.inr (Sum.inr (Sum.inl ())))))
          else
            if a0 = 5 then
              some (Sum.inr (Sum.inr (Sum.inr (Sum.inr (Sum.inr (Sum.inl ()))))))
            else
              some (Sum.inr (Sum.inr (Sum.inr (Sum.inr (Sum.inr (Sum.inr ()))))))
theorem filter_of_c {a0 : Int} {res : Unit ⊕ (Unit ⊕ (Unit ⊕ (Unit ⊕ (Unit ⊕ (Unit ⊕ Unit)))))} (h0 : filter_of a0 = some res) : CallF X 112 [dN a0] [] (fun x => (match res with | .inl res => .agg [.fn (.func 175) [] []] | .inr (.inl res) => .agg [.fn (.func 177) [] []] | .inr (.inr (.inl res)) => .agg [.fn (.func 178) [] []] | .inr (.inr (.inr (.inl res))) => .agg [.fn (.func 179) [] []] | .inr (.inr (.inr (.inr (.inl res)))) => .agg [.fn (.func 180) [] []] | .inr (.inr (.inr (.inr (.inr (.inl res))))) => .agg [.fn (.func 181) [] []] | .inr (.inr (.inr (.inr (.inr (.inr res))))) => .agg [.fn (.func 182) [] []])) (fun x => (match res with | .inl res => [] | .inr (.inl res) => [] | .inr (.inr (.inl res)) => [] | .inr (.inr (.inr (.inl res))) => [] | .inr (.inr (.inr (.inr (.inl res)))) => [] | .inr (.inr (.inr (.inr (.inr (.inl res))))) => [] | .inr (.inr (.inr (.inr (.inr (.inr res))))) => [])) := by
 unfold filter_of at h0
 refine CallF.mkG (X := X) rfl Tryz.func112 rfl rfl Tryz.ntmps112 rfl rfl ?_
 refine aS ?_
 refine TL.op (OpR.alloc rfl rfl (fun _ => rfl)) rfl (fun p1 => ?_)
 refine aN rfl ?_
 refine T.seq ?_
 refine aS ?_
 refine aA rfl rfl ?_
 refine aN rfl ?_
 refine T.block ?_
 refine aS ?_
 iterate 2 refine aA rfl rfl ?_
 refine aN rfl ?_
 rcases ite_some h0 with ⟨c2, h0⟩ | ⟨c2, h0⟩
 · refine T.condT rfl (beq_iff_eq.2 c2) ?_
   refine aS ?_
   refine TL.op1 (OpR.build rfl rfl rfl rfl rfl) rfl ?_
   refine TL.op0 (OpR.store 0 rfl rfl rfl rfl rfl rfl rfl rfl) ?_
   refine aN rfl ?_
   refine T.ret ?_
   obtain rfl := Option.some.inj h0
   exact rO [] [2] rfl undef (cV 0 rfl rfl rfl rfl ResL.nil) rfl rfl rfl rfl
 refine T.condF rfl (beq_eq_false_iff_ne.2 c2) ?_
 refine aS ?_
 iterate 2 refine aA rfl rfl ?_
 refine aN rfl ?_
 rcases ite_some h0 with ⟨c3, h0⟩ | ⟨c3, h0⟩
 · refine T.condT rfl (beq_iff_eq.2 c3) ?_
   refine aS ?_
   refine TL.op1 (OpR.build rfl rfl rfl rfl rfl) rfl ?_
   refine TL.op0 (OpR.store 0 rfl rfl rfl rfl rfl rfl rfl rfl) ?_
   refine aN rfl ?_
   refine T.ret ?_
   obtain rfl := Option.some.inj h0
   exact rO [] [2] rfl undef (cV 0 rfl rfl rfl rfl ResL.nil) rfl rfl rfl rfl
 refine T.condF rfl (beq_eq_false_iff_ne.2 c3) ?_
 refine aS ?_
 iterate 2 refine aA rfl rfl ?_
 refine aN rfl ?_
 rcases ite_some h0 with ⟨c4, h0⟩ | ⟨c4, h0⟩
 · refine T.condT rfl (beq_iff_eq.2 c4) ?_
   refine aS ?_
   refine TL.op1 (OpR.build rfl rfl rfl rfl rfl) rfl ?_
   refine TL.op0 (OpR.store 0 rfl rfl rfl rfl rfl rfl rfl rfl) ?_
   refine aN rfl ?_
   refine T.ret ?_
   obtain rfl := Option.some.inj h0
   exact rO [] [2] rfl undef (cV 0 rfl rfl rfl rfl ResL.nil) rfl rfl rfl rfl
 refine T.condF rfl (beq_eq_false_iff_ne.2 c4) ?_
 refine aS ?_
 iterate 2 refine aA rfl rfl ?_
 refine aN rfl ?_
 rcases ite_some h0 with ⟨c5, h0⟩ | ⟨c5, h0⟩
 · refine T.condT rfl (beq_iff_eq.2 c5) ?_
   refine aS ?_
   refine TL.op1 (OpR.build rfl rfl rfl rfl rfl) rfl ?_
   refine TL.op0 (OpR.store 0 rfl rfl rfl rfl rfl rfl rfl rfl) ?_
   refine aN rfl ?_
   refine T.ret ?_
   obtain rfl := Option.some.inj h0
   exact rO [] [2] rfl undef (cV 0 rfl rfl rfl rfl ResL.nil) rfl rfl rfl rfl
 refine T.condF rfl (beq_eq_false_iff_ne.2 c5) ?_
 refine aS ?_
 iterate 2 refine aA rfl rfl ?_
 refine aN rfl ?_
 rcases ite_some h0 with ⟨c6, h0⟩ | ⟨c6, h0⟩
 · refine T.condT rfl (beq_iff_eq.2 c6) ?_
   refine aS ?_
   refine TL.op1 (OpR.build rfl rfl rfl rfl rfl) rfl ?_
   refine TL.op0 (OpR.store 0 rfl rfl rfl rfl rfl rfl rfl rfl) ?_
   refine aN rfl ?_
   refine T.ret ?_
   obtain rfl := Option.some.inj h0
   exact rO [] [2] rfl undef (cV 0 rfl rfl rfl rfl ResL.nil) rfl rfl rfl rfl
 refine T.condF rfl (beq_eq_false_iff_ne.2 c6) ?_
 refine aS ?_
 iterate 2 refine aA rfl rfl ?_
 refine aN rfl ?_
 rcases ite_some h0 with ⟨c7, h0⟩ | ⟨c7, h0⟩
 · refine T.condT rfl (beq_iff_eq.2 c7) ?_
   refine aS ?_
   refine TL.op1 (OpR.build rfl rfl rfl rfl rfl) rfl ?_
   refine TL.op0 (OpR.store 0 rfl rfl rfl rfl rfl rfl rfl rfl) ?_
   refine aN rfl ?_
   refine T.ret ?_
   obtain rfl := Option.some.inj h0
   exact rO [] [2] rfl undef (cV 0 rfl rfl rfl rfl ResL.nil) rfl rfl rfl rfl
 refine T.condF rfl (beq_eq_false_iff_ne.2 c7) ?_
 refine aK rfl ?_
 refine aS ?_
 refine TL.op1 (OpR.build rfl rfl rfl rfl rfl) rfl ?_
 refine TL.op0 (OpR.store 0 rfl rfl rfl rfl rfl rfl rfl rfl) ?_
 refine aN rfl ?_
 refine T.ret ?_
 obtain rfl := Option.some.inj h0
 exact rO [] [2] rfl undef (cV 0 rfl rfl rfl rfl ResL.nil) rfl rfl rfl rfl
theorem filter_of_cx1 {a0 : Int} {res : Unit} (h0 : filter_of a0 = some (Sum.inl res)) : CallF X 112 [dN a0] [] (fun x => .agg [.fn (.func 175) [] []]) (fun x => []) := filter_of_c h0
theorem filter_of_cx2 {a0 : Int} {res : Unit} (h0 : filter_of a0 = some (Sum.inr (Sum.inl res))) : CallF X 112 [dN a0] [] (fun x => .agg [.fn (.func 177) [] []]) (fun x => []) := filter_of_c h0
theorem filter_of_cx3 {a0 : Int} {res : Unit} (h0 : filter_of a0 = some (Sum.inr (Sum.inr (Sum.inl res)))) : CallF X 112 [dN a0] [] (fun x => .agg [.fn (.func 178) [] []]) (fun x => []) := filter_of_c h0
theorem filter_of_cx4 {a0 : Int} {res : Unit} (h0 : filter_of a0 = some (Sum.inr (Sum.inr (Sum.inr (Sum.inl res))))) : CallF X 112 [dN a0] [] (fun x => .agg [.fn (.func 179) [] []]) (fun x => []) := filter_of_c h0
theorem filter_of_cx5 {a0 : Int} {res : Unit} (h0 : filter_of a0 = some (Sum.inr (Sum.inr (Sum.inr (Sum.inr (Sum.inl res)))))) : CallF X 112 [dN a0] [] (fun x => .agg [.fn (.func 180) [] []]) (fun x => []) := filter_of_c h0
theorem filter_of_cx6 {a0 : Int} {res : Unit} (h0 : filter_of a0 = some (Sum.inr (Sum.inr (Sum.inr (Sum.inr (Sum.inr (Sum.inl res))))))) : CallF X 112 [dN a0] [] (fun x => .agg [.fn (.func 181) [] []]) (fun x => []) := filter_of_c h0
theorem filter_of_cx7 {a0 : Int} {res : Unit} (h0 : filter_of a0 = some (Sum.inr (Sum.inr (Sum.inr (Sum.inr (Sum.inr (Sum.inr res))))))) : CallF X 112 [dN a0] [] (fun x => .agg [.fn (.func 182) [] []]) (fun x => []) := filter_of_c h0
noncomputable def arena_Arena_Right (a0 : arena_Span) (a1 : List UInt8) : Option Bool :=
  bnd (if a0.fAt ≥ 0 then
    if a0.fN ≥ 0 then
      if a0.fAt ≤ (a1.length : Int) then
        some (decide (a0.fN ≤ (w64 ((a1.length : Int) - a0.fAt))))
      else
        some false
    else
      some false
  else
    some false : Option Bool) fun t1 =>
  some t1
theorem arena_Arena_Right_c {a0 : arena_Span} {a1 : List UInt8} {b0 : Nat} {v1 : Value} {res : Bool} (h0 : arena_Arena_Right a0 a1 = some res) : CallF X 261 [dP b0, .agg [dN a0.fAt, dN a0.fN]] [.var b0 [.val v1] 264, .row v1 (lB a1) 1 5] (fun x => (dT res)) (fun x => [.var b0 [.val v1] 264, .row v1 (lB a1) 1 5]) := by
 unfold arena_Arena_Right at h0
 refine CallF.mkG (X := X) rfl Tryz.func261 rfl rfl Tryz.ntmps261 rfl rfl ?_
 refine aS ?_
 refine TL.op1 (OpR.boxImm rfl rfl) rfl ?_
 refine aA rfl rfl ?_
 refine aN rfl ?_
 refine T.seq ?_
 refine aS ?_
 refine aA rfl rfl ?_
 refine TL.op1 (OpR.ptrNil (A := some ⟨b0, 0, none⟩) rfl rfl rfl) rfl ?_
 refine aN rfl ?_
 refine T.condF rfl rfl ?_
 refine aK rfl ?_
 refine T.seq ?_
 obtain ⟨t1, ht1, h0⟩ := bS h0
 refine T.cutC (fun S' => S' = ⟨[(4, (dT t1))], [.var b0 [.val v1] 264, .row v1 (lB a1) 1 5], 38⟩) (fun _ h => h) ?_ ?_
 rotate_left
 · rintro _ rfl
   show T X _ _ _
   refine T.ret ?_
   obtain rfl := Option.some.inj h0
   exact rO [0, 1] [4] rfl undef (cT rfl ResL.nil) rfl rfl rfl rfl
 rcases ite_some ht1 with ⟨c3, ht1⟩ | ⟨c3, ht1⟩
 rotate_left
 · refine T.drawQ drawsX [.nod [dN a0.fAt, dN a0.fN], dN a0.fAt, dT (decide (a0.fAt ≥ 0)), dT (decide (a0.fAt ≥ 0)), .tup [], .tup [], .tup [], dT false, dT false, .tup [], .tup [], .tup [], .tup [], .tup [], .tup [], .tup [], .tup [], dT false, dT false, .tup [], .tup [], .tup [], .tup [], .tup [], .tup [], .tup [], .tup [], .tup [], .tup [], .tup [], dT false, dT false] [4] (by decide +kernel) rfl ?_ rfl ?_
   rotate_left
   · obtain rfl := Option.some.inj ht1
     exact ⟨_, Gst.only [4] rfl, rfl⟩
   iterate 4 refine aB rfl rfl rfl ?_
   refine OpsQ.no (Want.bool rfl rfl rfl rfl (by rw [(decide_eq_false c3)]; rfl)) rfl ?_
   refine OpsQ.no (Want.bool rfl rfl rfl rfl (by rw [(decide_eq_false c3)]; rfl)) rfl ?_
   refine OpsQ.no (Want.bool rfl rfl rfl rfl (by rw [(decide_eq_false c3)]; rfl)) rfl ?_
   refine OpsQ.yes (Want.plain rfl) rfl (OpR.pickF rfl (decide_eq_false c3) rfl) ?_
   refine aB rfl rfl rfl ?_
   refine OpsQ.no (Want.bool rfl rfl rfl rfl rfl) rfl ?_
   refine OpsQ.no (Want.bool rfl rfl rfl rfl rfl) rfl ?_
   refine OpsQ.no (Want.bool rfl rfl rfl rfl rfl) rfl ?_
   refine OpsQ.no (Want.bool rfl rfl rfl rfl rfl) rfl ?_
   refine OpsQ.no (Want.bool rfl rfl rfl rfl rfl) rfl ?_
   refine OpsQ.no (Want.bool rfl rfl rfl rfl rfl) rfl ?_
   refine OpsQ.no (Want.bool rfl rfl rfl rfl rfl) rfl ?_
   refine OpsQ.no (Want.bool rfl rfl rfl rfl rfl) rfl ?_
   refine OpsQ.yes (Want.plain rfl) rfl (OpR.pickF rfl rfl rfl) ?_
   refine aB rfl rfl rfl ?_
   refine OpsQ.no (Want.bool rfl rfl rfl rfl rfl) rfl ?_
   refine OpsQ.no (Want.bool rfl rfl rfl rfl rfl) rfl ?_
   refine OpsQ.no (Want.bool rfl rfl rfl rfl rfl) rfl ?_
   refine OpsQ.no (Want.bool rfl rfl rfl rfl rfl) rfl ?_
   refine OpsQ.no (Want.bool rfl rfl rfl rfl rfl) rfl ?_
   refine OpsQ.no (Want.bool rfl rfl rfl rfl rfl) rfl ?_
   refine OpsQ.no (Want.bool rfl rfl rfl rfl rfl) rfl ?_
   refine OpsQ.no (Want.bool rfl rfl rfl rfl rfl) rfl ?_
   refine OpsQ.no (Want.bool rfl rfl rfl rfl rfl) rfl ?_
   refine OpsQ.no (Want.bool rfl rfl rfl rfl rfl) rfl ?_
   refine OpsQ.no (Want.bool rfl rfl rfl rfl rfl) rfl ?_
   refine OpsQ.yes (Want.plain rfl) rfl (OpR.pickF rfl rfl rfl) ?_
   refine aB rfl rfl rfl ?_
   exact OpsQ.nil
 rcases ite_some ht1 with ⟨c4, ht1⟩ | ⟨c4, ht1⟩
 rotate_left
 · refine T.drawQ drawsX [.nod [dN a0.fAt, dN a0.fN], dN a0.fAt, dT (decide (a0.fAt ≥ 0)), dT (decide (a0.fAt ≥ 0)), .nod [dN a0.fN], dN a0.fN, dT (decide (a0.fN ≥ 0)), dT (decide (a0.fN ≥ 0)), dT (decide (a0.fN ≥ 0)), .tup [], .tup [], .tup [], .tup [], .tup [], .tup [], .tup [], .tup [], dT false, dT false, .tup [], .tup [], .tup [], .tup [], .tup [], .tup [], .tup [], .tup [], .tup [], .tup [], .tup [], dT false, dT false] [4] (by decide +kernel) rfl ?_ rfl ?_
   rotate_left
   · obtain rfl := Option.some.inj ht1
     exact ⟨_, Gst.only [4] rfl, rfl⟩
   iterate 4 refine aB rfl rfl rfl ?_
   refine OpsQ.yes (Want.bool rfl rfl rfl rfl (by rw [(decide_eq_true c3)]; rfl)) rfl (OpR.pure rfl) ?_
   refine OpsQ.yes (Want.bool rfl rfl rfl rfl (by rw [(decide_eq_true c3)]; rfl)) rfl (OpR.pure rfl) ?_
   refine OpsQ.yes (Want.bool rfl rfl rfl rfl (by rw [(decide_eq_true c3)]; rfl)) rfl (OpR.pure rfl) ?_
   refine OpsQ.yes (Want.plain rfl) rfl (OpR.pickT rfl (decide_eq_true c3) rfl) ?_
   refine aB rfl rfl rfl ?_
   refine OpsQ.no (Want.bool rfl rfl rfl rfl (by rw [(decide_eq_false c4)]; rfl)) rfl ?_
   refine OpsQ.no (Want.bool rfl rfl rfl rfl (by rw [(decide_eq_false c4)]; rfl)) rfl ?_
   refine OpsQ.no (Want.bool rfl rfl rfl rfl (by rw [(decide_eq_false c4)]; rfl)) rfl ?_
   refine OpsQ.no (Want.bool rfl rfl rfl rfl (by rw [(decide_eq_false c4)]; rfl)) rfl ?_
   refine OpsQ.no (Want.bool rfl rfl rfl rfl (by rw [(decide_eq_false c4)]; rfl)) rfl ?_
   refine OpsQ.no (Want.bool rfl rfl rfl rfl (by rw [(decide_eq_false c4)]; rfl)) rfl ?_
   refine OpsQ.no (Want.bool rfl rfl rfl rfl (by rw [(decide_eq_false c4)]; rfl)) rfl ?_
   refine OpsQ.no (Want.bool rfl rfl rfl rfl (by rw [(decide_eq_false c4)]; rfl)) rfl ?_
   refine OpsQ.yes (Want.plain rfl) rfl (OpR.pickF rfl (decide_eq_false c4) rfl) ?_
   refine aB rfl rfl rfl ?_
   refine OpsQ.no (Want.bool rfl rfl rfl rfl rfl) rfl ?_
   refine OpsQ.no (Want.bool rfl rfl rfl rfl rfl) rfl ?_
   refine OpsQ.no (Want.bool rfl rfl rfl rfl rfl) rfl ?_
   refine OpsQ.no (Want.bool rfl rfl rfl rfl rfl) rfl ?_
   refine OpsQ.no (Want.bool rfl rfl rfl rfl rfl) rfl ?_
   refine OpsQ.no (Want.bool rfl rfl rfl rfl rfl) rfl ?_
   refine OpsQ.no (Want.bool rfl rfl rfl rfl rfl) rfl ?_
   refine OpsQ.no (Want.bool rfl rfl rfl rfl rfl) rfl ?_
   refine OpsQ.no (Want.bool rfl rfl rfl rfl rfl) rfl ?_
   refine OpsQ.no (Want.bool rfl rfl rfl rfl rfl) rfl ?_
   refine OpsQ.no (Want.bool rfl rfl rfl rfl rfl) rfl ?_
   refine OpsQ.yes (Want.plain rfl) rfl (OpR.pickF rfl rfl rfl) ?_
   refine aB rfl rfl rfl ?_
   exact OpsQ.nil
 rcases ite_some ht1 with ⟨c5, ht1⟩ | ⟨c5, ht1⟩
 rotate_left
 · refine T.drawQ drawsX [.nod [dN a0.fAt, dN a0.fN], dN a0.fAt, dT (decide (a0.fAt ≥ 0)), dT (decide (a0.fAt ≥ 0)), .nod [dN a0.fN], dN a0.fN, dT (decide (a0.fN ≥ 0)), dT (decide (a0.fN ≥ 0)), dT (decide (a0.fN ≥ 0)), .nod [dN a0.fAt, dN a0.fN], dN a0.fAt, dP b0, dP b0, dP b0, .val v1, dN (a1.length : Int), dT (decide (a0.fAt ≤ (a1.length : Int))), dT (decide (a0.fAt ≤ (a1.length : Int))), dT (decide (a0.fAt ≤ (a1.length : Int))), .tup [], .tup [], .tup [], .tup [], .tup [], .tup [], .tup [], .tup [], .tup [], .tup [], .tup [], dT false, dT false] [4] (by decide +kernel) rfl ?_ rfl ?_
   rotate_left
   · obtain rfl := Option.some.inj ht1
     exact ⟨_, Gst.only [4] rfl, rfl⟩
   iterate 4 refine aB rfl rfl rfl ?_
   refine OpsQ.yes (Want.bool rfl rfl rfl rfl (by rw [(decide_eq_true c3)]; rfl)) rfl (OpR.pure rfl) ?_
   refine OpsQ.yes (Want.bool rfl rfl rfl rfl (by rw [(decide_eq_true c3)]; rfl)) rfl (OpR.pure rfl) ?_
   refine OpsQ.yes (Want.bool rfl rfl rfl rfl (by rw [(decide_eq_true c3)]; rfl)) rfl (OpR.pure rfl) ?_
   refine OpsQ.yes (Want.plain rfl) rfl (OpR.pickT rfl (decide_eq_true c3) rfl) ?_
   refine aB rfl rfl rfl ?_
   refine OpsQ.yes (Want.bool rfl rfl rfl rfl (by rw [(decide_eq_true c4)]; rfl)) rfl (OpR.pure rfl) ?_
   refine OpsQ.yes (Want.bool rfl rfl rfl rfl (by rw [(decide_eq_true c4)]; rfl)) rfl (OpR.pure rfl) ?_
   refine OpsQ.yes (Want.bool rfl rfl rfl rfl (by rw [(decide_eq_true c4)]; rfl)) rfl (OpR.pure rfl) ?_
   refine OpsQ.yes (Want.bool rfl rfl rfl rfl (by rw [(decide_eq_true c4)]; rfl)) rfl (OpR.pure rfl) ?_
   refine OpsQ.yes (Want.bool rfl rfl rfl rfl (by rw [(decide_eq_true c4)]; rfl)) rfl (OpR.pure rfl) ?_
   refine OpsQ.yes (Want.bool rfl rfl rfl rfl (by rw [(decide_eq_true c4)]; rfl)) rfl (OpR.loadPtr 0 rfl rfl rfl rfl) ?_
   refine OpsQ.yes (Want.bool rfl rfl rfl rfl (by rw [(decide_eq_true c4)]; rfl)) rfl (OpR.rowLenM byteD 1 rfl rfl rfl rfl) ?_
   refine OpsQ.yes (Want.bool rfl rfl rfl rfl (by rw [(decide_eq_true c4)]; rfl)) rfl (OpR.pure rfl) ?_
   refine OpsQ.yes (Want.plain rfl) rfl (OpR.pickT rfl (decide_eq_true c4) rfl) ?_
   refine aB rfl rfl rfl ?_
   refine OpsQ.no (Want.bool rfl rfl rfl rfl (by rw [(decide_eq_false c5)]; rfl)) rfl ?_
   refine OpsQ.no (Want.bool rfl rfl rfl rfl (by rw [(decide_eq_false c5)]; rfl)) rfl ?_
   refine OpsQ.no (Want.bool rfl rfl rfl rfl (by rw [(decide_eq_false c5)]; rfl)) rfl ?_
   refine OpsQ.no (Want.bool rfl rfl rfl rfl (by rw [(decide_eq_false c5)]; rfl)) rfl ?_
   refine OpsQ.no (Want.bool rfl rfl rfl rfl (by rw [(decide_eq_false c5)]; rfl)) rfl ?_
   refine OpsQ.no (Want.bool rfl rfl rfl rfl (by rw [(decide_eq_false c5)]; rfl)) rfl ?_
   refine OpsQ.no (Want.bool rfl rfl rfl rfl (by rw [(decide_eq_false c5)]; rfl)) rfl ?_
   refine OpsQ.no (Want.bool rfl rfl rfl rfl (by rw [(decide_eq_false c5)]; rfl)) rfl ?_
   refine OpsQ.no (Want.bool rfl rfl rfl rfl (by rw [(decide_eq_false c5)]; rfl)) rfl ?_
   refine OpsQ.no (Want.bool rfl rfl rfl rfl (by rw [(decide_eq_false c5)]; rfl)) rfl ?_
   refine OpsQ.no (Want.bool rfl rfl rfl rfl (by rw [(decide_eq_false c5)]; rfl)) rfl ?_
   refine OpsQ.yes (Want.plain rfl) rfl (OpR.pickF rfl (decide_eq_false c5) rfl) ?_
   refine aB rfl rfl rfl ?_
   exact OpsQ.nil
 refine T.drawQ drawsX [.nod [dN a0.fAt, dN a0.fN], dN a0.fAt, dT (decide (a0.fAt ≥ 0)), dT (decide (a0.fAt ≥ 0)), .nod [dN a0.fN], dN a0.fN, dT (decide (a0.fN ≥ 0)), dT (decide (a0.fN ≥ 0)), dT (decide (a0.fN ≥ 0)), .nod [dN a0.fAt, dN a0.fN], dN a0.fAt, dP b0, dP b0, dP b0, .val v1, dN (a1.length : Int), dT (decide (a0.fAt ≤ (a1.length : Int))), dT (decide (a0.fAt ≤ (a1.length : Int))), dT (decide (a0.fAt ≤ (a1.length : Int))), .nod [dN a0.fN], dN a0.fN, dP b0, dP b0, dP b0, .val v1, dN (a1.length : Int), .nod [dN a0.fAt, dN a0.fN], dN a0.fAt, dN (w64 ((a1.length : Int) - a0.fAt)), dT (decide (a0.fN ≤ (w64 ((a1.length : Int) - a0.fAt)))), dT (decide (a0.fN ≤ (w64 ((a1.length : Int) - a0.fAt)))), dT (decide (a0.fN ≤ (w64 ((a1.length : Int) - a0.fAt))))] [4] (by decide +kernel) rfl ?_ rfl ?_
 rotate_left
 · obtain rfl := Option.some.inj ht1
   exact ⟨_, Gst.only [4] rfl, rfl⟩
 iterate 4 refine aB rfl rfl rfl ?_
 refine OpsQ.yes (Want.bool rfl rfl rfl rfl (by rw [(decide_eq_true c3)]; rfl)) rfl (OpR.pure rfl) ?_
 refine OpsQ.yes (Want.bool rfl rfl rfl rfl (by rw [(decide_eq_true c3)]; rfl)) rfl (OpR.pure rfl) ?_
 refine OpsQ.yes (Want.bool rfl rfl rfl rfl (by rw [(decide_eq_true c3)]; rfl)) rfl (OpR.pure rfl) ?_
 refine OpsQ.yes (Want.plain rfl) rfl (OpR.pickT rfl (decide_eq_true c3) rfl) ?_
 refine aB rfl rfl rfl ?_
 refine OpsQ.yes (Want.bool rfl rfl rfl rfl (by rw [(decide_eq_true c4)]; rfl)) rfl (OpR.pure rfl) ?_
 refine OpsQ.yes (Want.bool rfl rfl rfl rfl (by rw [(decide_eq_true c4)]; rfl)) rfl (OpR.pure rfl) ?_
 refine OpsQ.yes (Want.bool rfl rfl rfl rfl (by rw [(decide_eq_true c4)]; rfl)) rfl (OpR.pure rfl) ?_
 refine OpsQ.yes (Want.bool rfl rfl rfl rfl (by rw [(decide_eq_true c4)]; rfl)) rfl (OpR.pure rfl) ?_
 refine OpsQ.yes (Want.bool rfl rfl rfl rfl (by rw [(decide_eq_true c4)]; rfl)) rfl (OpR.pure rfl) ?_
 refine OpsQ.yes (Want.bool rfl rfl rfl rfl (by rw [(decide_eq_true c4)]; rfl)) rfl (OpR.loadPtr 0 rfl rfl rfl rfl) ?_
 refine OpsQ.yes (Want.bool rfl rfl rfl rfl (by rw [(decide_eq_true c4)]; rfl)) rfl (OpR.rowLenM byteD 1 rfl rfl rfl rfl) ?_
 refine OpsQ.yes (Want.bool rfl rfl rfl rfl (by rw [(decide_eq_true c4)]; rfl)) rfl (OpR.pure rfl) ?_
 refine OpsQ.yes (Want.plain rfl) rfl (OpR.pickT rfl (decide_eq_true c4) rfl) ?_
 refine aB rfl rfl rfl ?_
 refine OpsQ.yes (Want.bool rfl rfl rfl rfl (by rw [(decide_eq_true c5)]; rfl)) rfl (OpR.pure rfl) ?_
 refine OpsQ.yes (Want.bool rfl rfl rfl rfl (by rw [(decide_eq_true c5)]; rfl)) rfl (OpR.pure rfl) ?_
 refine OpsQ.yes (Want.bool rfl rfl rfl rfl (by rw [(decide_eq_true c5)]; rfl)) rfl (OpR.pure rfl) ?_
 refine OpsQ.yes (Want.bool rfl rfl rfl rfl (by rw [(decide_eq_true c5)]; rfl)) rfl (OpR.pure rfl) ?_
 refine OpsQ.yes (Want.bool rfl rfl rfl rfl (by rw [(decide_eq_true c5)]; rfl)) rfl (OpR.pure rfl) ?_
 refine OpsQ.yes (Want.bool rfl rfl rfl rfl (by rw [(decide_eq_true c5)]; rfl)) rfl (OpR.loadPtr 0 rfl rfl rfl rfl) ?_
 refine OpsQ.yes (Want.bool rfl rfl rfl rfl (by rw [(decide_eq_true c5)]; rfl)) rfl (OpR.rowLenM byteD 1 rfl rfl rfl rfl) ?_
 refine OpsQ.yes (Want.bool rfl rfl rfl rfl (by rw [(decide_eq_true c5)]; rfl)) rfl (OpR.pure rfl) ?_
 refine OpsQ.yes (Want.bool rfl rfl rfl rfl (by rw [(decide_eq_true c5)]; rfl)) rfl (OpR.pure rfl) ?_
 refine OpsQ.yes (Want.bool rfl rfl rfl rfl (by rw [(decide_eq_true c5)]; rfl)) rfl (OpR.pure rfl) ?_
 refine OpsQ.yes (Want.bool rfl rfl rfl rfl (by rw [(decide_eq_true c5)]; rfl)) rfl (OpR.pure rfl) ?_
 refine OpsQ.yes (Want.plain rfl) rfl (OpR.pickT rfl (decide_eq_true c5) rfl) ?_
 refine aB rfl rfl rfl ?_
 exact OpsQ.nil
noncomputable def arena_Arena_part (a0 : arena_Span) (a1 : List UInt8) : Option ((Int × Int) ⊕ (List UInt8)) :=
  bnd (arena_Arena_Right a0 a1) fun x1 =>
  if x1 = true then
    bnd (cut a1 a0.fAt (w64 (a0.fAt + a0.fN))) fun x4 =>
    some (Sum.inl (a0.fAt, w64 (a0.fAt + a0.fN)))
  else
    some (Sum.inr [])
theorem arena_Arena_part_c {a0 : arena_Span} {a1 : List UInt8} {b0 : Nat} {v1 : Value} {res : (Int × Int) ⊕ (List UInt8)} (h0 : arena_Arena_part a0 a1 = some res) : CallF X 231 [dP b0, .agg [dN a0.fAt, dN a0.fN]] [.var b0 [.val v1] 264, .row v1 (lB a1) 1 5] (fun x => (match res with | .inl res => .val (vw v1 (res.1 : Int).toNat (res.2 : Int).toNat 1) | .inr res => .sl 1 (lB res))) (fun x => (match res with | .inl res => [.var b0 [.val v1] 264, .row v1 (lB a1) 1 5] | .inr res => [.var b0 [.val v1] 264, .row v1 (lB a1) 1 5])) := by
 unfold arena_Arena_part at h0
 refine CallF.mkG (X := X) rfl Tryz.func231 rfl rfl Tryz.ntmps231 rfl rfl ?_
 refine aS ?_
 refine TL.op1 (OpR.boxImm rfl rfl) rfl ?_
 refine aA rfl rfl ?_
 refine aN rfl ?_
 refine T.seq ?_
 refine aS ?_
 iterate 2 refine aA rfl rfl ?_
 obtain ⟨x1, hx1, h0⟩ := bS h0
 refine TL.op1 (OpR.call [0, 1] fn261 (arena_Arena_Right_c hx1) rfl rfl rfl (fun _ => rfl)) rfl ?_
 refine aA rfl rfl ?_
 refine aN rfl ?_
 rcases ite_some h0 with ⟨c2, h0⟩ | ⟨c2, h0⟩
 rotate_left
 · refine T.condT rfl (not_f (eq_false_of_ne_true c2)) ?_
   refine aS ?_
   refine aA rfl rfl ?_
   refine aN rfl ?_
   refine T.ret ?_
   obtain rfl := Option.some.inj h0
   exact PostG.retP (ks := [0, 1]) (Gst.trans (Gst.only [4] rfl) (Gst.denil (ReS.cons (Re.base .nil) ReS.nil) (ReO.var (ReL.cons Re.refl ReL.nil) (ReO.same ReO.nil)))) undef (cT rfl ResL.nil) rfl rfl rfl rfl
 refine T.condF rfl (not_t (c2)) ?_
 refine aK rfl ?_
 refine T.seq ?_
 obtain ⟨x4, hx4, h0⟩ := bS h0
 refine T.drawQ drawsX [dP b0, dP b0, dP b0, .val v1, .nod [dN a0.fAt, dN a0.fN], dN a0.fAt, .nod [dN a0.fAt, dN a0.fN], dN a0.fAt, .nod [dN a0.fN], dN a0.fN, dN (w64 (a0.fAt + a0.fN)), .val (vw v1 (a0.fAt : Int).toNat (w64 (a0.fAt + a0.fN) : Int).toNat 1), .val (vw v1 (a0.fAt : Int).toNat (w64 (a0.fAt + a0.fN) : Int).toNat 1)] [4] (by decide +kernel) rfl ?_ rfl ?_
 rotate_left
 · show T X _ _ _
   refine T.ret ?_
   obtain rfl := Option.some.inj h0
   exact rO [0, 1] [4] rfl undef (cT rfl ResL.nil) rfl rfl rfl rfl
 iterate 3 refine aB rfl rfl rfl ?_
 refine OpsQ.yes (Want.plain rfl) rfl (OpR.loadPtr 0 rfl rfl rfl rfl) ?_
 iterate 7 refine aB rfl rfl rfl ?_
 refine OpsQ.yes (Want.plain rfl) rfl (OpR.sliceRowM byteD 1 hx4 rfl rfl rfl rfl rfl rfl (BdM.some rfl) (BdM.some rfl)) ?_
 refine aB rfl rfl rfl ?_
 exact OpsQ.nil
theorem arena_Arena_part_cx1 {a0 : arena_Span} {a1 : List UInt8} {b0 : Nat} {v1 : Value} {res : Int × Int} (h0 : arena_Arena_part a0 a1 = some (Sum.inl res)) : CallF X 231 [dP b0, .agg [dN a0.fAt, dN a0.fN]] [.var b0 [.val v1] 264, .row v1 (lB a1) 1 5] (fun x => .val (vw v1 (res.1 : Int).toNat (res.2 : Int).toNat 1)) (fun x => [.var b0 [.val v1] 264, .row v1 (lB a1) 1 5]) := arena_Arena_part_c h0
theorem arena_Arena_part_cx2 {a0 : arena_Span} {a1 : List UInt8} {b0 : Nat} {v1 : Value} {res : (List UInt8)} (h0 : arena_Arena_part a0 a1 = some (Sum.inr res)) : CallF X 231 [dP b0, .agg [dN a0.fAt, dN a0.fN]] [.var b0 [.val v1] 264, .row v1 (lB a1) 1 5] (fun x => .sl 1 (lB res)) (fun x => [.var b0 [.val v1] 264, .row v1 (lB a1) 1 5]) := arena_Arena_part_c h0
noncomputable def arena_Arena_Bytes (a0 : arena_Span) (a1 : List UInt8) : Option (List UInt8) :=
  bnd (arena_Arena_part a0 a1) fun x1 =>
  match x1 with
  | .inl x1 =>
      bnd (cut a1 x1.1 x1.2) fun x2 =>
      bnd (mkz 1 (x2.length : Int) (0 : UInt8)) fun x3 =>
      some (over x3 x2)
  | .inr x1 =>
      bnd (mkz 1 (x1.length : Int) (0 : UInt8)) fun x5 =>
      some (over x5 x1)
theorem arena_Arena_Bytes_c {a0 : arena_Span} {a1 : List UInt8} {b0 : Nat} {v1 : Value} {res : (List UInt8)} (h0 : arena_Arena_Bytes a0 a1 = some res) : CallF X 201 [dP b0, .agg [dN a0.fAt, dN a0.fN]] [.var b0 [.val v1] 264, .row v1 (lB a1) 1 5] (fun x => .sl 1 (lB res)) (fun x => [.var b0 [.val v1] 264, .row v1 (lB a1) 1 5]) := by
 unfold arena_Arena_Bytes at h0
 refine CallF.mkG (X := X) rfl Tryz.func201 rfl rfl Tryz.ntmps201 rfl rfl ?_
 refine aS ?_
 refine TL.op1 (OpR.boxImm rfl rfl) rfl ?_
 refine aA rfl rfl ?_
 refine aN rfl ?_
 refine aS ?_
 iterate 2 refine aA rfl rfl ?_
 obtain ⟨x1, hx1, h0⟩ := bS h0
 rcases x1 with x1 | x1
 rotate_left
 · dsimp only at h0
   refine TL.op1 (OpR.call [0, 1] fn231 (arena_Arena_part_cx2 hx1) rfl rfl rfl (fun _ => rfl)) rfl ?_
   refine aA rfl rfl ?_
   refine aN rfl ?_
   refine aS ?_
   refine aA rfl rfl ?_
   refine TL.op1 (OpR.cast (OpR.pure rfl) (intE (lenM _ _))) rfl ?_
   obtain ⟨x5, hx5, h0⟩ := bS h0
   refine TL.op (OpR.makeM byteD hx5 rfl rfl rfl rfl rfl rfl rfl rfl rfl rfl rfl (fun _ => rfl)) rfl (fun v6 => ?_)
   refine aA rfl rfl ?_
   refine aN rfl ?_
   refine aS ?_
   iterate 2 refine aA rfl rfl ?_
   refine TL.op1 (OpR.copyM byteD 2 rfl rfl rfl rfl rfl rfl rfl rfl) rfl ?_
   refine aN rfl ?_
   refine aS ?_
   iterate 2 refine aA rfl rfl ?_
   refine aN rfl ?_
   refine T.ret ?_
   obtain rfl := Option.some.inj h0
   exact PostG.retP (ks := [0, 1]) (Gst.trans (Gst.only [4] rfl) (Gst.trans (Gst.freezeRow 2 rfl rfl (ReS.cons (Re.base .all) ReS.nil) (ReO.same (ReO.same (ReO.same ReO.nil)))) (Gst.pick [0, 1] rfl rfl))) undef (cT rfl ResL.nil) rfl rfl rfl rfl
 dsimp only at h0
 refine TL.op1 (OpR.call [0, 1] fn231 (arena_Arena_part_cx1 hx1) rfl rfl rfl (fun _ => rfl)) rfl ?_
 refine aA rfl rfl ?_
 refine aN rfl ?_
 refine aS ?_
 refine aA rfl rfl ?_
 obtain ⟨x2, hx2, h0⟩ := bS h0
 refine TL.op1 (OpR.lenF byteD (Src.viewM byteD 1 hx2 rfl rfl) rfl rfl) rfl ?_
 obtain ⟨x3, hx3, h0⟩ := bS h0
 refine TL.op (OpR.makeM byteD hx3 rfl rfl rfl rfl rfl rfl rfl rfl rfl rfl rfl (fun _ => rfl)) rfl (fun v4 => ?_)
 refine aA rfl rfl ?_
 refine aN rfl ?_
 refine aS ?_
 iterate 2 refine aA rfl rfl ?_
 refine TL.op1 (OpR.copyF byteD 2 (Src.viewM byteD 1 hx2 rfl rfl) rfl rfl rfl rfl rfl rfl rfl) rfl ?_
 refine aN rfl ?_
 refine aS ?_
 iterate 2 refine aA rfl rfl ?_
 refine aN rfl ?_
 refine T.ret ?_
 obtain rfl := Option.some.inj h0
 exact PostG.retP (ks := [0, 1]) (Gst.trans (Gst.only [4] rfl) (Gst.trans (Gst.freezeRow 2 rfl rfl (ReS.cons (Re.base .all) ReS.nil) (ReO.same (ReO.same (ReO.same ReO.nil)))) (Gst.pick [0, 1] rfl rfl))) undef (cT rfl ResL.nil) rfl rfl rfl rfl
noncomputable def piece_Text_Flat.l1 (a0 : piece_Text) (a1 : List UInt8) (s4 : Int × (List UInt8)) : Option (Lp (Int × (List UInt8)) (List UInt8)) :=
  if s4.1 < (a0.fL.length : Int) then
    bnd (idx a0.fL s4.1) fun x13 =>
    bnd (arena_Arena_Bytes x13 a1) fun x15 =>
    bnd (app 1 s4.2 x15) fun x16 =>
    some (Lp.next (w64 (s4.1 + 1), x16))
  else
    some (Lp.done s4.2)
noncomputable def piece_Text_Flat (a0 : piece_Text) (a1 : List UInt8) : Option (List UInt8) :=
  bnd (loop (piece_Text_Flat.l1 a0 a1) (0, []) : Option (List UInt8)) fun t1 =>
  some t1
theorem piece_Text_Flat_c {a0 : piece_Text} {a1 : List UInt8} {b0 : Nat} {v1 : Value} {res : (List UInt8)} (h0 : piece_Text_Flat a0 a1 = some res) : CallF X 183 [.agg [.sl 2 (List.map e_arena_Span a0.fL), dN a0.fN], dP b0] [.var b0 [.val v1] 264, .row v1 (lB a1) 1 5] (fun x => .sl 1 (lB res)) (fun x => [.var b0 [.val v1] 264, .row v1 (lB a1) 1 5]) := by
 unfold piece_Text_Flat at h0
 refine CallF.mkG (X := X) rfl Tryz.func183 rfl rfl Tryz.ntmps183 rfl rfl ?_
 refine aS ?_
 refine TL.op1 (OpR.boxImm rfl rfl) rfl ?_
 refine aA rfl rfl ?_
 refine aN rfl ?_
 refine aS ?_
 refine aA rfl rfl ?_
 refine aN rfl ?_
 refine T.seq ?_
 refine aS ?_
 iterate 2 refine aA rfl rfl ?_
 refine TL.op1 (OpR.cast (OpR.pure rfl) (intE (lenM _ _))) rfl ?_
 refine aA rfl rfl ?_
 refine aN rfl ?_
 obtain ⟨t1, ht1, h0⟩ := bS h0
 refine T.cutC (fun S' => ∃ y2 : Value, S' = ⟨[(5, .val y2), (4, .val (.slice none 0 0))], [.var b0 [.val v1] 264, .row v1 (lB a1) 1 5, .row y2 (lB t1) 1 5], 22⟩) (fun _ h => h) ?_ ?_
 rotate_left
 · rintro _ ⟨y2, rfl⟩
   show T X _ _ _
   refine aS ?_
   iterate 2 refine aA rfl rfl ?_
   refine aN rfl ?_
   refine T.ret ?_
   obtain rfl := Option.some.inj h0
   exact PostG.retP (ks := [0, 1]) (Gst.trans (Gst.only [4] rfl) (Gst.trans (Gst.freezeRow 2 rfl rfl (ReS.cons (Re.base .all) ReS.nil) (ReO.same (ReO.same (ReO.same ReO.nil)))) (Gst.pick [0, 1] rfl rfl))) undef (cT rfl ResL.nil) rfl rfl rfl rfl
 refine T.block ?_
 obtain ⟨n5, n10⟩ := loop_some ht1
 refine T.loop (fun n S' => ∃ S'', Gst S' S'' ∧ ∃ y3 : Value, ∃ s4 : Int × (List UInt8), S'' = ⟨[(11, (dN s4.1)), (10, (dN (a0.fL.length : Int))), (9, .sl 2 (List.map e_arena_Span a0.fL)), (5, .val y3), (4, .val (.slice none 0 0)), (1, (dP b0))], [.var b0 [.val v1] 264, .row v1 (lB a1) 1 5, .row y3 (lB s4.2) 1 5], 22⟩ ∧ iter (piece_Text_Flat.l1 a0 a1) n s4 = some t1) n5 ?_ ?_
 · exact ⟨_, Gst.trans (Gst.only [1, 4, 5, 9, 10, 11] rfl) (Gst.nilRow (ow := [.var b0 [.val v1] 264, .row v1 (lB a1) 1 5]) 1 5 rfl), (.slice none 0 0), (0, []), rfl, n10⟩
 rintro n5 _ ⟨_, g, y3, s4, rfl, i9⟩
 refine T.ghost g ?_
 obtain ⟨m6, q7, rfl, q8, i9⟩ := iter_succ i9
 unfold piece_Text_Flat.l1 at q8
 refine aS ?_
 refine aA rfl rfl ?_
 refine aN rfl ?_
 refine T.seq ?_
 rcases ite_some q8 with ⟨c12, q8⟩ | ⟨c12, q8⟩
 rotate_left
 · refine T.condF rfl (decide_eq_false c12) ?_
   refine T.exit ?_
   obtain rfl := Option.some.inj q8
   obtain rfl : _ = _ := i9
   exact ⟨_, Gst.only [4, 5] rfl, y3, rfl⟩
 refine T.condT rfl (decide_eq_true c12) ?_
 refine aK rfl ?_
 refine T.seq ?_
 refine T.block ?_
 refine aS ?_
 obtain ⟨x13, hx13, q8⟩ := bS q8
 refine TL.op1 (OpR.indexM e_arena_Span hx13 rfl rfl rfl rfl rfl) rfl ?_
 refine aA rfl rfl ?_
 refine TL.op (OpR.alloc rfl rfl (fun _ => rfl)) rfl (fun p14 => ?_)
 refine TL.op0 (OpR.store 3 rfl rfl rfl rfl rfl rfl rfl rfl) ?_
 refine aN rfl ?_
 refine T.region ?_
 iterate 2 refine aA rfl rfl ?_
 refine TL.op1 (OpR.loadPtr 3 rfl rfl rfl rfl) rfl ?_
 obtain ⟨x15, hx15, q8⟩ := bS q8
 refine TL.op1 (OpR.call [0, 1] fn201 (arena_Arena_Bytes_c hx15) rfl rfl rfl (fun _ => rfl)) rfl ?_
 obtain ⟨x16, hx16, q8⟩ := bS q8
 refine TL.op (OpR.appendM (m := x15) byteD 2 hx16 rfl rfl rfl rfl rfl rfl rfl rfl rfl (fun _ => rfl)) rfl (fun v17 => ?_)
 refine aA rfl rfl ?_
 refine aN rfl ?_
 refine T.region ?_
 iterate 2 refine aA rfl rfl ?_
 refine TL.nil ?_
 obtain rfl := Option.some.inj q8
 exact ⟨m6, Nat.lt_succ_self _, _, gP [1, 4, 5, 9, 10, 11] [0, 1, 2] rfl rfl rfl, v17, (w64 (s4.1 + 1), x16), rfl, i9⟩
noncomputable def cell_Cell_Bytes (a0 : cell_Cell) (a1 : List UInt8) : Option (List UInt8) :=
  bnd (piece_Text_Flat a0.fText a1) fun x1 =>
  some x1
theorem cell_Cell_Bytes_c {a0 : cell_Cell} {a1 : List UInt8} {b0 : Nat} {v1 : Value} {res : (List UInt8)} (h0 : cell_Cell_Bytes a0 a1 = some res) : CallF X 113 [.agg [.sl 2 (List.map e_arena_Span a0.fText.fL), dN a0.fText.fN, dN a0.fRaw.fAt, dN a0.fRaw.fN, dT a0.fKept], dP b0] [.var b0 [.val v1] 264, .row v1 (lB a1) 1 5] (fun x => .sl 1 (lB res)) (fun x => [.var b0 [.val v1] 264, .row v1 (lB a1) 1 5]) := by
 unfold cell_Cell_Bytes at h0
 refine CallF.mkG (X := X) rfl Tryz.func113 rfl rfl Tryz.ntmps113 rfl rfl ?_
 refine aS ?_
 refine TL.op1 (OpR.boxImm rfl rfl) rfl ?_
 refine aA rfl rfl ?_
 refine aN rfl ?_
 refine aS ?_
 iterate 3 refine aA rfl rfl ?_
 obtain ⟨x1, hx1, h0⟩ := bS h0
 refine TL.op1 (OpR.call [0, 1] fn183 (piece_Text_Flat_c hx1) rfl rfl rfl (fun _ => rfl)) rfl ?_
 refine aA rfl rfl ?_
 refine aN rfl ?_
 refine T.ret ?_
 obtain rfl := Option.some.inj h0
 exact rO [0, 1] [4] rfl undef (cT rfl ResL.nil) rfl rfl rfl rfl
noncomputable def find_places (a0 : List UInt8) (a1 : List UInt8) : Option ((List UInt8) × (List UInt8)) :=
  some (a1, a0)
theorem find_places_c {a0 : List UInt8} {a1 : List UInt8} {res : (List UInt8) × (List UInt8)} (h0 : find_places a0 a1 = some res) : CallF X 220 [.sl 1 (lB a0), .sl 1 (lB a1)] [] (fun x => .fn (.func 245) [] [dP (blk (vn x 0)), dP (blk (vn x 1))]) (fun x => [.var (blk (vn x 0)) [.sl 1 (lB res.1)] 122, .var (blk (vn x 1)) [.sl 1 (lB res.2)] 122]) := by
 unfold find_places at h0
 refine CallF.mkG (X := X) rfl Tryz.func220 rfl rfl Tryz.ntmps220 rfl rfl ?_
 refine aS ?_
 refine TL.op (OpR.boxVar rfl rfl (fun _ => rfl)) rfl (fun p1 => ?_)
 refine TL.op (OpR.boxVar rfl rfl (fun _ => rfl)) rfl (fun p2 => ?_)
 refine aA rfl rfl ?_
 refine aN rfl ?_
 refine aS ?_
 iterate 2 refine aA rfl rfl ?_
 refine aN rfl ?_
 refine T.ret ?_
 obtain rfl := Option.some.inj h0
 exact rP [0, 1] [4] [1, 0] rfl rfl rfl (.tuple #[p2, p1]) (cT rfl ResL.nil) rfl rfl rfl rfl
noncomputable def find_table.l1 (a0 : List UInt8) (s4 : Int × Int × (List Int)) (s14 : Int) : Option (Lp Int Int) :=
  bnd (if s14 > 0 then
    bnd (idx a0 s4.2.1) fun x25 =>
    bnd (idx a0 s14) fun x26 =>
    some (!((x25.toNat : Int) == (x26.toNat : Int)))
  else
    some false : Option Bool) fun t22 =>
  if t22 = true then
    bnd (idx s4.2.2 s14) fun x28 =>
    some (Lp.next x28)
  else
    some (Lp.done s14)
noncomputable def find_table.l2 (a0 : List UInt8) (s4 : Int × Int × (List Int)) : Option (Lp (Int × Int × (List Int)) (List Int)) :=
  if s4.2.1 < (a0.length : Int) then
    bnd (loop (find_table.l1 a0 s4) s4.1 : Option Int) fun t13 =>
    bnd (idx a0 s4.2.1) fun x30 =>
    bnd (idx a0 t13) fun x31 =>
    bnd (if (x30.toNat : Int) = (x31.toNat : Int) then
      some (w64 (t13 + 1))
    else
      some t13 : Option Int) fun t32 =>
    bnd (idx s4.2.2 (w64 (s4.2.1 + 1))) fun x34 =>
    some (Lp.next (t32, w64 (s4.2.1 + 1), (s4.2.2.set (w64 (s4.2.1 + 1)).toNat t32)))
  else
    some (Lp.done s4.2.2)
noncomputable def find_table (a0 : List UInt8) : Option (List Int) :=
  bnd (mkz 8 (w64 ((a0.length : Int) + 1)) (0 : Int)) fun x1 =>
  bnd (loop (find_table.l2 a0) (0, 1, x1) : Option (List Int)) fun t3 =>
  some t3
theorem find_table_c {a0 : List UInt8} {res : (List Int)} (h0 : find_table a0 = some res) : CallF X 246 [.sl 1 (lB a0)] [] (fun x => .sl 1 (List.map (eI .i64) res)) (fun x => []) := by
 unfold find_table at h0
 refine CallF.mkG (X := X) rfl Tryz.func246 rfl rfl Tryz.ntmps246 rfl rfl ?_
 refine aS ?_
 refine aA rfl rfl ?_
 refine aN rfl ?_
 refine aS ?_
 refine aA rfl rfl ?_
 refine TL.op1 (OpR.cast (OpR.pure rfl) (intE (lenM _ _))) rfl ?_
 refine aA rfl rfl ?_
 obtain ⟨x1, hx1, h0⟩ := bS h0
 refine TL.op (OpR.makeM (eI .i64) hx1 rfl rfl rfl rfl rfl rfl rfl rfl rfl rfl rfl (fun _ => rfl)) rfl (fun v2 => ?_)
 refine aA rfl rfl ?_
 refine aN rfl ?_
 refine aS ?_
 refine aA rfl rfl ?_
 refine aN rfl ?_
 refine T.seq ?_
 refine aS ?_
 refine aA rfl rfl ?_
 refine aN rfl ?_
 obtain ⟨t3, ht3, h0⟩ := bS h0
 refine T.cutC (fun S' => S' = ⟨[(3, .val v2), (2, .val (.slice none 0 0))], [.row v2 (List.map (eI .i64) t3) 1 3], 50⟩) (fun _ h => h) ?_ ?_
 rotate_left
 · rintro _ rfl
   show T X _ _ _
   refine aS ?_
   iterate 2 refine aA rfl rfl ?_
   refine aN rfl ?_
   refine T.ret ?_
   obtain rfl := Option.some.inj h0
   exact PostG.retP (ks := []) (Gst.trans (Gst.only [2] rfl) (Gst.trans (Gst.freezeRow 0 rfl rfl (ReS.cons (Re.base .all) ReS.nil) (ReO.same ReO.nil)) (Gst.pick [] rfl rfl))) undef (cT rfl ResL.nil) rfl rfl rfl rfl
 refine T.block ?_
 obtain ⟨n5, n10⟩ := loop_some ht3
 refine T.loop (fun n S' => ∃ S'', Gst S' S'' ∧ ∃ s4 : Int × Int × (List Int), S'' = ⟨[(5, (dN s4.2.1)), (4, (dN s4.1)), (3, .val v2), (2, .val (.slice none 0 0)), (0, .sl 1 (lB a0))], [.row v2 (List.map (eI .i64) s4.2.2) 1 3], 50⟩ ∧ iter (find_table.l2 a0) n s4 = some t3) n5 ?_ ?_
 · exact ⟨_, Gst.only [0, 2, 3, 4, 5] rfl, (0, 1, x1), rfl, n10⟩
 rintro n5 _ ⟨_, g, s4, rfl, i9⟩
 refine T.ghost g ?_
 obtain ⟨m6, q7, rfl, q8, i9⟩ := iter_succ i9
 unfold find_table.l2 at q8
 refine T.seq ?_
 refine aS ?_
 iterate 2 refine aA rfl rfl ?_
 refine TL.op1 (OpR.cast (OpR.pure rfl) (intE (lenM _ _))) rfl ?_
 refine aA rfl rfl ?_
 refine aN rfl ?_
 rcases ite_some q8 with ⟨c12, q8⟩ | ⟨c12, q8⟩
 rotate_left
 · refine T.condF rfl (decide_eq_false c12) ?_
   refine T.exit ?_
   obtain rfl := Option.some.inj q8
   obtain rfl : _ = _ := i9
   exact ⟨_, Gst.only [2, 3] rfl, rfl⟩
 refine T.condT rfl (decide_eq_true c12) ?_
 refine aK rfl ?_
 refine T.seq ?_
 refine T.block ?_
 refine T.seq ?_
 obtain ⟨t13, ht13, q8⟩ := bS q8
 refine T.cutC (fun S' => S' = ⟨[(5, (dN s4.2.1)), (4, (dN t13)), (3, .val v2), (2, .val (.slice none 0 0)), (0, .sl 1 (lB a0))], [.row v2 (List.map (eI .i64) s4.2.2) 1 3], 50⟩) (fun _ h => h) ?_ ?_
 rotate_left
 · rintro _ rfl
   show T X _ _ _
   refine T.seq ?_
   refine T.seq ?_
   obtain ⟨x30, hx30, q8⟩ := bS q8
   obtain ⟨x31, hx31, q8⟩ := bS q8
   refine T.drawQ drawsX [.sl 1 (lB a0), dN s4.2.1, .nod [.val (.int .u8 (x30.toNat : Int))], .val (.int .u8 (x30.toNat : Int)), .sl 1 (lB a0), dN t13, .nod [.val (.int .u8 (x31.toNat : Int))], .val (.int .u8 (x31.toNat : Int)), dT ((x30.toNat : Int) == (x31.toNat : Int))] [0, 2, 3, 4, 5, 41] (by decide +kernel) rfl ?_ rfl ?_
   · iterate 2 refine aB rfl rfl rfl ?_
     refine OpsQ.yes (Want.plain rfl) rfl (OpR.indexM byteD hx30 rfl rfl rfl rfl rfl) ?_
     iterate 3 refine aB rfl rfl rfl ?_
     refine OpsQ.yes (Want.plain rfl) rfl (OpR.indexM byteD hx31 rfl rfl rfl rfl rfl) ?_
     iterate 2 refine aB rfl rfl rfl ?_
     exact OpsQ.nil
   show T X _ _ _
   obtain ⟨t32, ht32, q8⟩ := bS q8
   refine T.cutC (fun S' => S' = ⟨[(5, (dN s4.2.1)), (4, (dN t32)), (3, .val v2), (2, .val (.slice none 0 0)), (0, .sl 1 (lB a0))], [.row v2 (List.map (eI .i64) s4.2.2) 1 3], 50⟩) (fun _ h => h) ?_ ?_
   · rcases ite_some ht32 with ⟨c33, ht32⟩ | ⟨c33, ht32⟩
     rotate_left
     · refine T.condF rfl (beq_eq_false_iff_ne.2 c33) ?_
       refine T.skip ?_
       obtain rfl := Option.some.inj ht32
       exact ⟨_, Gst.only [0, 2, 3, 4, 5] rfl, rfl⟩
     refine T.condT rfl (beq_iff_eq.2 c33) ?_
     refine T.region ?_
     iterate 3 refine aA rfl rfl ?_
     refine TL.nil ?_
     obtain rfl := Option.some.inj ht32
     exact ⟨_, Gst.only [0, 2, 3, 4, 5] rfl, rfl⟩
   rintro _ rfl
   show T X _ _ _
   refine T.region ?_
   iterate 4 refine aA rfl rfl ?_
   obtain ⟨x34, hx34, q8⟩ := bS q8
   refine TL.op1 (OpR.rowIndexM (eI .i64) 0 hx34 rfl rfl rfl rfl rfl rfl rfl) rfl ?_
   refine TL.op0 (OpR.rowStore0M (j := w64 (s4.2.1 + 1)) (eI .i64) t32 0 hx34 rfl rfl rfl rfl rfl rfl rfl rfl rfl) ?_
   refine aN rfl ?_
   refine T.region ?_
   iterate 3 refine aA rfl rfl ?_
   refine TL.nil ?_
   obtain rfl := Option.some.inj q8
   exact ⟨m6, Nat.lt_succ_self _, _, Gst.only [0, 2, 3, 4, 5] rfl, (t32, w64 (s4.2.1 + 1), (s4.2.2.set (w64 (s4.2.1 + 1)).toNat t32)), rfl, i9⟩
 refine T.block ?_
 obtain ⟨n15, n20⟩ := loop_some ht13
 refine T.loop (fun n S' => ∃ S'', Gst S' S'' ∧ ∃ s14 : Int, S'' = ⟨[(5, (dN s4.2.1)), (4, (dN s14)), (3, .val v2), (2, .val (.slice none 0 0)), (0, .sl 1 (lB a0))], [.row v2 (List.map (eI .i64) s4.2.2) 1 3], 50⟩ ∧ iter (find_table.l1 a0 s4) n s14 = some t13) n15 ?_ ?_
 · exact ⟨_, Gst.only [0, 2, 3, 4, 5] rfl, s4.1, rfl, n20⟩
 rintro n15 _ ⟨_, g, s14, rfl, i19⟩
 refine T.ghost g ?_
 obtain ⟨m16, q17, rfl, q18, i19⟩ := iter_succ i19
 unfold find_table.l1 at q18
 refine T.seq ?_
 refine T.seq ?_
 obtain ⟨t22, ht22, q18⟩ := bS q18
 refine T.cutC (fun S' => S' = ⟨[(28, (dT t22)), (5, (dN s4.2.1)), (4, (dN s14)), (3, .val v2), (2, .val (.slice none 0 0)), (0, .sl 1 (lB a0))], [.row v2 (List.map (eI .i64) s4.2.2) 1 3], 50⟩) (fun _ h => h) ?_ ?_
 rotate_left
 · rintro _ rfl
   show T X _ _ _
   rcases ite_some q18 with ⟨c27, q18⟩ | ⟨c27, q18⟩
   rotate_left
   · refine T.condF rfl (eq_false_of_ne_true c27) ?_
     refine T.exit ?_
     obtain rfl := Option.some.inj q18
     obtain rfl : _ = _ := i19
     exact ⟨_, Gst.only [0, 2, 3, 4, 5] rfl, rfl⟩
   refine T.condT rfl (c27) ?_
   refine aK rfl ?_
   refine T.block ?_
   refine T.region ?_
   iterate 2 refine aA rfl rfl ?_
   obtain ⟨x28, hx28, q18⟩ := bS q18
   refine TL.op1 (OpR.rowIndexM (eI .i64) 0 hx28 rfl rfl rfl rfl rfl rfl rfl) rfl ?_
   refine TL.op1 (OpR.rowLoad0M (j := s14) (eI .i64) 0 hx28 rfl rfl rfl rfl) rfl ?_
   refine aA rfl rfl ?_
   refine TL.nil ?_
   obtain rfl := Option.some.inj q18
   exact ⟨m16, Nat.lt_succ_self _, _, Gst.only [0, 2, 3, 4, 5] rfl, x28, rfl, i19⟩
 rcases ite_some ht22 with ⟨c24, ht22⟩ | ⟨c24, ht22⟩
 rotate_left
 · refine T.drawQ drawsX [dN s14, dT (decide (s14 > 0)), dT (decide (s14 > 0)), .tup [], .tup [], .tup [], .tup [], .tup [], .tup [], .tup [], .tup [], .tup [], dT false] [0, 2, 3, 4, 5, 28] (by decide +kernel) rfl ?_ rfl ?_
   rotate_left
   · obtain rfl := Option.some.inj ht22
     exact ⟨_, Gst.only [0, 2, 3, 4, 5, 28] rfl, rfl⟩
   iterate 3 refine aB rfl rfl rfl ?_
   refine OpsQ.no (Want.bool rfl rfl rfl rfl (by rw [(decide_eq_false c24)]; rfl)) rfl ?_
   refine OpsQ.no (Want.bool rfl rfl rfl rfl (by rw [(decide_eq_false c24)]; rfl)) rfl ?_
   refine OpsQ.no (Want.bool rfl rfl rfl rfl (by rw [(decide_eq_false c24)]; rfl)) rfl ?_
   refine OpsQ.no (Want.bool rfl rfl rfl rfl (by rw [(decide_eq_false c24)]; rfl)) rfl ?_
   refine OpsQ.no (Want.bool rfl rfl rfl rfl (by rw [(decide_eq_false c24)]; rfl)) rfl ?_
   refine OpsQ.no (Want.bool rfl rfl rfl rfl (by rw [(decide_eq_false c24)]; rfl)) rfl ?_
   refine OpsQ.no (Want.bool rfl rfl rfl rfl (by rw [(decide_eq_false c24)]; rfl)) rfl ?_
   refine OpsQ.no (Want.bool rfl rfl rfl rfl (by rw [(decide_eq_false c24)]; rfl)) rfl ?_
   refine OpsQ.no (Want.bool rfl rfl rfl rfl (by rw [(decide_eq_false c24)]; rfl)) rfl ?_
   refine OpsQ.yes (Want.plain rfl) rfl (OpR.pickF rfl (decide_eq_false c24) rfl) ?_
   exact OpsQ.nil
 obtain ⟨x25, hx25, ht22⟩ := bS ht22
 obtain ⟨x26, hx26, ht22⟩ := bS ht22
 refine T.drawQ drawsX [dN s14, dT (decide (s14 > 0)), dT (decide (s14 > 0)), .sl 1 (lB a0), dN s4.2.1, .nod [.val (.int .u8 (x25.toNat : Int))], .val (.int .u8 (x25.toNat : Int)), .sl 1 (lB a0), dN s14, .nod [.val (.int .u8 (x26.toNat : Int))], .val (.int .u8 (x26.toNat : Int)), dT (!((x25.toNat : Int) == (x26.toNat : Int))), dT (!((x25.toNat : Int) == (x26.toNat : Int)))] [0, 2, 3, 4, 5, 28] (by decide +kernel) rfl ?_ rfl ?_
 rotate_left
 · obtain rfl := Option.some.inj ht22
   exact ⟨_, Gst.only [0, 2, 3, 4, 5, 28] rfl, rfl⟩
 iterate 3 refine aB rfl rfl rfl ?_
 refine OpsQ.yes (Want.bool rfl rfl rfl rfl (by rw [(decide_eq_true c24)]; rfl)) rfl (OpR.pure rfl) ?_
 refine OpsQ.yes (Want.bool rfl rfl rfl rfl (by rw [(decide_eq_true c24)]; rfl)) rfl (OpR.pure rfl) ?_
 refine OpsQ.yes (Want.bool rfl rfl rfl rfl (by rw [(decide_eq_true c24)]; rfl)) rfl (OpR.indexM byteD hx25 rfl rfl rfl rfl rfl) ?_
 refine OpsQ.yes (Want.bool rfl rfl rfl rfl (by rw [(decide_eq_true c24)]; rfl)) rfl (OpR.pure rfl) ?_
 refine OpsQ.yes (Want.bool rfl rfl rfl rfl (by rw [(decide_eq_true c24)]; rfl)) rfl (OpR.pure rfl) ?_
 refine OpsQ.yes (Want.bool rfl rfl rfl rfl (by rw [(decide_eq_true c24)]; rfl)) rfl (OpR.pure rfl) ?_
 refine OpsQ.yes (Want.bool rfl rfl rfl rfl (by rw [(decide_eq_true c24)]; rfl)) rfl (OpR.indexM byteD hx26 rfl rfl rfl rfl rfl) ?_
 refine OpsQ.yes (Want.bool rfl rfl rfl rfl (by rw [(decide_eq_true c24)]; rfl)) rfl (OpR.pure rfl) ?_
 refine OpsQ.yes (Want.bool rfl rfl rfl rfl (by rw [(decide_eq_true c24)]; rfl)) rfl (OpR.pure rfl) ?_
 refine OpsQ.yes (Want.plain rfl) rfl (OpR.pickT rfl (decide_eq_true c24) rfl) ?_
 exact OpsQ.nil
noncomputable def find_First_r0 (a0 : Int) (a1 : Int) (a2 : Int) : Option (Int ⊕ Unit) :=
  if a0 ≥ a1 then
    some (Sum.inl a0)
  else
    some (Sum.inr ())
theorem find_First_r0_c {a0 : Int} {a1 : Int} {a2 : Int} {b0 : Nat} {b1 : Nat} {res : Int ⊕ Unit} (h0 : find_First_r0 a0 a1 a2 = some res) : RoundF X b0 [dN a0] [.lp b0 .ready none [11] rfA176_0 rfB176_0 [(6, (dP b1)), (5, .nod [dN a1])] 16, .var b1 [dN a2] 3] (fun x => (match res with | .inl res => (dT false) | .inr res => (dT true))) (fun x => (match res with | .inl res => [.lp b0 .done (some (.ret)) [11] rfA176_0 rfB176_0 [(6, (dP b1)), (5, .nod [dN a1])] 16, .var b1 [dN res] 3] | .inr res => [.lp b0 .ready none [11] rfA176_0 rfB176_0 [(6, (dP b1)), (5, .nod [dN a1])] 16, .var b1 [dN a2] 3])) := by
 unfold find_First_r0 at h0
 refine RoundF.mk (X := X) rfl rfl rfl ?_
 refine T.region ?_
 refine aA rfl rfl ?_
 refine TL.nil ?_
 refine RoundA.mk ?_
 refine T.block ?_
 refine aS ?_
 iterate 3 refine aA rfl rfl ?_
 refine TL.nil ?_
 show T (X.inR b0) _ _ _
 rcases ite_some h0 with ⟨c31, h0⟩ | ⟨c31, h0⟩
 rotate_left
 · refine T.condF rfl (decide_eq_false c31) ?_
   refine T.skip ?_
   obtain rfl := Option.some.inj h0
   exact RoundG.mk (ks := [0, 1]) (Gst.only [] rfl) undef rfl rfl rfl rfl rfl
 refine T.condT rfl (decide_eq_true c31) ?_
 refine aS ?_
 refine aA rfl rfl ?_
 refine TL.op0 (OpR.store 1 rfl rfl rfl rfl rfl rfl rfl rfl) ?_
 refine TL.nil ?_
 show T (X.inR b0) _ _ _
 refine T.ret ?_
 obtain rfl := Option.some.inj h0
 exact RoundG.mk (ks := [0, 1]) (Gst.only [] rfl) undef rfl rfl rfl rfl rfl
theorem find_First_r0_cx1 {a0 : Int} {a1 : Int} {a2 : Int} {b0 : Nat} {b1 : Nat} {res : Int} (h0 : find_First_r0 a0 a1 a2 = some (Sum.inl res)) : RoundF X b0 [dN a0] [.lp b0 .ready none [11] rfA176_0 rfB176_0 [(6, (dP b1)), (5, .nod [dN a1])] 16, .var b1 [dN a2] 3] (fun x => (dT false)) (fun x => [.lp b0 .done (some (.ret)) [11] rfA176_0 rfB176_0 [(6, (dP b1)), (5, .nod [dN a1])] 16, .var b1 [dN res] 3]) := find_First_r0_c h0
theorem find_First_r0_cx2 {a0 : Int} {a1 : Int} {a2 : Int} {b0 : Nat} {b1 : Nat} {res : Unit} (h0 : find_First_r0 a0 a1 a2 = some (Sum.inr res)) : RoundF X b0 [dN a0] [.lp b0 .ready none [11] rfA176_0 rfB176_0 [(6, (dP b1)), (5, .nod [dN a1])] 16, .var b1 [dN a2] 3] (fun x => (dT true)) (fun x => [.lp b0 .ready none [11] rfA176_0 rfB176_0 [(6, (dP b1)), (5, .nod [dN a1])] 16, .var b1 [dN a2] 3]) := find_First_r0_c h0
end Go.Proofs.YtpmhiiemklhbhaaGreat.S
