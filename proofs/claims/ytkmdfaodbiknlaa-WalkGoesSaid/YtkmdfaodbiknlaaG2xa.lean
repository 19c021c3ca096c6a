/- Printed by a program of this session's own (gen.py): Lean functions for Go functions, and the proofs that the Go code comes to their answers. -/
import Derived.Test.YtkmdfaodbiknlaaG0
set_option linter.unusedVariables false
set_option linter.unusedSimpArgs false
set_option maxRecDepth 20000
namespace Go.Proofs.Ytkmdfaodbiknlaa.S
open Go Go.Sm
attribute [local irreducible] T TL OpR CallT iter loop
noncomputable def slices_Clone_int_int (a0 : List Int) : Option (List Int) :=
  bnd (app 8 [] a0) fun x5 =>
  some x5
set_option maxHeartbeats 4000000 in
theorem slices_Clone_int_int_c {a0 : List Int} {res : (List Int)} (h0 : slices_Clone_int_int a0 = some res) : CallF X 67 [.sl 1 (List.map (eI .i64) a0)] [] (fun x => .val (vn x 0)) (fun x => [.row (vn x 0) (List.map (eI .i64) res) 1 3]) := by
 unfold slices_Clone_int_int at h0
 refine CallF.mkG (X := X) rfl Try.func67 rfl rfl Try.ntmps67 rfl rfl ?_
 refine T.seq ?_
 refine T.region ?_
 refine TL.op1 (OpR.pure rfl) rfl ?_
 refine TL.nil ?_
 show T X _ _ _
 refine T.seq ?_
 refine T.seq ?_
 refine T.region ?_
 refine TL.op1 (OpR.pure rfl) rfl ?_
 refine TL.isNil rfl rfl rfl rfl (fun b1 e2 => ?_)
 refine TL.nil ?_
 show T X _ _ _
 rcases Bool.eq_false_or_eq_true b1 with c3 | c3
 · obtain rfl := map_nil_of (e2 c3)
   rw [app_nil] at h0
   refine T.condT rfl (c3) ?_
   refine T.seq ?_
   refine T.region ?_
   refine TL.op1 (OpR.pure rfl) rfl ?_
   refine TL.nil ?_
   show T X _ _ _
   refine T.ret ?_
   obtain rfl := Option.some.inj h0
   exact PostG.retP (ks := [0]) (Gst.trans (Gst.only [2] rfl) (Gst.nilRow (ow := []) 1 3 rfl)) (.tuple #[(.slice none 0 0)]) (ResL.cons (ResV.tmp rfl) ResL.nil) rfl rfl rfl rfl
 refine T.condF rfl (c3) ?_
 refine T.skip ?_
 show T X _ _ _
 refine T.seq ?_
 refine T.region ?_
 refine TL.op (OpR.litRow rfl rfl rfl rfl rfl rfl rfl rfl (fun _ => rfl)) rfl (fun v4 => ?_)
 refine TL.op1 (OpR.pure rfl) rfl ?_
 obtain ⟨x5, hx5, h0⟩ := bnd_some h0
 refine TL.op (OpR.appendM (m := a0) (eI .i64) 0 hx5 rfl rfl rfl rfl rfl rfl rfl rfl rfl (fun _ => rfl)) rfl (fun v6 => ?_)
 refine TL.op1 (OpR.pure rfl) rfl ?_
 refine TL.nil ?_
 show T X _ _ _
 refine T.ret ?_
 obtain rfl := Option.some.inj h0
 exact PostG.retP (ks := [0]) (Gst.only [2] rfl) (.tuple #[v6]) (ResL.cons (ResV.tmp rfl) ResL.nil) rfl rfl rfl rfl
noncomputable def tree_cuts_int.l1 (s6 : (List Int) × Int × (List (List Int))) : Option (Lp ((List Int) × Int × (List (List Int))) (List (List Int))) :=
  if s6.2.1 > 0 then
    bnd (dvd (s6.1.length : Int) s6.2.1) fun x15 =>
    bnd (cut s6.1 0 x15) fun x16 =>
    bnd (slices_Clone_int_int x16) fun x17 =>
    bnd (app 24 s6.2.2 [x17]) fun x19 =>
    bnd (cut s6.1 x15 (s6.1.length : Int)) fun x21 =>
    some (Lp.next (x21, w64 (s6.2.1 - 1), x19))
  else
    some (Lp.done s6.2.2)
noncomputable def tree_cuts_int (a0 : List Int) : Option (List (List Int)) :=
  bnd ((mkc 24 (w64 (quo (w64 ((w64 ((a0.length : Int) + 6)) - 1)) 5)) : Option (List (List Int)))) fun x1 =>
  bnd (loop tree_cuts_int.l1 (a0, w64 (quo (w64 ((w64 ((a0.length : Int) + 6)) - 1)) 5), x1) : Option (List (List Int))) fun t3 =>
  some t3
set_option maxHeartbeats 4000000 in
theorem tree_cuts_int_c {a0 : List Int} {res : (List (List Int))} (h0 : tree_cuts_int a0 = some res) : CallF X 75 [.sl 1 (List.map (eI .i64) a0)] [] (fun x => .sl 1 (List.map e_sl22 res)) (fun x => []) := by
 unfold tree_cuts_int at h0
 refine CallF.mkG (X := X) rfl Try.func75 rfl rfl Try.ntmps75 rfl rfl ?_
 refine T.seq ?_
 refine T.region ?_
 refine TL.op1 (OpR.pure rfl) rfl ?_
 refine TL.nil ?_
 show T X _ _ _
 refine T.seq ?_
 refine T.region ?_
 refine TL.op1 (OpR.pure rfl) rfl ?_
 refine TL.op1 (OpR.cast (OpR.pure rfl) (intE (lenM _ _))) rfl ?_
 refine TL.op1 (OpR.pure rfl) rfl ?_
 refine TL.op1 (OpR.pure rfl) rfl ?_
 refine TL.op1 (OpR.pure rfl) rfl ?_
 refine TL.op1 (OpR.pure rfl) rfl ?_
 refine TL.nil ?_
 show T X _ _ _
 refine T.seq ?_
 refine T.region ?_
 refine TL.op1 (OpR.pure rfl) rfl ?_
 obtain ⟨x1, hx1, h0⟩ := bnd_some h0
 refine TL.op (OpR.makeC e_sl22 hx1 rfl rfl rfl rfl rfl rfl rfl (fun _ => rfl)) rfl (fun v2 => ?_)
 refine TL.op1 (OpR.pure rfl) rfl ?_
 refine TL.nil ?_
 show T X _ _ _
 refine T.seq ?_
 obtain ⟨t3, ht3, h0⟩ := bnd_some h0
 refine T.cutC (fun S' => ∃ y4 : Value, S' = ⟨[(4, .val y4), (2, .val (.slice none 0 0))], [.row y4 (List.map e_sl22 t3) 1 22], 32⟩) (fun _ h => h) ?_ ?_
 rotate_left
 · rintro _ ⟨y4, rfl⟩
   show T X _ _ _
   refine T.seq ?_
   refine T.region ?_
   refine TL.op1 (OpR.pure rfl) rfl ?_
   refine TL.op1 (OpR.pure rfl) rfl ?_
   refine TL.nil ?_
   show T X _ _ _
   refine T.ret ?_
   obtain rfl := Option.some.inj h0
   exact PostG.retP (ks := []) (Gst.trans (Gst.only [2] rfl) (Gst.trans (Gst.freezeRow 0 rfl rfl (ReS.cons (Re.base .all) ReS.nil) (ReO.same ReO.nil)) (Gst.pick [] rfl rfl))) undef (ResL.cons (ResV.tmp rfl) ResL.nil) rfl rfl rfl rfl
 refine T.block ?_
 obtain ⟨n7, n12⟩ := loop_some ht3
 refine T.loop (fun n S' => ∃ S'', Gst S' S'' ∧ ∃ y5 : Value, ∃ s6 : (List Int) × Int × (List (List Int)), S'' = ⟨[(4, .val y5), (3, .val (.int .i64 s6.2.1)), (2, .val (.slice none 0 0)), (0, .sl 1 (List.map (eI .i64) s6.1))], [.row y5 (List.map e_sl22 s6.2.2) 1 22], 32⟩ ∧ iter tree_cuts_int.l1 n s6 = some t3) n7 ?_ ?_
 · exact ⟨_, Gst.only [0, 2, 3, 4] rfl, v2, (a0, w64 (quo (w64 ((w64 ((a0.length : Int) + 6)) - 1)) 5), x1), rfl, n12⟩
 rintro n7 _ ⟨_, g, y5, s6, rfl, i11⟩
 refine T.ghost g ?_
 obtain ⟨m8, q9, rfl, q10, i11⟩ := iter_succ i11
 unfold tree_cuts_int.l1 at q10
 refine T.seq ?_
 refine T.seq ?_
 refine T.region ?_
 refine TL.op1 (OpR.pure rfl) rfl ?_
 refine TL.op1 (OpR.pure rfl) rfl ?_
 refine TL.nil ?_
 show T X _ _ _
 rcases ite_some q10 with ⟨c14, q10⟩ | ⟨c14, q10⟩
 rotate_left
 · refine T.condF rfl (decide_eq_false c14) ?_
   refine T.exit ?_
   obtain rfl := Option.some.inj q10
   obtain rfl : _ = _ := i11
   exact ⟨_, Gst.only [2, 4] rfl, y5, rfl⟩
 refine T.condT rfl (decide_eq_true c14) ?_
 refine T.skip ?_
 show T X _ _ _
 refine T.seq ?_
 refine T.block ?_
 refine T.seq ?_
 refine T.region ?_
 refine TL.op1 (OpR.pure rfl) rfl ?_
 refine TL.op1 (OpR.cast (OpR.pure rfl) (intE (lenM _ _))) rfl ?_
 refine TL.op1 (OpR.pure rfl) rfl ?_
 obtain ⟨x15, hx15, q10⟩ := bnd_some q10
 refine TL.op1 (OpR.dvdM hx15 rfl rfl rfl) rfl ?_
 refine TL.op1 (OpR.pure rfl) rfl ?_
 refine TL.nil ?_
 show T X _ _ _
 refine T.seq ?_
 refine T.region ?_
 refine TL.op1 (OpR.pure rfl) rfl ?_
 refine TL.op1 (OpR.pure rfl) rfl ?_
 refine TL.op1 (OpR.pure rfl) rfl ?_
 obtain ⟨x16, hx16, q10⟩ := bnd_some q10
 refine TL.op1 (OpR.sliceM (sz := 1) (eI .i64) hx16 rfl rfl rfl rfl BdM.none (BdM.some rfl) rfl) rfl ?_
 obtain ⟨x17, hx17, q10⟩ := bnd_some q10
 refine TL.op (OpR.call [] fn67 (slices_Clone_int_int_c hx17) rfl rfl rfl (fun _ => rfl)) rfl (fun w18 => ?_)
 refine TL.ghost (Gst.freezeRow 1 rfl rfl (ReS.cons (Re.base .all) (ReS.refl _)) (ReO.same (ReO.same ReO.nil))) ?_
 refine TL.op1 (OpR.lit rfl rfl rfl rfl rfl rfl rfl) rfl ?_
 obtain ⟨x19, hx19, q10⟩ := bnd_some q10
 refine TL.op (OpR.appendM (m := [x17]) e_sl22 0 hx19 rfl rfl rfl rfl rfl rfl rfl rfl rfl (fun _ => rfl)) rfl (fun v20 => ?_)
 refine TL.op1 (OpR.pure rfl) rfl ?_
 refine TL.nil ?_
 show T X _ _ _
 refine T.region ?_
 refine TL.op1 (OpR.pure rfl) rfl ?_
 refine TL.op1 (OpR.pure rfl) rfl ?_
 obtain ⟨x21, hx21, q10⟩ := bnd_some q10
 refine TL.op1 (OpR.sliceM (sz := 1) (eI .i64) hx21 rfl rfl rfl rfl (BdM.some rfl) BdM.none rfl) rfl ?_
 refine TL.op1 (OpR.pure rfl) rfl ?_
 refine TL.nil ?_
 show T X _ _ _
 refine T.region ?_
 refine TL.op1 (OpR.pure rfl) rfl ?_
 refine TL.op1 (OpR.pure rfl) rfl ?_
 refine TL.op1 (OpR.pure rfl) rfl ?_
 refine TL.nil ?_
 obtain rfl := Option.some.inj q10
 exact ⟨m8, Nat.lt_succ_self _, _, Gst.trans (Gst.only [0, 2, 3, 4] rfl) (Gst.pick [0] rfl rfl), v20, (x21, w64 (s6.2.1 - 1), x19), rfl, i11⟩
noncomputable def tree_leaf_int (a0 : List Int) : Option ((List NP) × (List Int) × Int) :=
  some ([], a0, (a0.length : Int))
set_option maxHeartbeats 4000000 in
theorem tree_leaf_int_c {a0 : List Int} {res : (List NP) × (List Int) × Int} (h0 : tree_leaf_int a0 = some res) : CallF X 76 [.sl 1 (List.map (eI .i64) a0)] [] (fun x => .nod [.sl 1 (List.map eNP res.1), .sl 1 (List.map (eI .i64) res.2.1), .val (.int .i64 res.2.2)]) (fun x => []) := by
 unfold tree_leaf_int at h0
 refine CallF.mkG (X := X) rfl Try.func76 rfl rfl Try.ntmps76 rfl rfl ?_
 refine T.seq ?_
 refine T.region ?_
 refine TL.op1 (OpR.pure rfl) rfl ?_
 refine TL.nil ?_
 show T X _ _ _
 refine T.seq ?_
 refine T.region ?_
 refine TL.op1 (OpR.pure rfl) rfl ?_
 refine TL.op1 (OpR.pure rfl) rfl ?_
 refine TL.op1 (OpR.cast (OpR.pure rfl) (intE (lenM _ _))) rfl ?_
 refine TL.op1 (OpR.wk (d' := fun _ => .agg [.sl 1 (List.map eNP []), .sl 1 (List.map (eI .i64) a0), .val (.int .i64 (a0.length : Int))]) (OpR.build rfl rfl rfl rfl rfl) (fun _ => Re.agg (ReL.cons (Re.base .nil) (ReL.cons Re.refl (ReL.cons Re.refl ReL.nil))) (fun _ _ h => by cases h; exact ⟨_, rfl⟩))) rfl ?_
 refine TL.op (OpR.boxVar rfl rfl (fun _ => rfl)) rfl (fun p1 => ?_)
 refine TL.op1 (OpR.pure rfl) rfl ?_
 refine TL.nil ?_
 show T X _ _ _
 refine T.ghost (Gst.trans (Gst.only [2] rfl) (Gst.freezeVar 0 rfl rfl (ReS.cons (Re.base .all) ReS.nil) (ReO.same ReO.nil))) ?_
 refine T.ret ?_
 obtain rfl := Option.some.inj h0
 exact PostG.retP (ks := []) (Gst.trans (Gst.only [2] rfl) (Gst.pick [] rfl rfl)) undef (ResL.cons (ResV.tmp rfl) ResL.nil) rfl rfl rfl rfl
noncomputable def tree_leaves_int.l1 (x1 : (List (List Int))) (s5 : Int × (List NP)) : Option (Lp (Int × (List NP)) (List NP)) :=
  if s5.1 < (x1.length : Int) then
    bnd (idx x1 s5.1) fun x14 =>
    bnd (tree_leaf_int x14) fun x15 =>
    bnd (app 8 s5.2 [(c_tree_Node_int (⟨x15.1, x15.2.1, x15.2.2⟩ : tree_Node_int))]) fun x16 =>
    some (Lp.next (w64 (s5.1 + 1), x16))
  else
    some (Lp.done s5.2)
noncomputable def tree_leaves_int (a0 : List Int) : Option (List NP) :=
  bnd (tree_cuts_int a0) fun x1 =>
  bnd (loop (tree_leaves_int.l1 x1) (0, []) : Option (List NP)) fun t2 =>
  some t2
set_option maxHeartbeats 4000000 in
theorem tree_leaves_int_c {a0 : List Int} {res : (List NP)} (h0 : tree_leaves_int a0 = some res) : CallF X 44 [.sl 1 (List.map (eI .i64) a0)] [] (fun x => .sl 1 (List.map eNP res)) (fun x => []) := by
 unfold tree_leaves_int at h0
 refine CallF.mkG (X := X) rfl Try.func44 rfl rfl Try.ntmps44 rfl rfl ?_
 refine T.seq ?_
 refine T.region ?_
 refine TL.op1 (OpR.pure rfl) rfl ?_
 refine TL.nil ?_
 show T X _ _ _
 refine T.seq ?_
 refine T.region ?_
 refine TL.op1 (OpR.pure rfl) rfl ?_
 refine TL.nil ?_
 show T X _ _ _
 refine T.seq ?_
 refine T.seq ?_
 refine T.region ?_
 refine TL.op1 (OpR.pure rfl) rfl ?_
 obtain ⟨x1, hx1, h0⟩ := bnd_some h0
 refine TL.op1 (OpR.call0 fn75 (tree_cuts_int_c hx1) rfl) rfl ?_
 refine TL.op1 (OpR.cast (OpR.pure rfl) (intE (lenM _ _))) rfl ?_
 refine TL.op1 (OpR.pure rfl) rfl ?_
 refine TL.nil ?_
 show T X _ _ _
 obtain ⟨t2, ht2, h0⟩ := bnd_some h0
 refine T.cutC (fun S' => ∃ y3 : Value, S' = ⟨[(3, .val y3), (2, .val (.slice none 0 0))], [.row y3 (List.map eNP t2) 1 25], 20⟩) (fun _ h => h) ?_ ?_
 rotate_left
 · rintro _ ⟨y3, rfl⟩
   show T X _ _ _
   refine T.seq ?_
   refine T.region ?_
   refine TL.op1 (OpR.pure rfl) rfl ?_
   refine TL.op1 (OpR.pure rfl) rfl ?_
   refine TL.nil ?_
   show T X _ _ _
   refine T.ret ?_
   obtain rfl := Option.some.inj h0
   exact PostG.retP (ks := []) (Gst.trans (Gst.only [2] rfl) (Gst.trans (Gst.freezeRow 0 rfl rfl (ReS.cons (Re.base .all) ReS.nil) (ReO.same ReO.nil)) (Gst.pick [] rfl rfl))) undef (ResL.cons (ResV.tmp rfl) ResL.nil) rfl rfl rfl rfl
 refine T.block ?_
 obtain ⟨n6, n11⟩ := loop_some ht2
 refine T.loop (fun n S' => ∃ S'', Gst S' S'' ∧ ∃ y4 : Value, ∃ s5 : Int × (List NP), S'' = ⟨[(9, .val (.int .i64 s5.1)), (8, .val (.int .i64 (x1.length : Int))), (7, .sl 1 (List.map e_sl22 x1)), (3, .val y4), (2, .val (.slice none 0 0))], [.row y4 (List.map eNP s5.2) 1 25], 20⟩ ∧ iter (tree_leaves_int.l1 x1) n s5 = some t2) n6 ?_ ?_
 · exact ⟨_, Gst.trans (Gst.only [2, 3, 7, 8, 9] rfl) (Gst.nilRow (ow := []) 1 25 rfl), (.slice none 0 0), (0, []), rfl, n11⟩
 rintro n6 _ ⟨_, g, y4, s5, rfl, i10⟩
 refine T.ghost g ?_
 obtain ⟨m7, q8, rfl, q9, i10⟩ := iter_succ i10
 unfold tree_leaves_int.l1 at q9
 refine T.seq ?_
 refine T.region ?_
 refine TL.op1 (OpR.pure rfl) rfl ?_
 refine TL.nil ?_
 show T X _ _ _
 refine T.seq ?_
 rcases ite_some q9 with ⟨c13, q9⟩ | ⟨c13, q9⟩
 rotate_left
 · refine T.condF rfl (decide_eq_false c13) ?_
   refine T.exit ?_
   obtain rfl := Option.some.inj q9
   obtain rfl : _ = _ := i10
   exact ⟨_, Gst.only [2, 3] rfl, y4, rfl⟩
 refine T.condT rfl (decide_eq_true c13) ?_
 refine T.skip ?_
 show T X _ _ _
 refine T.seq ?_
 refine T.block ?_
 refine T.seq ?_
 refine T.region ?_
 obtain ⟨x14, hx14, q9⟩ := bnd_some q9
 refine TL.op1 (OpR.indexM e_sl22 hx14 rfl rfl rfl rfl rfl) rfl ?_
 refine TL.op1 (OpR.pure rfl) rfl ?_
 refine TL.op1 (OpR.pure rfl) rfl ?_
 refine TL.nil ?_
 show T X _ _ _
 refine T.region ?_
 refine TL.op1 (OpR.pure rfl) rfl ?_
 refine TL.op1 (OpR.pure rfl) rfl ?_
 obtain ⟨x15, hx15, q9⟩ := bnd_some q9
 refine TL.op1 (OpR.call0 fn76 (tree_leaf_int_c hx15) rfl) rfl ?_
 refine TL.op1 (OpR.lit rfl rfl rfl rfl rfl rfl rfl) rfl ?_
 obtain ⟨x16, hx16, q9⟩ := bnd_some q9
 refine TL.op (OpR.appendM (m := [(c_tree_Node_int (⟨x15.1, x15.2.1, x15.2.2⟩ : tree_Node_int))]) eNP 0 hx16 rfl rfl rfl rfl rfl rfl rfl rfl rfl (fun _ => rfl)) rfl (fun v17 => ?_)
 refine TL.op1 (OpR.pure rfl) rfl ?_
 refine TL.nil ?_
 show T X _ _ _
 refine T.region ?_
 refine TL.op1 (OpR.pure rfl) rfl ?_
 refine TL.op1 (OpR.pure rfl) rfl ?_
 refine TL.nil ?_
 obtain rfl := Option.some.inj q9
 exact ⟨m7, Nat.lt_succ_self _, _, Gst.only [2, 3, 7, 8, 9] rfl, v17, (w64 (s5.1 + 1), x16), rfl, i10⟩
noncomputable def slices_Clone_tree_Node_int_tree_Node_int (a0 : List NP) : Option (List NP) :=
  bnd (app 8 [] a0) fun x5 =>
  some x5
set_option maxHeartbeats 4000000 in
theorem slices_Clone_tree_Node_int_tree_Node_int_c {a0 : List NP} {res : (List NP)} (h0 : slices_Clone_tree_Node_int_tree_Node_int a0 = some res) : CallF X 104 [.sl 1 (List.map eNP a0)] [] (fun x => .val (vn x 0)) (fun x => [.row (vn x 0) (List.map eNP res) 1 25]) := by
 unfold slices_Clone_tree_Node_int_tree_Node_int at h0
 refine CallF.mkG (X := X) rfl Try.func104 rfl rfl Try.ntmps104 rfl rfl ?_
 refine T.seq ?_
 refine T.region ?_
 refine TL.op1 (OpR.pure rfl) rfl ?_
 refine TL.nil ?_
 show T X _ _ _
 refine T.seq ?_
 refine T.seq ?_
 refine T.region ?_
 refine TL.op1 (OpR.pure rfl) rfl ?_
 refine TL.isNil rfl rfl rfl rfl (fun b1 e2 => ?_)
 refine TL.nil ?_
 show T X _ _ _
 rcases Bool.eq_false_or_eq_true b1 with c3 | c3
 · obtain rfl := map_nil_of (e2 c3)
   rw [app_nil] at h0
   refine T.condT rfl (c3) ?_
   refine T.seq ?_
   refine T.region ?_
   refine TL.op1 (OpR.pure rfl) rfl ?_
   refine TL.nil ?_
   show T X _ _ _
   refine T.ret ?_
   obtain rfl := Option.some.inj h0
   exact PostG.retP (ks := [0]) (Gst.trans (Gst.only [2] rfl) (Gst.nilRow (ow := []) 1 25 rfl)) (.tuple #[(.slice none 0 0)]) (ResL.cons (ResV.tmp rfl) ResL.nil) rfl rfl rfl rfl
 refine T.condF rfl (c3) ?_
 refine T.skip ?_
 show T X _ _ _
 refine T.seq ?_
 refine T.region ?_
 refine TL.op (OpR.litRow rfl rfl rfl rfl rfl rfl rfl rfl (fun _ => rfl)) rfl (fun v4 => ?_)
 refine TL.op1 (OpR.pure rfl) rfl ?_
 obtain ⟨x5, hx5, h0⟩ := bnd_some h0
 refine TL.op (OpR.appendM (m := a0) eNP 0 hx5 rfl rfl rfl rfl rfl rfl rfl rfl rfl (fun _ => rfl)) rfl (fun v6 => ?_)
 refine TL.op1 (OpR.pure rfl) rfl ?_
 refine TL.nil ?_
 show T X _ _ _
 refine T.ret ?_
 obtain rfl := Option.some.inj h0
 exact PostG.retP (ks := [0]) (Gst.only [2] rfl) (.tuple #[v6]) (ResL.cons (ResV.tmp rfl) ResL.nil) rfl rfl rfl rfl
noncomputable def tree_cuts_tree_Node_int.l1 (s6 : (List NP) × Int × (List (List NP))) : Option (Lp ((List NP) × Int × (List (List NP))) (List (List NP))) :=
  if s6.2.1 > 0 then
    bnd (dvd (s6.1.length : Int) s6.2.1) fun x15 =>
    bnd (cut s6.1 0 x15) fun x16 =>
    bnd (slices_Clone_tree_Node_int_tree_Node_int x16) fun x17 =>
    bnd (app 24 s6.2.2 [x17]) fun x19 =>
    bnd (cut s6.1 x15 (s6.1.length : Int)) fun x21 =>
    some (Lp.next (x21, w64 (s6.2.1 - 1), x19))
  else
    some (Lp.done s6.2.2)
noncomputable def tree_cuts_tree_Node_int (a0 : List NP) : Option (List (List NP)) :=
  bnd ((mkc 24 (w64 (quo (w64 ((w64 ((a0.length : Int) + 6)) - 1)) 5)) : Option (List (List NP)))) fun x1 =>
  bnd (loop tree_cuts_tree_Node_int.l1 (a0, w64 (quo (w64 ((w64 ((a0.length : Int) + 6)) - 1)) 5), x1) : Option (List (List NP))) fun t3 =>
  some t3
set_option maxHeartbeats 4000000 in
theorem tree_cuts_tree_Node_int_c {a0 : List NP} {res : (List (List NP))} (h0 : tree_cuts_tree_Node_int a0 = some res) : CallF X 94 [.sl 1 (List.map eNP a0)] [] (fun x => .sl 1 (List.map e_sl80 res)) (fun x => []) := by
 unfold tree_cuts_tree_Node_int at h0
 refine CallF.mkG (X := X) rfl Try.func94 rfl rfl Try.ntmps94 rfl rfl ?_
 refine T.seq ?_
 refine T.region ?_
 refine TL.op1 (OpR.pure rfl) rfl ?_
 refine TL.nil ?_
 show T X _ _ _
 refine T.seq ?_
 refine T.region ?_
 refine TL.op1 (OpR.pure rfl) rfl ?_
 refine TL.op1 (OpR.cast (OpR.pure rfl) (intE (lenM _ _))) rfl ?_
 refine TL.op1 (OpR.pure rfl) rfl ?_
 refine TL.op1 (OpR.pure rfl) rfl ?_
 refine TL.op1 (OpR.pure rfl) rfl ?_
 refine TL.op1 (OpR.pure rfl) rfl ?_
 refine TL.nil ?_
 show T X _ _ _
 refine T.seq ?_
 refine T.region ?_
 refine TL.op1 (OpR.pure rfl) rfl ?_
 obtain ⟨x1, hx1, h0⟩ := bnd_some h0
 refine TL.op (OpR.makeC e_sl80 hx1 rfl rfl rfl rfl rfl rfl rfl (fun _ => rfl)) rfl (fun v2 => ?_)
 refine TL.op1 (OpR.pure rfl) rfl ?_
 refine TL.nil ?_
 show T X _ _ _
 refine T.seq ?_
 obtain ⟨t3, ht3, h0⟩ := bnd_some h0
 refine T.cutC (fun S' => ∃ y4 : Value, S' = ⟨[(4, .val y4), (2, .val (.slice none 0 0))], [.row y4 (List.map e_sl80 t3) 1 80], 32⟩) (fun _ h => h) ?_ ?_
 rotate_left
 · rintro _ ⟨y4, rfl⟩
   show T X _ _ _
   refine T.seq ?_
   refine T.region ?_
   refine TL.op1 (OpR.pure rfl) rfl ?_
   refine TL.op1 (OpR.pure rfl) rfl ?_
   refine TL.nil ?_
   show T X _ _ _
   refine T.ret ?_
   obtain rfl := Option.some.inj h0
   exact PostG.retP (ks := []) (Gst.trans (Gst.only [2] rfl) (Gst.trans (Gst.freezeRow 0 rfl rfl (ReS.cons (Re.base .all) ReS.nil) (ReO.same ReO.nil)) (Gst.pick [] rfl rfl))) undef (ResL.cons (ResV.tmp rfl) ResL.nil) rfl rfl rfl rfl
 refine T.block ?_
 obtain ⟨n7, n12⟩ := loop_some ht3
 refine T.loop (fun n S' => ∃ S'', Gst S' S'' ∧ ∃ y5 : Value, ∃ s6 : (List NP) × Int × (List (List NP)), S'' = ⟨[(4, .val y5), (3, .val (.int .i64 s6.2.1)), (2, .val (.slice none 0 0)), (0, .sl 1 (List.map eNP s6.1))], [.row y5 (List.map e_sl80 s6.2.2) 1 80], 32⟩ ∧ iter tree_cuts_tree_Node_int.l1 n s6 = some t3) n7 ?_ ?_
 · exact ⟨_, Gst.only [0, 2, 3, 4] rfl, v2, (a0, w64 (quo (w64 ((w64 ((a0.length : Int) + 6)) - 1)) 5), x1), rfl, n12⟩
 rintro n7 _ ⟨_, g, y5, s6, rfl, i11⟩
 refine T.ghost g ?_
 obtain ⟨m8, q9, rfl, q10, i11⟩ := iter_succ i11
 unfold tree_cuts_tree_Node_int.l1 at q10
 refine T.seq ?_
 refine T.seq ?_
 refine T.region ?_
 refine TL.op1 (OpR.pure rfl) rfl ?_
 refine TL.op1 (OpR.pure rfl) rfl ?_
 refine TL.nil ?_
 show T X _ _ _
 rcases ite_some q10 with ⟨c14, q10⟩ | ⟨c14, q10⟩
 rotate_left
 · refine T.condF rfl (decide_eq_false c14) ?_
   refine T.exit ?_
   obtain rfl := Option.some.inj q10
   obtain rfl : _ = _ := i11
   exact ⟨_, Gst.only [2, 4] rfl, y5, rfl⟩
 refine T.condT rfl (decide_eq_true c14) ?_
 refine T.skip ?_
 show T X _ _ _
 refine T.seq ?_
 refine T.block ?_
 refine T.seq ?_
 refine T.region ?_
 refine TL.op1 (OpR.pure rfl) rfl ?_
 refine TL.op1 (OpR.cast (OpR.pure rfl) (intE (lenM _ _))) rfl ?_
 refine TL.op1 (OpR.pure rfl) rfl ?_
 obtain ⟨x15, hx15, q10⟩ := bnd_some q10
 refine TL.op1 (OpR.dvdM hx15 rfl rfl rfl) rfl ?_
 refine TL.op1 (OpR.pure rfl) rfl ?_
 refine TL.nil ?_
 show T X _ _ _
 refine T.seq ?_
 refine T.region ?_
 refine TL.op1 (OpR.pure rfl) rfl ?_
 refine TL.op1 (OpR.pure rfl) rfl ?_
 refine TL.op1 (OpR.pure rfl) rfl ?_
 obtain ⟨x16, hx16, q10⟩ := bnd_some q10
 refine TL.op1 (OpR.sliceM (sz := 1) eNP hx16 rfl rfl rfl rfl BdM.none (BdM.some rfl) rfl) rfl ?_
 obtain ⟨x17, hx17, q10⟩ := bnd_some q10
 refine TL.op (OpR.call [] fn104 (slices_Clone_tree_Node_int_tree_Node_int_c hx17) rfl rfl rfl (fun _ => rfl)) rfl (fun w18 => ?_)
 refine TL.ghost (Gst.freezeRow 1 rfl rfl (ReS.cons (Re.base .all) (ReS.refl _)) (ReO.same (ReO.same ReO.nil))) ?_
 refine TL.op1 (OpR.lit rfl rfl rfl rfl rfl rfl rfl) rfl ?_
 obtain ⟨x19, hx19, q10⟩ := bnd_some q10
 refine TL.op (OpR.appendM (m := [x17]) e_sl80 0 hx19 rfl rfl rfl rfl rfl rfl rfl rfl rfl (fun _ => rfl)) rfl (fun v20 => ?_)
 refine TL.op1 (OpR.pure rfl) rfl ?_
 refine TL.nil ?_
 show T X _ _ _
 refine T.region ?_
 refine TL.op1 (OpR.pure rfl) rfl ?_
 refine TL.op1 (OpR.pure rfl) rfl ?_
 obtain ⟨x21, hx21, q10⟩ := bnd_some q10
 refine TL.op1 (OpR.sliceM (sz := 1) eNP hx21 rfl rfl rfl rfl (BdM.some rfl) BdM.none rfl) rfl ?_
 refine TL.op1 (OpR.pure rfl) rfl ?_
 refine TL.nil ?_
 show T X _ _ _
 refine T.region ?_
 refine TL.op1 (OpR.pure rfl) rfl ?_
 refine TL.op1 (OpR.pure rfl) rfl ?_
 refine TL.op1 (OpR.pure rfl) rfl ?_
 refine TL.nil ?_
 obtain rfl := Option.some.inj q10
 exact ⟨m8, Nat.lt_succ_self _, _, Gst.trans (Gst.only [0, 2, 3, 4] rfl) (Gst.pick [0] rfl rfl), v20, (x21, w64 (s6.2.1 - 1), x19), rfl, i11⟩
noncomputable def tree_inner_int.l1 (a0 : List NP) (s3 : Int × Int) : Option (Lp (Int × Int) Int) :=
  if s3.1 < (a0.length : Int) then
    bnd (idx a0 s3.1) fun x12 =>
    bnd (o_tree_Node_int x12) fun x13 =>
    some (Lp.next (w64 (s3.1 + 1), w64 (s3.2 + x13.fN)))
  else
    some (Lp.done s3.2)
noncomputable def tree_inner_int (a0 : List NP) : Option ((List NP) × (List Int) × Int) :=
  bnd (loop (tree_inner_int.l1 a0) (0, 0) : Option Int) fun t2 =>
  some (a0, [], t2)
set_option maxHeartbeats 4000000 in
theorem tree_inner_int_c {a0 : List NP} {res : (List NP) × (List Int) × Int} (h0 : tree_inner_int a0 = some res) : CallF X 95 [.sl 1 (List.map eNP a0)] [] (fun x => .nod [.sl 1 (List.map eNP res.1), .sl 1 (List.map (eI .i64) res.2.1), .val (.int .i64 res.2.2)]) (fun x => []) := by
 unfold tree_inner_int at h0
 refine CallF.mkG (X := X) rfl Try.func95 rfl rfl Try.ntmps95 rfl rfl ?_
 refine T.seq ?_
 refine T.region ?_
 refine TL.op1 (OpR.pure rfl) rfl ?_
 refine TL.nil ?_
 show T X _ _ _
 refine T.seq ?_
 refine T.region ?_
 refine TL.op1 (OpR.pure rfl) rfl ?_
 refine TL.op1 (OpR.wk (d' := fun _ => .agg [.sl 1 (List.map eNP a0), .sl 1 (List.map (eI .i64) []), .val (.int .i64 0)]) (OpR.build rfl rfl rfl rfl rfl) (fun _ => Re.agg (ReL.cons Re.refl (ReL.cons (Re.base .nil) (ReL.cons Re.refl ReL.nil))) (fun _ _ h => by cases h; exact ⟨_, rfl⟩))) rfl ?_
 refine TL.op (OpR.boxVar rfl rfl (fun _ => rfl)) rfl (fun p1 => ?_)
 refine TL.op1 (OpR.pure rfl) rfl ?_
 refine TL.nil ?_
 show T X _ _ _
 refine T.seq ?_
 refine T.seq ?_
 refine T.region ?_
 refine TL.op1 (OpR.pure rfl) rfl ?_
 refine TL.op1 (OpR.cast (OpR.pure rfl) (intE (lenM _ _))) rfl ?_
 refine TL.op1 (OpR.pure rfl) rfl ?_
 refine TL.nil ?_
 show T X _ _ _
 obtain ⟨t2, ht2, h0⟩ := bnd_some h0
 refine T.cutC (fun S' => S' = ⟨[(3, .val (.pointer (some ⟨(blk p1), 0, none⟩))), (2, .val (.pointer none))], [.var (blk p1) [.sl 1 (List.map eNP a0), .sl 1 (List.map (eI .i64) []), .val (.int .i64 t2)] 94], 28⟩) (fun _ h => h) ?_ ?_
 rotate_left
 · rintro _ rfl
   show T X _ _ _
   refine T.seq ?_
   refine T.region ?_
   refine TL.op1 (OpR.pure rfl) rfl ?_
   refine TL.op1 (OpR.pure rfl) rfl ?_
   refine TL.nil ?_
   show T X _ _ _
   refine T.ghost (Gst.trans (Gst.only [2] rfl) (Gst.freezeVar 0 rfl rfl (ReS.cons (Re.base .all) ReS.nil) (ReO.same ReO.nil))) ?_
   refine T.ret ?_
   obtain rfl := Option.some.inj h0
   exact PostG.retP (ks := []) (Gst.trans (Gst.only [2] rfl) (Gst.pick [] rfl rfl)) undef (ResL.cons (ResV.tmp rfl) ResL.nil) rfl rfl rfl rfl
 refine T.block ?_
 obtain ⟨n4, n9⟩ := loop_some ht2
 refine T.loop (fun n S' => ∃ S'', Gst S' S'' ∧ ∃ s3 : Int × Int, S'' = ⟨[(11, .val (.int .i64 s3.1)), (10, .val (.int .i64 (a0.length : Int))), (9, .sl 1 (List.map eNP a0)), (3, .val (.pointer (some ⟨(blk p1), 0, none⟩))), (2, .val (.pointer none))], [.var (blk p1) [.sl 1 (List.map eNP a0), .sl 1 (List.map (eI .i64) []), .val (.int .i64 s3.2)] 94], 28⟩ ∧ iter (tree_inner_int.l1 a0) n s3 = some t2) n4 ?_ ?_
 · exact ⟨_, Gst.only [2, 3, 9, 10, 11] rfl, (0, 0), rfl, n9⟩
 rintro n4 _ ⟨_, g, s3, rfl, i8⟩
 refine T.ghost g ?_
 obtain ⟨m5, q6, rfl, q7, i8⟩ := iter_succ i8
 unfold tree_inner_int.l1 at q7
 refine T.seq ?_
 refine T.region ?_
 refine TL.op1 (OpR.pure rfl) rfl ?_
 refine TL.nil ?_
 show T X _ _ _
 refine T.seq ?_
 rcases ite_some q7 with ⟨c11, q7⟩ | ⟨c11, q7⟩
 rotate_left
 · refine T.condF rfl (decide_eq_false c11) ?_
   refine T.exit ?_
   obtain rfl := Option.some.inj q7
   obtain rfl : _ = _ := i8
   exact ⟨_, Gst.only [2, 3] rfl, rfl⟩
 refine T.condT rfl (decide_eq_true c11) ?_
 refine T.skip ?_
 show T X _ _ _
 refine T.seq ?_
 refine T.block ?_
 refine T.seq ?_
 refine T.region ?_
 obtain ⟨x12, hx12, q7⟩ := bnd_some q7
 obtain ⟨x13, hx13, q7⟩ := bnd_some q7
 rw [o_tree_Node_int_eq hx13] at hx12
 refine TL.op1 (OpR.indexM eNP hx12 rfl rfl rfl rfl rfl) rfl ?_
 refine TL.op1 (OpR.pure rfl) rfl ?_
 refine TL.op1 (OpR.pure rfl) rfl ?_
 refine TL.nil ?_
 show T X _ _ _
 refine T.drawS drawsX (fun env14 => [.val (.pointer (some ⟨(blk p1), 0, none⟩)), .val (.pointer (some ⟨(blk p1), 0, none⟩)), .val (.pointer (some ⟨(blk p1), 2, none⟩)), .val (.int .i64 s3.2), .nod [.sl 1 (List.map eNP x13.fKids), .sl 1 (List.map (eI .i64) x13.fItems), .val (.int .i64 x13.fN)], .nod [.sl 1 (List.map eNP x13.fKids), .sl 1 (List.map (eI .i64) x13.fItems), .val (.int .i64 x13.fN)], .nod [.val (.int .i64 x13.fN)], .val (.int .i64 x13.fN), .val (.int .i64 (w64 (s3.2 + x13.fN))), .val (.pointer (some ⟨(blk p1), 0, none⟩)), .val (.pointer (some ⟨(blk p1), 2, none⟩)), .dead]) (fun D env14 => [(bif D 11 then .var (blk p1) [.sl 1 (List.map eNP a0), .sl 1 (List.map (eI .i64) []), .val (.int .i64 (w64 (s3.2 + x13.fN)))] 94 else .var (blk p1) [.sl 1 (List.map eNP a0), .sl 1 (List.map (eI .i64) []), .val (.int .i64 s3.2)] 94)]) [0, 1, 3, 7, 0, 16, 48, 112, 255, 511, 1023, 2047] [2, 3, 5, 9, 10, 11, 12, 13, 14, 15, 16, 17, 18, 19, 20, 21, 22, 23, 24, 25] (fun env14 => [.var (blk p1) [.sl 1 (List.map eNP a0), .sl 1 (List.map (eI .i64) []), .val (.int .i64 (w64 (s3.2 + x13.fN)))] 94]) (by decide +kernel) (by decide +kernel) (fun _ => rfl) (fun _ => rfl) ?_ (fun _ => rfl) (fun _ => rfl) ?_
 rotate_left
 · intro env14
   show T X _ _ _
   refine T.region ?_
   refine TL.op1 (OpR.pure rfl) rfl ?_
   refine TL.op1 (OpR.pure rfl) rfl ?_
   refine TL.nil ?_
   obtain rfl := Option.some.inj q7
   exact ⟨m5, Nat.lt_succ_self _, _, Gst.only [2, 3, 9, 10, 11] rfl, (w64 (s3.1 + 1), w64 (s3.2 + x13.fN)), rfl, i8⟩
 refine oS (d := .val (.pointer (some ⟨(blk p1), 0, none⟩))) (fun _ => Want.plain rfl) (fun _ => rfl) (fun _ _ _ => rfl) (fun _ _ => OpR.pure rfl) (fun _ _ _ _ _ _ _ => rfl) ?_
 refine oS (d := .val (.pointer (some ⟨(blk p1), 0, none⟩))) (fun _ => Want.plain rfl) (fun _ => rfl) (fun _ _ _ => rfl) (fun _ _ => OpR.pure rfl) (fun _ _ _ _ _ _ _ => rfl) ?_
 refine oS (d := .val (.pointer (some ⟨(blk p1), 2, none⟩))) (fun _ => Want.plain rfl) (fun _ => rfl) (fun _ _ _ => rfl) (fun _ _ => OpR.pure rfl) (fun _ _ _ _ _ _ _ => rfl) ?_
 refine OpsS.cons' true ?_ (fun _ _ _ _ _ _ _ => rfl) ?_
 · intro D env14 hA
   have e11 : D 11 = false := hA.no 11 _ rfl rfl
   exact OpS.yes (o0 := [.var (blk p1) [.sl 1 (List.map eNP a0), .sl 1 (List.map (eI .i64) []), .val (.int .i64 s3.2)] 94]) (o1 := fun x => [.var (blk p1) [.sl 1 (List.map eNP a0), .sl 1 (List.map (eI .i64) []), .val (.int .i64 s3.2)] 94]) (d := fun x => .val (.int .i64 s3.2)) (Want.plain rfl) (by first | rfl | simp only [e11, cond_true, cond_false, List.cons_append, List.nil_append, List.append_nil]) (fun x => by first | rfl | simp only [ins_self, ins_ne D (show 3 ≠ 11 by decide), upd_self, e11, cond_true, cond_false, List.cons_append, List.nil_append, List.append_nil]) (fun x => rfl) (OpR.loadPtr 0 rfl rfl rfl rfl)
 refine oS (d := .nod [.sl 1 (List.map eNP x13.fKids), .sl 1 (List.map (eI .i64) x13.fItems), .val (.int .i64 x13.fN)]) (fun _ => Want.plain rfl) (fun _ => rfl) (fun _ _ _ => rfl) (fun _ _ => OpR.pure rfl) (fun _ _ _ _ _ _ _ => rfl) ?_
 refine oS (d := .nod [.sl 1 (List.map eNP x13.fKids), .sl 1 (List.map (eI .i64) x13.fItems), .val (.int .i64 x13.fN)]) (fun _ => Want.plain rfl) (fun _ => rfl) (fun _ _ _ => rfl) (fun _ _ => OpR.pure rfl) (fun _ _ _ _ _ _ _ => rfl) ?_
 refine oS (d := .nod [.val (.int .i64 x13.fN)]) (fun _ => Want.plain rfl) (fun _ => rfl) (fun _ _ _ => rfl) (fun _ _ => OpR.pure rfl) (fun _ _ _ _ _ _ _ => rfl) ?_
 refine oS (d := .val (.int .i64 x13.fN)) (fun _ => Want.plain rfl) (fun _ => rfl) (fun _ _ _ => rfl) (fun _ _ => OpR.pure rfl) (fun _ _ _ _ _ _ _ => rfl) ?_
 refine oS (d := .val (.int .i64 (w64 (s3.2 + x13.fN)))) (fun _ => Want.plain rfl) (fun _ => rfl) (fun _ _ _ => rfl) (fun _ _ => OpR.pure rfl) (fun _ _ _ _ _ _ _ => rfl) ?_
 refine oS (d := .val (.pointer (some ⟨(blk p1), 0, none⟩))) (fun _ => Want.plain rfl) (fun _ => rfl) (fun _ _ _ => rfl) (fun _ _ => OpR.pure rfl) (fun _ _ _ _ _ _ _ => rfl) ?_
 refine oS (d := .val (.pointer (some ⟨(blk p1), 2, none⟩))) (fun _ => Want.plain rfl) (fun _ => rfl) (fun _ _ _ => rfl) (fun _ _ => OpR.pure rfl) (fun _ _ _ _ _ _ _ => rfl) ?_
 refine OpsS.cons' true ?_ (fun _ _ _ _ _ _ _ => rfl) ?_
 · intro D env14 hA
   exact OpS.yes (o0 := [.var (blk p1) [.sl 1 (List.map eNP a0), .sl 1 (List.map (eI .i64) []), .val (.int .i64 s3.2)] 94]) (o1 := fun x => [.var (blk p1) [.sl 1 (List.map eNP a0), .sl 1 (List.map (eI .i64) []), .val (.int .i64 (w64 (s3.2 + x13.fN)))] 94]) (d := fun x => .dead) (Want.plain rfl) (by first | rfl | simp only [hA.me, cond_true, cond_false, List.cons_append, List.nil_append, List.append_nil]) (fun x => by first | rfl | simp only [ins_self, upd_self, hA.me, cond_true, cond_false, List.cons_append, List.nil_append, List.append_nil]) (fun x => rfl) (OpR.store 0 rfl rfl rfl rfl rfl rfl rfl rfl)
 exact trivial
noncomputable def tree_inners_int.l1 (x1 : (List (List NP))) (s5 : Int × (List NP)) : Option (Lp (Int × (List NP)) (List NP)) :=
  if s5.1 < (x1.length : Int) then
    bnd (idx x1 s5.1) fun x14 =>
    bnd (tree_inner_int x14) fun x15 =>
    bnd (app 8 s5.2 [(c_tree_Node_int (⟨x15.1, x15.2.1, x15.2.2⟩ : tree_Node_int))]) fun x16 =>
    some (Lp.next (w64 (s5.1 + 1), x16))
  else
    some (Lp.done s5.2)
noncomputable def tree_inners_int (a0 : List NP) : Option (List NP) :=
  bnd (tree_cuts_tree_Node_int a0) fun x1 =>
  bnd (loop (tree_inners_int.l1 x1) (0, []) : Option (List NP)) fun t2 =>
  some t2
set_option maxHeartbeats 4000000 in
theorem tree_inners_int_c {a0 : List NP} {res : (List NP)} (h0 : tree_inners_int a0 = some res) : CallF X 74 [.sl 1 (List.map eNP a0)] [] (fun x => .sl 1 (List.map eNP res)) (fun x => []) := by
 unfold tree_inners_int at h0
 refine CallF.mkG (X := X) rfl Try.func74 rfl rfl Try.ntmps74 rfl rfl ?_
 refine T.seq ?_
 refine T.region ?_
 refine TL.op1 (OpR.pure rfl) rfl ?_
 refine TL.nil ?_
 show T X _ _ _
 refine T.seq ?_
 refine T.region ?_
 refine TL.op1 (OpR.pure rfl) rfl ?_
 refine TL.nil ?_
 show T X _ _ _
 refine T.seq ?_
 refine T.seq ?_
 refine T.region ?_
 refine TL.op1 (OpR.pure rfl) rfl ?_
 obtain ⟨x1, hx1, h0⟩ := bnd_some h0
 refine TL.op1 (OpR.call0 fn94 (tree_cuts_tree_Node_int_c hx1) rfl) rfl ?_
 refine TL.op1 (OpR.cast (OpR.pure rfl) (intE (lenM _ _))) rfl ?_
 refine TL.op1 (OpR.pure rfl) rfl ?_
 refine TL.nil ?_
 show T X _ _ _
 obtain ⟨t2, ht2, h0⟩ := bnd_some h0
 refine T.cutC (fun S' => ∃ y3 : Value, S' = ⟨[(3, .val y3), (2, .val (.slice none 0 0))], [.row y3 (List.map eNP t2) 1 25], 20⟩) (fun _ h => h) ?_ ?_
 rotate_left
 · rintro _ ⟨y3, rfl⟩
   show T X _ _ _
   refine T.seq ?_
   refine T.region ?_
   refine TL.op1 (OpR.pure rfl) rfl ?_
   refine TL.op1 (OpR.pure rfl) rfl ?_
   refine TL.nil ?_
   show T X _ _ _
   refine T.ret ?_
   obtain rfl := Option.some.inj h0
   exact PostG.retP (ks := []) (Gst.trans (Gst.only [2] rfl) (Gst.trans (Gst.freezeRow 0 rfl rfl (ReS.cons (Re.base .all) ReS.nil) (ReO.same ReO.nil)) (Gst.pick [] rfl rfl))) undef (ResL.cons (ResV.tmp rfl) ResL.nil) rfl rfl rfl rfl
 refine T.block ?_
 obtain ⟨n6, n11⟩ := loop_some ht2
 refine T.loop (fun n S' => ∃ S'', Gst S' S'' ∧ ∃ y4 : Value, ∃ s5 : Int × (List NP), S'' = ⟨[(9, .val (.int .i64 s5.1)), (8, .val (.int .i64 (x1.length : Int))), (7, .sl 1 (List.map e_sl80 x1)), (3, .val y4), (2, .val (.slice none 0 0))], [.row y4 (List.map eNP s5.2) 1 25], 20⟩ ∧ iter (tree_inners_int.l1 x1) n s5 = some t2) n6 ?_ ?_
 · exact ⟨_, Gst.trans (Gst.only [2, 3, 7, 8, 9] rfl) (Gst.nilRow (ow := []) 1 25 rfl), (.slice none 0 0), (0, []), rfl, n11⟩
 rintro n6 _ ⟨_, g, y4, s5, rfl, i10⟩
 refine T.ghost g ?_
 obtain ⟨m7, q8, rfl, q9, i10⟩ := iter_succ i10
 unfold tree_inners_int.l1 at q9
 refine T.seq ?_
 refine T.region ?_
 refine TL.op1 (OpR.pure rfl) rfl ?_
 refine TL.nil ?_
 show T X _ _ _
 refine T.seq ?_
 rcases ite_some q9 with ⟨c13, q9⟩ | ⟨c13, q9⟩
 rotate_left
 · refine T.condF rfl (decide_eq_false c13) ?_
   refine T.exit ?_
   obtain rfl := Option.some.inj q9
   obtain rfl : _ = _ := i10
   exact ⟨_, Gst.only [2, 3] rfl, y4, rfl⟩
 refine T.condT rfl (decide_eq_true c13) ?_
 refine T.skip ?_
 show T X _ _ _
 refine T.seq ?_
 refine T.block ?_
 refine T.seq ?_
 refine T.region ?_
 obtain ⟨x14, hx14, q9⟩ := bnd_some q9
 refine TL.op1 (OpR.indexM e_sl80 hx14 rfl rfl rfl rfl rfl) rfl ?_
 refine TL.op1 (OpR.pure rfl) rfl ?_
 refine TL.op1 (OpR.pure rfl) rfl ?_
 refine TL.nil ?_
 show T X _ _ _
 refine T.region ?_
 refine TL.op1 (OpR.pure rfl) rfl ?_
 refine TL.op1 (OpR.pure rfl) rfl ?_
 obtain ⟨x15, hx15, q9⟩ := bnd_some q9
 refine TL.op1 (OpR.call0 fn95 (tree_inner_int_c hx15) rfl) rfl ?_
 refine TL.op1 (OpR.lit rfl rfl rfl rfl rfl rfl rfl) rfl ?_
 obtain ⟨x16, hx16, q9⟩ := bnd_some q9
 refine TL.op (OpR.appendM (m := [(c_tree_Node_int (⟨x15.1, x15.2.1, x15.2.2⟩ : tree_Node_int))]) eNP 0 hx16 rfl rfl rfl rfl rfl rfl rfl rfl rfl (fun _ => rfl)) rfl (fun v17 => ?_)
 refine TL.op1 (OpR.pure rfl) rfl ?_
 refine TL.nil ?_
 show T X _ _ _
 refine T.region ?_
 refine TL.op1 (OpR.pure rfl) rfl ?_
 refine TL.op1 (OpR.pure rfl) rfl ?_
 refine TL.nil ?_
 obtain rfl := Option.some.inj q9
 exact ⟨m7, Nat.lt_succ_self _, _, Gst.only [2, 3, 7, 8, 9] rfl, v17, (w64 (s5.1 + 1), x16), rfl, i10⟩
noncomputable def tree_above_int.l1 (s3 : (List NP)) : Option (Lp (List NP) (List NP)) :=
  if (s3.length : Int) > 1 then
    bnd (tree_inners_int s3) fun x12 =>
    some (Lp.next x12)
  else
    some (Lp.done s3)
noncomputable def tree_above_int.l2 (s21 : (List NP) × (List Int) × Int) : Option (Lp ((List NP) × (List Int) × Int) ((List NP) × (List Int) × Int)) :=
  if (s21.1.length : Int) = 1 then
    bnd (idx s21.1 0) fun x30 =>
    bnd (o_tree_Node_int x30) fun x31 =>
    some (Lp.next (x31.fKids, x31.fItems, x31.fN))
  else
    some (Lp.done (s21.1, s21.2.1, s21.2.2))
noncomputable def tree_above_int (a0 : List NP) : Option tree_Tree_int :=
  bnd (loop tree_above_int.l1 a0 : Option (List NP)) fun t2 =>
  bnd (if (t2.length : Int) = 0 then
    some true
  else
    bnd (idx t2 0) fun x15 =>
    bnd (o_tree_Node_int x15) fun x16 =>
    some (x16.fN == 0) : Option Bool) fun t13 =>
  if t13 = true then
    some (⟨none⟩ : tree_Tree_int)
  else
    bnd (idx t2 0) fun x18 =>
    bnd (o_tree_Node_int x18) fun x19 =>
    bnd (loop tree_above_int.l2 (x19.fKids, x19.fItems, x19.fN) : Option ((List NP) × (List Int) × Int)) fun t20 =>
    some (⟨(some (c_tree_Node_int (⟨t20.1, t20.2.1, t20.2.2⟩ : tree_Node_int)))⟩ : tree_Tree_int)
set_option maxHeartbeats 4000000 in
theorem tree_above_int_c {a0 : List NP} {res : tree_Tree_int} (h0 : tree_above_int a0 = some res) : CallF X 43 [.sl 1 (List.map eNP a0)] [] (fun x => .agg [(eOP res.fRoot)]) (fun x => []) := by
 unfold tree_above_int at h0
 refine CallF.mkG (X := X) rfl Try.func43 rfl rfl Try.ntmps43 rfl rfl ?_
 refine T.seq ?_
 refine T.region ?_
 refine TL.op (OpR.alloc rfl rfl (fun _ => rfl)) rfl (fun p1 => ?_)
 refine TL.nil ?_
 show T X _ _ _
 refine T.seq ?_
 obtain ⟨t2, ht2, h0⟩ := bnd_some h0
 refine T.cutC (fun S' => S' = ⟨[(2, .val (.pointer (some ⟨(blk p1), 0, none⟩))), (0, .sl 1 (List.map eNP t2))], [.var (blk p1) [(eOP none)] 27], 39⟩) (fun _ h => h) ?_ ?_
 · refine T.block ?_
   obtain ⟨n4, n9⟩ := loop_some ht2
   refine T.loop (fun n S' => ∃ S'', Gst S' S'' ∧ ∃ s3 : (List NP), S'' = ⟨[(2, .val (.pointer (some ⟨(blk p1), 0, none⟩))), (0, .sl 1 (List.map eNP s3))], [.var (blk p1) [(eOP none)] 27], 39⟩ ∧ iter tree_above_int.l1 n s3 = some t2) n4 ?_ ?_
   · exact ⟨_, Gst.only [0, 2] rfl, a0, rfl, n9⟩
   rintro n4 _ ⟨_, g, s3, rfl, i8⟩
   refine T.ghost g ?_
   obtain ⟨m5, q6, rfl, q7, i8⟩ := iter_succ i8
   unfold tree_above_int.l1 at q7
   refine T.seq ?_
   refine T.seq ?_
   refine T.region ?_
   refine TL.op1 (OpR.pure rfl) rfl ?_
   refine TL.op1 (OpR.cast (OpR.pure rfl) (intE (lenM _ _))) rfl ?_
   refine TL.op1 (OpR.pure rfl) rfl ?_
   refine TL.nil ?_
   show T X _ _ _
   rcases ite_some q7 with ⟨c11, q7⟩ | ⟨c11, q7⟩
   rotate_left
   · refine T.condF rfl (decide_eq_false c11) ?_
     refine T.exit ?_
     obtain rfl := Option.some.inj q7
     obtain rfl : _ = _ := i8
     exact ⟨_, Gst.only [0, 2] rfl, rfl⟩
   refine T.condT rfl (decide_eq_true c11) ?_
   refine T.skip ?_
   show T X _ _ _
   refine T.block ?_
   refine T.region ?_
   refine TL.op1 (OpR.pure rfl) rfl ?_
   obtain ⟨x12, hx12, q7⟩ := bnd_some q7
   refine TL.op1 (OpR.call0 fn74 (tree_inners_int_c hx12) rfl) rfl ?_
   refine TL.op1 (OpR.pure rfl) rfl ?_
   refine TL.nil ?_
   obtain rfl := Option.some.inj q7
   exact ⟨m5, Nat.lt_succ_self _, _, Gst.only [0, 2] rfl, x12, rfl, i8⟩
 rintro _ rfl
 show T X _ _ _
 refine T.seq ?_
 refine T.seq ?_
 obtain ⟨t13, ht13, h0⟩ := bnd_some h0
 refine T.cutC (fun S' => S' = ⟨[(20, .val (.bool t13)), (2, .val (.pointer (some ⟨(blk p1), 0, none⟩))), (0, .sl 1 (List.map eNP t2))], [.var (blk p1) [(eOP none)] 27], 39⟩) (fun _ h => h) ?_ ?_
 · refine T.region ?_
   refine TL.op1 (OpR.pure rfl) rfl ?_
   refine TL.op1 (OpR.cast (OpR.pure rfl) (intE (lenM _ _))) rfl ?_
   refine TL.op1 (OpR.pure rfl) rfl ?_
   refine TL.op1 (OpR.pure rfl) rfl ?_
   rcases ite_some ht13 with ⟨c14, ht13⟩ | ⟨c14, ht13⟩
   · refine TL.off rfl rfl rfl rfl (beq_iff_eq.2 c14) rfl rfl ?_
     refine TL.off rfl rfl rfl rfl (beq_iff_eq.2 c14) rfl rfl ?_
     refine TL.off rfl rfl rfl rfl (beq_iff_eq.2 c14) rfl rfl ?_
     refine TL.off rfl rfl rfl rfl (beq_iff_eq.2 c14) rfl rfl ?_
     refine TL.off rfl rfl rfl rfl (beq_iff_eq.2 c14) rfl rfl ?_
     refine TL.off rfl rfl rfl rfl (beq_iff_eq.2 c14) rfl rfl ?_
     refine TL.off rfl rfl rfl rfl (beq_iff_eq.2 c14) rfl rfl ?_
     refine TL.op1 (OpR.pickT rfl (beq_iff_eq.2 c14) rfl) rfl ?_
     refine TL.nil ?_
     obtain rfl := Option.some.inj ht13
     exact ⟨_, Gst.only [0, 2, 20] rfl, rfl⟩
   refine TL.on rfl rfl rfl rfl (beq_eq_false_iff_ne.2 c14) ?_
   refine TL.op1 (OpR.pure rfl) rfl ?_
   refine TL.on rfl rfl rfl rfl (beq_eq_false_iff_ne.2 c14) ?_
   obtain ⟨x15, hx15, ht13⟩ := bnd_some ht13
   obtain ⟨x16, hx16, ht13⟩ := bnd_some ht13
   rw [o_tree_Node_int_eq hx16] at hx15
   refine TL.op1 (OpR.indexM eNP hx15 rfl rfl rfl rfl rfl) rfl ?_
   refine TL.on rfl rfl rfl rfl (beq_eq_false_iff_ne.2 c14) ?_
   refine TL.op1 (OpR.pure rfl) rfl ?_
   refine TL.on rfl rfl rfl rfl (beq_eq_false_iff_ne.2 c14) ?_
   refine TL.op1 (OpR.pure rfl) rfl ?_
   refine TL.on rfl rfl rfl rfl (beq_eq_false_iff_ne.2 c14) ?_
   refine TL.op1 (OpR.pure rfl) rfl ?_
   refine TL.on rfl rfl rfl rfl (beq_eq_false_iff_ne.2 c14) ?_
   refine TL.op1 (OpR.pure rfl) rfl ?_
   refine TL.on rfl rfl rfl rfl (beq_eq_false_iff_ne.2 c14) ?_
   refine TL.op1 (OpR.pure rfl) rfl ?_
   refine TL.op1 (OpR.pickF rfl (beq_eq_false_iff_ne.2 c14) rfl) rfl ?_
   refine TL.nil ?_
   obtain rfl := Option.some.inj ht13
   exact ⟨_, Gst.only [0, 2, 20] rfl, rfl⟩
 rintro _ rfl
 show T X _ _ _
 rcases ite_some h0 with ⟨c17, h0⟩ | ⟨c17, h0⟩
 · refine T.condT rfl (c17) ?_
   refine T.seq ?_
   refine T.region ?_
   refine TL.op1 (OpR.build rfl rfl rfl rfl rfl) rfl ?_
   refine TL.op0 (OpR.store 0 rfl rfl rfl rfl rfl rfl rfl rfl) ?_
   refine TL.nil ?_
   show T X _ _ _
   refine T.ret ?_
   obtain rfl := Option.some.inj h0
   exact PostG.retP (ks := []) (Gst.only [2] rfl) undef (ResL.cons (ResV.var 0 rfl rfl rfl rfl) ResL.nil) rfl rfl rfl rfl
 refine T.condF rfl (eq_false_of_ne_true c17) ?_
 refine T.skip ?_
 show T X _ _ _
 refine T.seq ?_
 refine T.region ?_
 refine TL.op1 (OpR.pure rfl) rfl ?_
 obtain ⟨x18, hx18, h0⟩ := bnd_some h0
 obtain ⟨x19, hx19, h0⟩ := bnd_some h0
 rw [o_tree_Node_int_eq hx19] at hx18
 refine TL.op1 (OpR.indexM eNP hx18 rfl rfl rfl rfl rfl) rfl ?_
 refine TL.op1 (OpR.pure rfl) rfl ?_
 refine TL.op1 (OpR.pure rfl) rfl ?_
 refine TL.nil ?_
 show T X _ _ _
 refine T.seq ?_
 obtain ⟨t20, ht20, h0⟩ := bnd_some h0
 refine T.cutC (fun S' => S' = ⟨[(3, .nod [.sl 1 (List.map eNP t20.1), .sl 1 (List.map (eI .i64) t20.2.1), .val (.int .i64 t20.2.2)]), (2, .val (.pointer (some ⟨(blk p1), 0, none⟩)))], [.var (blk p1) [(eOP none)] 27], 39⟩) (fun _ h => h) ?_ ?_
 rotate_left
 · rintro _ rfl
   show T X _ _ _
   refine T.seq ?_
   refine T.region ?_
   refine TL.op1 (OpR.pure rfl) rfl ?_
   refine TL.op1 (OpR.build rfl rfl rfl rfl rfl) rfl ?_
   refine TL.op0 (OpR.store 0 rfl rfl rfl rfl rfl rfl rfl rfl) ?_
   refine TL.nil ?_
   show T X _ _ _
   refine T.ret ?_
   obtain rfl := Option.some.inj h0
   exact PostG.retP (ks := []) (Gst.only [2] rfl) undef (ResL.cons (ResV.var 0 rfl rfl rfl rfl) ResL.nil) rfl rfl rfl rfl
 refine T.block ?_
 obtain ⟨n22, n27⟩ := loop_some ht20
 refine T.loop (fun n S' => ∃ S'', Gst S' S'' ∧ ∃ s21 : (List NP) × (List Int) × Int, S'' = ⟨[(3, .nod [.sl 1 (List.map eNP s21.1), .sl 1 (List.map (eI .i64) s21.2.1), .val (.int .i64 s21.2.2)]), (2, .val (.pointer (some ⟨(blk p1), 0, none⟩)))], [.var (blk p1) [(eOP none)] 27], 39⟩ ∧ iter tree_above_int.l2 n s21 = some t20) n22 ?_ ?_
 · exact ⟨_, Gst.only [2, 3] rfl, (x19.fKids, x19.fItems, x19.fN), rfl, n27⟩
 rintro n22 _ ⟨_, g, s21, rfl, i26⟩
 refine T.ghost g ?_
 obtain ⟨m23, q24, rfl, q25, i26⟩ := iter_succ i26
 unfold tree_above_int.l2 at q25
 refine T.seq ?_
 refine T.seq ?_
 refine T.region ?_
 refine TL.op1 (OpR.pure rfl) rfl ?_
 refine TL.op1 (OpR.pure rfl) rfl ?_
 refine TL.op1 (OpR.pure rfl) rfl ?_
 refine TL.op1 (OpR.pure rfl) rfl ?_
 refine TL.op1 (OpR.cast (OpR.pure rfl) (intE (lenM _ _))) rfl ?_
 refine TL.op1 (OpR.pure rfl) rfl ?_
 refine TL.nil ?_
 show T X _ _ _
 rcases ite_some q25 with ⟨c29, q25⟩ | ⟨c29, q25⟩
 rotate_left
 · refine T.condF rfl (beq_eq_false_iff_ne.2 c29) ?_
   refine T.exit ?_
   obtain rfl := Option.some.inj q25
   obtain rfl : _ = _ := i26
   exact ⟨_, Gst.only [2, 3] rfl, rfl⟩
 refine T.condT rfl (beq_iff_eq.2 c29) ?_
 refine T.skip ?_
 show T X _ _ _
 refine T.block ?_
 refine T.region ?_
 refine TL.op1 (OpR.pure rfl) rfl ?_
 refine TL.op1 (OpR.pure rfl) rfl ?_
 refine TL.op1 (OpR.pure rfl) rfl ?_
 refine TL.op1 (OpR.pure rfl) rfl ?_
 obtain ⟨x30, hx30, q25⟩ := bnd_some q25
 obtain ⟨x31, hx31, q25⟩ := bnd_some q25
 rw [o_tree_Node_int_eq hx31] at hx30
 refine TL.op1 (OpR.indexM eNP hx30 rfl rfl rfl rfl rfl) rfl ?_
 refine TL.op1 (OpR.pure rfl) rfl ?_
 refine TL.op1 (OpR.pure rfl) rfl ?_
 refine TL.nil ?_
 obtain rfl := Option.some.inj q25
 exact ⟨m23, Nat.lt_succ_self _, _, Gst.only [2, 3] rfl, (x31.fKids, x31.fItems, x31.fN), rfl, i26⟩
noncomputable def tree_Of_int (a0 : List Int) : Option tree_Tree_int :=
  bnd (tree_leaves_int a0) fun x2 =>
  bnd (tree_above_int x2) fun x3 =>
  some x3
set_option maxHeartbeats 4000000 in
theorem tree_Of_int_c {a0 : List Int} {res : tree_Tree_int} (h0 : tree_Of_int a0 = some res) : CallF X 12 [.sl 1 (List.map (eI .i64) a0)] [] (fun x => .agg [(eOP res.fRoot)]) (fun x => []) := by
 unfold tree_Of_int at h0
 refine CallF.mkG (X := X) rfl Try.func12 rfl rfl Try.ntmps12 rfl rfl ?_
 refine T.seq ?_
 refine T.region ?_
 refine TL.op (OpR.alloc rfl rfl (fun _ => rfl)) rfl (fun p1 => ?_)
 refine TL.nil ?_
 show T X _ _ _
 refine T.seq ?_
 refine T.region ?_
 refine TL.op1 (OpR.pure rfl) rfl ?_
 obtain ⟨x2, hx2, h0⟩ := bnd_some h0
 refine TL.op1 (OpR.call0 fn44 (tree_leaves_int_c hx2) rfl) rfl ?_
 obtain ⟨x3, hx3, h0⟩ := bnd_some h0
 refine TL.op1 (OpR.call0 fn43 (tree_above_int_c hx3) rfl) rfl ?_
 refine TL.op0 (OpR.store 0 rfl rfl rfl rfl rfl rfl rfl rfl) ?_
 refine TL.nil ?_
 show T X _ _ _
 refine T.ret ?_
 obtain rfl := Option.some.inj h0
 exact PostG.retP (ks := []) (Gst.only [2] rfl) undef (ResL.cons (ResV.var 0 rfl rfl rfl rfl) ResL.nil) rfl rfl rfl rfl
noncomputable def tree_Tree_int_Len (a0 : tree_Tree_int) : Option Int :=
  bnd (some a0.fRoot) fun q1 => match q1 with
    | none =>
      some 0
    | some z2 =>
      bnd (o_tree_Node_int z2) fun x3 =>
      some x3.fN
set_option maxHeartbeats 4000000 in
theorem tree_Tree_int_Len_c {a0 : tree_Tree_int} {res : Int} (h0 : tree_Tree_int_Len a0 = some res) : CallF X 45 [.agg [(eOP a0.fRoot)]] [] (fun x => .val (.int .i64 res)) (fun x => []) := by
 unfold tree_Tree_int_Len at h0
 refine CallF.mkG (X := X) rfl Try.func45 rfl rfl Try.ntmps45 rfl rfl ?_
 refine T.seq ?_
 refine T.region ?_
 refine TL.op1 (OpR.boxImm rfl rfl) rfl ?_
 refine TL.op1 (OpR.pure rfl) rfl ?_
 refine TL.nil ?_
 show T X _ _ _
 refine T.seq ?_
 refine T.seq ?_
 refine T.region ?_
 refine TL.op1 (OpR.pure rfl) rfl ?_
 obtain ⟨q1, hq1, h0⟩ := bnd_some h0
 rcases q1 with _ | z2
 · dsimp only at h0
   refine TL.op1 (OpR.cast (OpR.pure rfl) (congrArg eOP (Option.some.inj hq1))) rfl ?_
   refine TL.op1 (OpR.ptrNil rfl rfl rfl) rfl ?_
   refine TL.nil ?_
   show T X _ _ _
   refine T.condT rfl rfl ?_
   refine T.seq ?_
   refine T.region ?_
   refine TL.op1 (OpR.pure rfl) rfl ?_
   refine TL.nil ?_
   show T X _ _ _
   refine T.ret ?_
   obtain rfl := Option.some.inj h0
   exact PostG.retP (ks := []) (Gst.only [2] rfl) undef (ResL.cons (ResV.tmp rfl) ResL.nil) rfl rfl rfl rfl
 dsimp only at h0
 obtain ⟨x3, hx3, h0⟩ := bnd_some h0
 rw [o_tree_Node_int_eq hx3] at hq1
 refine TL.op1 (OpR.cast (OpR.pure rfl) (congrArg eOP (Option.some.inj hq1))) rfl ?_
 refine TL.op1 (OpR.nodNil rfl rfl rfl) rfl ?_
 refine TL.nil ?_
 show T X _ _ _
 refine T.condF rfl rfl ?_
 refine T.skip ?_
 show T X _ _ _
 refine T.seq ?_
 refine T.region ?_
 refine TL.op1 (OpR.pure rfl) rfl ?_
 refine TL.op1 (OpR.cast (OpR.pure rfl) (congrArg eOP (Option.some.inj hq1))) rfl ?_
 refine TL.op1 (OpR.pure rfl) rfl ?_
 refine TL.op1 (OpR.pure rfl) rfl ?_
 refine TL.op1 (OpR.pure rfl) rfl ?_
 refine TL.op1 (OpR.pure rfl) rfl ?_
 refine TL.nil ?_
 show T X _ _ _
 refine T.ret ?_
 obtain rfl := Option.some.inj h0
 exact PostG.retP (ks := []) (Gst.only [2] rfl) undef (ResL.cons (ResV.tmp rfl) ResL.nil) rfl rfl rfl rfl
noncomputable def tree_Tree_int_Root (a0 : tree_Tree_int) : Option (Unit ⊕ ((List NP) × (List Int) × Int)) :=
  bnd (some a0.fRoot) fun q1 => match q1 with
    | none =>
      some (Sum.inl ())
    | some z2 =>
      bnd (o_tree_Node_int z2) fun x3 =>
      some (Sum.inr (x3.fKids, x3.fItems, x3.fN))
set_option maxHeartbeats 4000000 in
theorem tree_Tree_int_Root_c {a0 : tree_Tree_int} {res : Unit ⊕ ((List NP) × (List Int) × Int)} (h0 : tree_Tree_int_Root a0 = some res) : CallF X 46 [.agg [(eOP a0.fRoot)]] [] (fun x => (match res with | .inl res => .val (.pointer none) | .inr res => .nod [.sl 1 (List.map eNP res.1), .sl 1 (List.map (eI .i64) res.2.1), .val (.int .i64 res.2.2)])) (fun x => (match res with | .inl res => [] | .inr res => [])) := by
 unfold tree_Tree_int_Root at h0
 refine CallF.mkG (X := X) rfl Try.func46 rfl rfl Try.ntmps46 rfl rfl ?_
 refine T.seq ?_
 refine T.region ?_
 refine TL.op1 (OpR.boxImm rfl rfl) rfl ?_
 refine TL.op1 (OpR.pure rfl) rfl ?_
 refine TL.nil ?_
 show T X _ _ _
 refine T.seq ?_
 refine T.region ?_
 refine TL.op1 (OpR.pure rfl) rfl ?_
 obtain ⟨q1, hq1, h0⟩ := bnd_some h0
 rcases q1 with _ | z2
 · dsimp only at h0
   refine TL.op1 (OpR.cast (OpR.pure rfl) (congrArg eOP (Option.some.inj hq1))) rfl ?_
   refine TL.op1 (OpR.pure rfl) rfl ?_
   refine TL.nil ?_
   show T X _ _ _
   refine T.ret ?_
   obtain rfl := Option.some.inj h0
   exact PostG.retP (ks := []) (Gst.only [2] rfl) undef (ResL.cons (ResV.tmp rfl) ResL.nil) rfl rfl rfl rfl
 dsimp only at h0
 obtain ⟨x3, hx3, h0⟩ := bnd_some h0
 rw [o_tree_Node_int_eq hx3] at hq1
 refine TL.op1 (OpR.cast (OpR.pure rfl) (congrArg eOP (Option.some.inj hq1))) rfl ?_
 refine TL.op1 (OpR.pure rfl) rfl ?_
 refine TL.nil ?_
 show T X _ _ _
 refine T.ret ?_
 obtain rfl := Option.some.inj h0
 exact PostG.retP (ks := []) (Gst.only [2] rfl) undef (ResL.cons (ResV.tmp rfl) ResL.nil) rfl rfl rfl rfl
theorem tree_Tree_int_Root_cx1 {a0 : tree_Tree_int} {res : Unit} (h0 : tree_Tree_int_Root a0 = some (Sum.inl res)) : CallF X 46 [.agg [(eOP a0.fRoot)]] [] (fun x => .val (.pointer none)) (fun x => []) := tree_Tree_int_Root_c h0
theorem tree_Tree_int_Root_cx2 {a0 : tree_Tree_int} {res : (List NP) × (List Int) × Int} (h0 : tree_Tree_int_Root a0 = some (Sum.inr res)) : CallF X 46 [.agg [(eOP a0.fRoot)]] [] (fun x => .nod [.sl 1 (List.map eNP res.1), .sl 1 (List.map (eI .i64) res.2.1), .val (.int .i64 res.2.2)]) (fun x => []) := tree_Tree_int_Root_c h0
noncomputable def tree_height_int_nil.l1 (s2 : Unit) : Option (Lp Unit Unit) :=
  some (Lp.done ())
noncomputable def tree_height_int_nil : Option Int :=
  bnd (loop tree_height_int_nil.l1 () : Option Unit) fun t1 =>
  some 0
set_option maxHeartbeats 4000000 in
theorem tree_height_int_nil_c {res : Int} (h0 : tree_height_int_nil = some res) : CallF X 77 [.val (.pointer none)] [] (fun x => .val (.int .i64 res)) (fun x => []) := by
 unfold tree_height_int_nil at h0
 refine CallF.mkG (X := X) rfl Try.func77 rfl rfl Try.ntmps77 rfl rfl ?_
 refine T.seq ?_
 refine T.region ?_
 refine TL.op1 (OpR.pure rfl) rfl ?_
 refine TL.nil ?_
 show T X _ _ _
 refine T.seq ?_
 refine T.region ?_
 refine TL.op1 (OpR.pure rfl) rfl ?_
 refine TL.nil ?_
 show T X _ _ _
 refine T.seq ?_
 obtain ⟨t1, ht1, h0⟩ := bnd_some h0
 refine T.cutC (fun S' => S' = ⟨[(3, .val (.int .i64 0)), (2, .val (.int .i64 0))], [], 17⟩) (fun _ h => h) ?_ ?_
 rotate_left
 · rintro _ rfl
   show T X _ _ _
   refine T.seq ?_
   refine T.region ?_
   refine TL.op1 (OpR.pure rfl) rfl ?_
   refine TL.op1 (OpR.pure rfl) rfl ?_
   refine TL.nil ?_
   show T X _ _ _
   refine T.ret ?_
   obtain rfl := Option.some.inj h0
   exact PostG.retP (ks := []) (Gst.only [2] rfl) undef (ResL.cons (ResV.tmp rfl) ResL.nil) rfl rfl rfl rfl
 refine T.block ?_
 obtain ⟨n3, n8⟩ := loop_some ht1
 refine T.loop (fun n S' => ∃ S'', Gst S' S'' ∧ ∃ s2 : Unit, S'' = ⟨[(3, .val (.int .i64 0)), (2, .val (.int .i64 0)), (0, .val (.pointer none))], [], 17⟩ ∧ iter tree_height_int_nil.l1 n s2 = some t1) n3 ?_ ?_
 · exact ⟨_, Gst.only [0, 2, 3] rfl, (), rfl, n8⟩
 rintro n3 _ ⟨_, g, s2, rfl, i7⟩
 refine T.ghost g ?_
 obtain ⟨m4, q5, rfl, q6, i7⟩ := iter_succ i7
 unfold tree_height_int_nil.l1 at q6
 refine T.seq ?_
 refine T.seq ?_
 refine T.region ?_
 refine TL.op1 (OpR.pure rfl) rfl ?_
 refine TL.op1 (OpR.ptrNe rfl rfl rfl) rfl ?_
 refine TL.nil ?_
 show T X _ _ _
 refine T.condF rfl rfl ?_
 refine T.exit ?_
 obtain rfl := Option.some.inj q6
 obtain rfl : _ = _ := i7
 exact ⟨_, Gst.only [2, 3] rfl, rfl⟩
noncomputable def tree_Node_int_flat (a0 : List NP) (a1 : List Int) (a2 : Int) : Option Bool :=
  some ((a0.length : Int) == 0)
set_option maxHeartbeats 4000000 in
theorem tree_Node_int_flat_c {a0 : List NP} {a1 : List Int} {a2 : Int} {res : Bool} (h0 : tree_Node_int_flat a0 a1 a2 = some res) : CallF X 82 [.nod [.sl 1 (List.map eNP a0), .sl 1 (List.map (eI .i64) a1), .val (.int .i64 a2)]] [] (fun x => .val (.bool res)) (fun x => []) := by
 unfold tree_Node_int_flat at h0
 refine CallF.mkG (X := X) rfl Try.func82 rfl rfl Try.ntmps82 rfl rfl ?_
 refine T.seq ?_
 refine T.region ?_
 refine TL.op1 (OpR.pure rfl) rfl ?_
 refine TL.nil ?_
 show T X _ _ _
 refine T.seq ?_
 refine T.region ?_
 refine TL.op1 (OpR.pure rfl) rfl ?_
 refine TL.op1 (OpR.pure rfl) rfl ?_
 refine TL.op1 (OpR.pure rfl) rfl ?_
 refine TL.op1 (OpR.pure rfl) rfl ?_
 refine TL.op1 (OpR.cast (OpR.pure rfl) (intE (lenM _ _))) rfl ?_
 refine TL.op1 (OpR.pure rfl) rfl ?_
 refine TL.op1 (OpR.pure rfl) rfl ?_
 refine TL.nil ?_
 show T X _ _ _
 refine T.ret ?_
 obtain rfl := Option.some.inj h0
 exact PostG.retP (ks := []) (Gst.only [2] rfl) undef (ResL.cons (ResV.tmp rfl) ResL.nil) rfl rfl rfl rfl
noncomputable def tree_height_int.l1 (s2 : (List NP) × (List Int) × Int × Int) : Option (Lp ((List NP) × (List Int) × Int × Int) Int) :=
  bnd (tree_Node_int_flat s2.1 s2.2.1 s2.2.2.1) fun x10 =>
  if x10 = true then
    some (Lp.done (w64 (s2.2.2.2 + 1)))
  else
    bnd (idx s2.1 0) fun x12 =>
    bnd (o_tree_Node_int x12) fun x13 =>
    some (Lp.next (x13.fKids, x13.fItems, x13.fN, w64 (s2.2.2.2 + 1)))
noncomputable def tree_height_int (a0 : List NP) (a1 : List Int) (a2 : Int) : Option Int :=
  bnd (loop tree_height_int.l1 (a0, a1, a2, 0) : Option Int) fun t1 =>
  some t1
set_option maxHeartbeats 4000000 in
theorem tree_height_int_c {a0 : List NP} {a1 : List Int} {a2 : Int} {res : Int} (h0 : tree_height_int a0 a1 a2 = some res) : CallF X 77 [.nod [.sl 1 (List.map eNP a0), .sl 1 (List.map (eI .i64) a1), .val (.int .i64 a2)]] [] (fun x => .val (.int .i64 res)) (fun x => []) := by
 unfold tree_height_int at h0
 refine CallF.mkG (X := X) rfl Try.func77 rfl rfl Try.ntmps77 rfl rfl ?_
 refine T.seq ?_
 refine T.region ?_
 refine TL.op1 (OpR.pure rfl) rfl ?_
 refine TL.nil ?_
 show T X _ _ _
 refine T.seq ?_
 refine T.region ?_
 refine TL.op1 (OpR.pure rfl) rfl ?_
 refine TL.nil ?_
 show T X _ _ _
 refine T.seq ?_
 obtain ⟨t1, ht1, h0⟩ := bnd_some h0
 refine T.cutC (fun S' => S' = ⟨[(3, .val (.int .i64 t1)), (2, .val (.int .i64 0))], [], 17⟩) (fun _ h => h) ?_ ?_
 rotate_left
 · rintro _ rfl
   show T X _ _ _
   refine T.seq ?_
   refine T.region ?_
   refine TL.op1 (OpR.pure rfl) rfl ?_
   refine TL.op1 (OpR.pure rfl) rfl ?_
   refine TL.nil ?_
   show T X _ _ _
   refine T.ret ?_
   obtain rfl := Option.some.inj h0
   exact PostG.retP (ks := []) (Gst.only [2] rfl) undef (ResL.cons (ResV.tmp rfl) ResL.nil) rfl rfl rfl rfl
 refine T.block ?_
 obtain ⟨n3, n8⟩ := loop_some ht1
 refine T.loop (fun n S' => ∃ S'', Gst S' S'' ∧ ∃ s2 : (List NP) × (List Int) × Int × Int, S'' = ⟨[(3, .val (.int .i64 s2.2.2.2)), (2, .val (.int .i64 0)), (0, .nod [.sl 1 (List.map eNP s2.1), .sl 1 (List.map (eI .i64) s2.2.1), .val (.int .i64 s2.2.2.1)])], [], 17⟩ ∧ iter tree_height_int.l1 n s2 = some t1) n3 ?_ ?_
 · exact ⟨_, Gst.only [0, 2, 3] rfl, (a0, a1, a2, 0), rfl, n8⟩
 rintro n3 _ ⟨_, g, s2, rfl, i7⟩
 refine T.ghost g ?_
 obtain ⟨m4, q5, rfl, q6, i7⟩ := iter_succ i7
 unfold tree_height_int.l1 at q6
 refine T.seq ?_
 refine T.seq ?_
 refine T.region ?_
 refine TL.op1 (OpR.pure rfl) rfl ?_
 refine TL.op1 (OpR.nodNe rfl rfl rfl) rfl ?_
 refine TL.nil ?_
 show T X _ _ _
 refine T.condT rfl rfl ?_
 refine T.skip ?_
 show T X _ _ _
 refine T.block ?_
 refine T.seq ?_
 refine T.region ?_
 refine TL.op1 (OpR.pure rfl) rfl ?_
 refine TL.op1 (OpR.pure rfl) rfl ?_
 refine TL.op1 (OpR.pure rfl) rfl ?_
 refine TL.nil ?_
 show T X _ _ _
 refine T.seq ?_
 refine T.seq ?_
 refine T.region ?_
 refine TL.op1 (OpR.pure rfl) rfl ?_
 obtain ⟨x10, hx10, q6⟩ := bnd_some q6
 refine TL.op1 (OpR.call0 fn82 (tree_Node_int_flat_c hx10) rfl) rfl ?_
 refine TL.nil ?_
 show T X _ _ _
 rcases ite_some q6 with ⟨c11, q6⟩ | ⟨c11, q6⟩
 · refine T.condT rfl (c11) ?_
   refine T.exit ?_
   obtain rfl := Option.some.inj q6
   obtain rfl : _ = _ := i7
   exact ⟨_, Gst.only [2, 3] rfl, rfl⟩
 refine T.condF rfl (eq_false_of_ne_true c11) ?_
 refine T.skip ?_
 show T X _ _ _
 refine T.region ?_
 refine TL.op1 (OpR.pure rfl) rfl ?_
 refine TL.op1 (OpR.pure rfl) rfl ?_
 refine TL.op1 (OpR.pure rfl) rfl ?_
 refine TL.op1 (OpR.pure rfl) rfl ?_
 obtain ⟨x12, hx12, q6⟩ := bnd_some q6
 obtain ⟨x13, hx13, q6⟩ := bnd_some q6
 rw [o_tree_Node_int_eq hx13] at hx12
 refine TL.op1 (OpR.indexM eNP hx12 rfl rfl rfl rfl rfl) rfl ?_
 refine TL.op1 (OpR.pure rfl) rfl ?_
 refine TL.op1 (OpR.pure rfl) rfl ?_
 refine TL.nil ?_
 obtain rfl := Option.some.inj q6
 exact ⟨m4, Nat.lt_succ_self _, _, Gst.only [0, 2, 3] rfl, (x13.fKids, x13.fItems, x13.fN, w64 (s2.2.2.2 + 1)), rfl, i7⟩
noncomputable def tree_Tree_int_Height (a0 : tree_Tree_int) : Option Int :=
  bnd (some a0.fRoot) fun q1 => match q1 with
    | none =>
      bnd (tree_height_int_nil) fun x3 =>
      some x3
    | some z2 =>
      bnd (o_tree_Node_int z2) fun x4 =>
      bnd (tree_height_int x4.fKids x4.fItems x4.fN) fun x5 =>
      some x5
set_option maxHeartbeats 4000000 in
theorem tree_Tree_int_Height_c {a0 : tree_Tree_int} {res : Int} (h0 : tree_Tree_int_Height a0 = some res) : CallF X 47 [.agg [(eOP a0.fRoot)]] [] (fun x => .val (.int .i64 res)) (fun x => []) := by
 unfold tree_Tree_int_Height at h0
 refine CallF.mkG (X := X) rfl Try.func47 rfl rfl Try.ntmps47 rfl rfl ?_
 refine T.seq ?_
 refine T.region ?_
 refine TL.op1 (OpR.boxImm rfl rfl) rfl ?_
 refine TL.op1 (OpR.pure rfl) rfl ?_
 refine TL.nil ?_
 show T X _ _ _
 refine T.seq ?_
 refine T.region ?_
 refine TL.op1 (OpR.pure rfl) rfl ?_
 obtain ⟨q1, hq1, h0⟩ := bnd_some h0
 rcases q1 with _ | z2
 · dsimp only at h0
   refine TL.op1 (OpR.cast (OpR.pure rfl) (congrArg eOP (Option.some.inj hq1))) rfl ?_
   obtain ⟨x3, hx3, h0⟩ := bnd_some h0
   refine TL.op1 (OpR.call0 fn77 (tree_height_int_nil_c hx3) rfl) rfl ?_
   refine TL.op1 (OpR.pure rfl) rfl ?_
   refine TL.nil ?_
   show T X _ _ _
   refine T.ret ?_
   obtain rfl := Option.some.inj h0
   exact PostG.retP (ks := []) (Gst.only [2] rfl) undef (ResL.cons (ResV.tmp rfl) ResL.nil) rfl rfl rfl rfl
 dsimp only at h0
 obtain ⟨x4, hx4, h0⟩ := bnd_some h0
 rw [o_tree_Node_int_eq hx4] at hq1
 refine TL.op1 (OpR.cast (OpR.pure rfl) (congrArg eOP (Option.some.inj hq1))) rfl ?_
 obtain ⟨x5, hx5, h0⟩ := bnd_some h0
 refine TL.op1 (OpR.call0 fn77 (tree_height_int_c hx5) rfl) rfl ?_
 refine TL.op1 (OpR.pure rfl) rfl ?_
 refine TL.nil ?_
 show T X _ _ _
 refine T.ret ?_
 obtain rfl := Option.some.inj h0
 exact PostG.retP (ks := []) (Gst.only [2] rfl) undef (ResL.cons (ResV.tmp rfl) ResL.nil) rfl rfl rfl rfl
noncomputable def slices_Grow_int_int (a0 : Int) : Option (List Int) :=
  if a0 < 0 then
    none
  else
    bnd (if (w64 (a0 - 0)) > 0 then
      bnd (mkg 8 (w64 (a0 - 0))) fun x5 =>
      some []
    else
      some [] : Option (List Int)) fun t2 =>
    some t2
set_option maxHeartbeats 4000000 in
theorem slices_Grow_int_int_c {a0 : Int} {res : (List Int)} (h0 : slices_Grow_int_int a0 = some res) : CallF X 109 [.val (.slice none 0 0), .val (.int .i64 a0)] [] (fun x => .val (vn x 0)) (fun x => [.row (vn x 0) (List.map (eI .i64) res) 1 3]) := by
 unfold slices_Grow_int_int at h0
 refine CallF.mkG (X := X) rfl Try.func109 rfl rfl Try.ntmps109 rfl rfl ?_
 refine T.seq ?_
 refine T.region ?_
 refine TL.op1 (OpR.pure rfl) rfl ?_
 refine TL.nil ?_
 show T X _ _ _
 refine T.seq ?_
 refine T.seq ?_
 refine T.region ?_
 refine TL.op1 (OpR.pure rfl) rfl ?_
 refine TL.op1 (OpR.pure rfl) rfl ?_
 refine TL.nil ?_
 show T X _ _ _
 rcases ite_some h0 with ⟨c1, h0⟩ | ⟨c1, h0⟩
 · refine T.condT rfl (decide_eq_true c1) ?_
   cases h0
 refine T.condF rfl (decide_eq_false c1) ?_
 refine T.skip ?_
 show T X _ _ _
 refine T.seq ?_
 refine T.seq ?_
 refine T.region ?_
 refine TL.op1 (OpR.pure rfl) rfl ?_
 refine TL.op1 (OpR.pure rfl) rfl ?_
 refine TL.op1 (OpR.capNil rfl rfl rfl) rfl ?_
 refine TL.op1 (OpR.pure rfl) rfl ?_
 refine TL.op1 (OpR.pure rfl) rfl ?_
 refine TL.op1 (OpR.cast (OpR.pure rfl) (intE (show w64 (0 - 0) = 0 by decide))) rfl ?_
 refine TL.op1 (OpR.pure rfl) rfl ?_
 refine TL.op1 (OpR.pure rfl) rfl ?_
 refine TL.nil ?_
 show T X _ _ _
 refine T.seq ?_
 refine T.region ?_
 refine TL.op1 (OpR.pure rfl) rfl ?_
 refine TL.op1 (OpR.pure rfl) rfl ?_
 refine TL.nil ?_
 show T X _ _ _
 obtain ⟨t2, ht2, h0⟩ := bnd_some h0
 refine T.cutC (fun S' => ∃ y3 : Value, S' = ⟨[(4, .val (.slice none 0 0)), (0, .val y3)], [.row y3 (List.map (eI .i64) t2) 1 3], 27⟩) (fun _ h => h) ?_ ?_
 rotate_left
 · rintro _ ⟨y3, rfl⟩
   show T X _ _ _
   refine T.seq ?_
   refine T.region ?_
   refine TL.op1 (OpR.pure rfl) rfl ?_
   refine TL.op1 (OpR.pure rfl) rfl ?_
   refine TL.nil ?_
   show T X _ _ _
   refine T.ret ?_
   obtain rfl := Option.some.inj h0
   exact PostG.retP (ks := [0]) (Gst.only [4] rfl) (.tuple #[y3]) (ResL.cons (ResV.tmp rfl) ResL.nil) rfl rfl rfl rfl
 rcases ite_some ht2 with ⟨c4, ht2⟩ | ⟨c4, ht2⟩
 rotate_left
 · refine T.condF rfl (decide_eq_false c4) ?_
   refine T.skip ?_
   obtain rfl := Option.some.inj ht2
   exact ⟨_, Gst.trans (Gst.only [0, 4] rfl) (Gst.nilRow (ow := []) 1 3 rfl), (.slice none 0 0), rfl⟩
 refine T.condT rfl (decide_eq_true c4) ?_
 refine T.region ?_
 refine TL.op1 (OpR.pure rfl) rfl ?_
 refine TL.op1 (OpR.pure rfl) rfl ?_
 refine TL.op1 (OpR.capNil rfl rfl rfl) rfl ?_
 refine TL.op1 (OpR.sliceNil rfl rfl rfl rfl rfl) rfl ?_
 refine TL.op1 (OpR.pure rfl) rfl ?_
 obtain ⟨x5, hx5, ht2⟩ := bnd_some ht2
 refine TL.op (OpR.appendZ hx5 rfl rfl rfl rfl rfl rfl rfl rfl rfl rfl (fun _ => rfl)) rfl (fun v6 => ?_)
 refine TL.op1 (OpR.pure rfl) rfl ?_
 refine TL.op1 (OpR.pure rfl) rfl ?_
 refine TL.op1 (OpR.slice0 0 rfl rfl rfl rfl rfl rfl) rfl ?_
 refine TL.op1 (OpR.pure rfl) rfl ?_
 refine TL.nil ?_
 obtain rfl := Option.some.inj ht2
 exact ⟨_, Gst.only [0, 4] rfl, (cut0 v6), rfl⟩
noncomputable def slices_Concat_int_int.l1 (a0 : List (List Int)) (s2 : Int × Int) : Option (Lp (Int × Int) Int) :=
  if s2.2 < (a0.length : Int) then
    bnd (idx a0 s2.2) fun x11 =>
    if (w64 (s2.1 + (x11.length : Int))) < 0 then
      none
    else
      some (Lp.next (w64 (s2.1 + (x11.length : Int)), w64 (s2.2 + 1)))
  else
    some (Lp.done s2.1)
noncomputable def slices_Concat_int_int.l2 (a0 : List (List Int)) (s18 : Int × (List Int)) : Option (Lp (Int × (List Int)) (List Int)) :=
  if s18.1 < (a0.length : Int) then
    bnd (idx a0 s18.1) fun x27 =>
    bnd (app 8 s18.2 x27) fun x28 =>
    some (Lp.next (w64 (s18.1 + 1), x28))
  else
    some (Lp.done s18.2)
noncomputable def slices_Concat_int_int (a0 : List (List Int)) : Option (List Int) :=
  bnd (loop (slices_Concat_int_int.l1 a0) (0, 0) : Option Int) fun t1 =>
  bnd (slices_Grow_int_int t1) fun x13 =>
  bnd (loop (slices_Concat_int_int.l2 a0) (0, x13) : Option (List Int)) fun t15 =>
  some t15
set_option maxHeartbeats 4000000 in
theorem slices_Concat_int_int_c {a0 : List (List Int)} {res : (List Int)} (h0 : slices_Concat_int_int a0 = some res) : CallF X 103 [.sl 1 (List.map e_sl22 a0)] [] (fun x => .sl 1 (List.map (eI .i64) res)) (fun x => []) := by
 unfold slices_Concat_int_int at h0
 refine CallF.mkG (X := X) rfl Try.func103 rfl rfl Try.ntmps103 rfl rfl ?_
 refine T.seq ?_
 refine T.region ?_
 refine TL.op1 (OpR.pure rfl) rfl ?_
 refine TL.nil ?_
 show T X _ _ _
 refine T.seq ?_
 refine T.region ?_
 refine TL.op1 (OpR.pure rfl) rfl ?_
 refine TL.nil ?_
 show T X _ _ _
 refine T.seq ?_
 refine T.seq ?_
 refine T.region ?_
 refine TL.op1 (OpR.pure rfl) rfl ?_
 refine TL.op1 (OpR.cast (OpR.pure rfl) (intE (lenM _ _))) rfl ?_
 refine TL.op1 (OpR.pure rfl) rfl ?_
 refine TL.nil ?_
 show T X _ _ _
 obtain ⟨t1, ht1, h0⟩ := bnd_some h0
 refine T.cutC (fun S' => S' = ⟨[(3, .val (.int .i64 t1)), (2, .val (.slice none 0 0)), (0, .sl 1 (List.map e_sl22 a0))], [], 36⟩) (fun _ h => h) ?_ ?_
 · refine T.block ?_
   obtain ⟨n3, n8⟩ := loop_some ht1
   refine T.loop (fun n S' => ∃ S'', Gst S' S'' ∧ ∃ s2 : Int × Int, S'' = ⟨[(11, .val (.int .i64 s2.2)), (10, .val (.int .i64 (a0.length : Int))), (9, .sl 1 (List.map e_sl22 a0)), (3, .val (.int .i64 s2.1)), (2, .val (.slice none 0 0)), (0, .sl 1 (List.map e_sl22 a0))], [], 36⟩ ∧ iter (slices_Concat_int_int.l1 a0) n s2 = some t1) n3 ?_ ?_
   · exact ⟨_, Gst.only [0, 2, 3, 9, 10, 11] rfl, (0, 0), rfl, n8⟩
   rintro n3 _ ⟨_, g, s2, rfl, i7⟩
   refine T.ghost g ?_
   obtain ⟨m4, q5, rfl, q6, i7⟩ := iter_succ i7
   unfold slices_Concat_int_int.l1 at q6
   refine T.seq ?_
   refine T.region ?_
   refine TL.op1 (OpR.pure rfl) rfl ?_
   refine TL.nil ?_
   show T X _ _ _
   refine T.seq ?_
   rcases ite_some q6 with ⟨c10, q6⟩ | ⟨c10, q6⟩
   rotate_left
   · refine T.condF rfl (decide_eq_false c10) ?_
     refine T.exit ?_
     obtain rfl := Option.some.inj q6
     obtain rfl : _ = _ := i7
     exact ⟨_, Gst.only [0, 2, 3] rfl, rfl⟩
   refine T.condT rfl (decide_eq_true c10) ?_
   refine T.skip ?_
   show T X _ _ _
   refine T.seq ?_
   refine T.block ?_
   refine T.seq ?_
   refine T.region ?_
   obtain ⟨x11, hx11, q6⟩ := bnd_some q6
   refine TL.op1 (OpR.indexM e_sl22 hx11 rfl rfl rfl rfl rfl) rfl ?_
   refine TL.op1 (OpR.pure rfl) rfl ?_
   refine TL.op1 (OpR.pure rfl) rfl ?_
   refine TL.nil ?_
   show T X _ _ _
   refine T.seq ?_
   refine T.region ?_
   refine TL.op1 (OpR.pure rfl) rfl ?_
   refine TL.op1 (OpR.pure rfl) rfl ?_
   refine TL.op1 (OpR.cast (OpR.pure rfl) (intE (lenM _ _))) rfl ?_
   refine TL.op1 (OpR.pure rfl) rfl ?_
   refine TL.op1 (OpR.pure rfl) rfl ?_
   refine TL.nil ?_
   show T X _ _ _
   refine T.seq ?_
   refine T.region ?_
   refine TL.op1 (OpR.pure rfl) rfl ?_
   refine TL.op1 (OpR.pure rfl) rfl ?_
   refine TL.nil ?_
   show T X _ _ _
   rcases ite_some q6 with ⟨c12, q6⟩ | ⟨c12, q6⟩
   · refine T.condT rfl (decide_eq_true c12) ?_
     cases q6
   refine T.condF rfl (decide_eq_false c12) ?_
   refine T.skip ?_
   show T X _ _ _
   refine T.region ?_
   refine TL.op1 (OpR.pure rfl) rfl ?_
   refine TL.op1 (OpR.pure rfl) rfl ?_
   refine TL.nil ?_
   obtain rfl := Option.some.inj q6
   exact ⟨m4, Nat.lt_succ_self _, _, Gst.only [0, 2, 3, 9, 10, 11] rfl, (w64 (s2.1 + (x11.length : Int)), w64 (s2.2 + 1)), rfl, i7⟩
 rintro _ rfl
 show T X _ _ _
 refine T.seq ?_
 refine T.region ?_
 refine TL.op1 (OpR.pure rfl) rfl ?_
 obtain ⟨x13, hx13, h0⟩ := bnd_some h0
 refine TL.op (OpR.call [] fn109 (slices_Grow_int_int_c hx13) rfl rfl rfl (fun _ => rfl)) rfl (fun w14 => ?_)
 refine TL.op1 (OpR.pure rfl) rfl ?_
 refine TL.nil ?_
 show T X _ _ _
 refine T.seq ?_
 refine T.seq ?_
 refine T.region ?_
 refine TL.op1 (OpR.pure rfl) rfl ?_
 refine TL.op1 (OpR.cast (OpR.pure rfl) (intE (lenM _ _))) rfl ?_
 refine TL.op1 (OpR.pure rfl) rfl ?_
 refine TL.nil ?_
 show T X _ _ _
 obtain ⟨t15, ht15, h0⟩ := bnd_some h0
 refine T.cutC (fun S' => ∃ y16 : Value, S' = ⟨[(6, .val y16), (2, .val (.slice none 0 0))], [.row y16 (List.map (eI .i64) t15) 1 3], 36⟩) (fun _ h => h) ?_ ?_
 rotate_left
 · rintro _ ⟨y16, rfl⟩
   show T X _ _ _
   refine T.seq ?_
   refine T.region ?_
   refine TL.op1 (OpR.pure rfl) rfl ?_
   refine TL.op1 (OpR.pure rfl) rfl ?_
   refine TL.nil ?_
   show T X _ _ _
   refine T.ret ?_
   obtain rfl := Option.some.inj h0
   exact PostG.retP (ks := []) (Gst.trans (Gst.only [2] rfl) (Gst.trans (Gst.freezeRow 0 rfl rfl (ReS.cons (Re.base .all) ReS.nil) (ReO.same ReO.nil)) (Gst.pick [] rfl rfl))) undef (ResL.cons (ResV.tmp rfl) ResL.nil) rfl rfl rfl rfl
 refine T.block ?_
 obtain ⟨n19, n24⟩ := loop_some ht15
 refine T.loop (fun n S' => ∃ S'', Gst S' S'' ∧ ∃ y17 : Value, ∃ s18 : Int × (List Int), S'' = ⟨[(27, .val (.int .i64 s18.1)), (26, .val (.int .i64 (a0.length : Int))), (25, .sl 1 (List.map e_sl22 a0)), (6, .val y17), (2, .val (.slice none 0 0))], [.row y17 (List.map (eI .i64) s18.2) 1 3], 36⟩ ∧ iter (slices_Concat_int_int.l2 a0) n s18 = some t15) n19 ?_ ?_
 · exact ⟨_, Gst.only [2, 6, 25, 26, 27] rfl, (vn w14 0), (0, x13), rfl, n24⟩
 rintro n19 _ ⟨_, g, y17, s18, rfl, i23⟩
 refine T.ghost g ?_
 obtain ⟨m20, q21, rfl, q22, i23⟩ := iter_succ i23
 unfold slices_Concat_int_int.l2 at q22
 refine T.seq ?_
 refine T.region ?_
 refine TL.op1 (OpR.pure rfl) rfl ?_
 refine TL.nil ?_
 show T X _ _ _
 refine T.seq ?_
 rcases ite_some q22 with ⟨c26, q22⟩ | ⟨c26, q22⟩
 rotate_left
 · refine T.condF rfl (decide_eq_false c26) ?_
   refine T.exit ?_
   obtain rfl := Option.some.inj q22
   obtain rfl : _ = _ := i23
   exact ⟨_, Gst.only [2, 6] rfl, y17, rfl⟩
 refine T.condT rfl (decide_eq_true c26) ?_
 refine T.skip ?_
 show T X _ _ _
 refine T.seq ?_
 refine T.block ?_
 refine T.seq ?_
 refine T.region ?_
 obtain ⟨x27, hx27, q22⟩ := bnd_some q22
 refine TL.op1 (OpR.indexM e_sl22 hx27 rfl rfl rfl rfl rfl) rfl ?_
 refine TL.op1 (OpR.pure rfl) rfl ?_
 refine TL.op1 (OpR.pure rfl) rfl ?_
 refine TL.nil ?_
 show T X _ _ _
 refine T.region ?_
 refine TL.op1 (OpR.pure rfl) rfl ?_
 refine TL.op1 (OpR.pure rfl) rfl ?_
 obtain ⟨x28, hx28, q22⟩ := bnd_some q22
 refine TL.op (OpR.appendM (m := x27) (eI .i64) 0 hx28 rfl rfl rfl rfl rfl rfl rfl rfl rfl (fun _ => rfl)) rfl (fun v29 => ?_)
 refine TL.op1 (OpR.pure rfl) rfl ?_
 refine TL.nil ?_
 show T X _ _ _
 refine T.region ?_
 refine TL.op1 (OpR.pure rfl) rfl ?_
 refine TL.op1 (OpR.pure rfl) rfl ?_
 refine TL.nil ?_
 obtain rfl := Option.some.inj q22
 exact ⟨m20, Nat.lt_succ_self _, _, Gst.only [2, 6, 25, 26, 27] rfl, v29, (w64 (s18.1 + 1), x28), rfl, i23⟩
noncomputable def tree_Node_int_kid.l1 (a0 : List NP) (s2 : Int × Int) : Option (Lp (Int × Int) (Int × Int)) :=
  bnd (if s2.2 < (w64 ((a0.length : Int) - 1)) then
    bnd (idx a0 s2.2) fun x12 =>
    bnd (o_tree_Node_int x12) fun x13 =>
    some (decide (s2.1 ≥ x13.fN))
  else
    some false : Option Bool) fun t10 =>
  if t10 = true then
    bnd (idx a0 s2.2) fun x15 =>
    bnd (o_tree_Node_int x15) fun x16 =>
    some (Lp.next (w64 (s2.1 - x16.fN), w64 (s2.2 + 1)))
  else
    some (Lp.done (s2.1, s2.2))
noncomputable def tree_Node_int_kid (a0 : List NP) (a1 : List Int) (a2 : Int) (a3 : Int) : Option (Int × Int) :=
  bnd (loop (tree_Node_int_kid.l1 a0) (a3, 0) : Option (Int × Int)) fun t1 =>
  some (t1.2, t1.1)
set_option maxHeartbeats 4000000 in
theorem tree_Node_int_kid_c {a0 : List NP} {a1 : List Int} {a2 : Int} {a3 : Int} {res : Int × Int} (h0 : tree_Node_int_kid a0 a1 a2 a3 = some res) : CallF X 83 [.nod [.sl 1 (List.map eNP a0), .sl 1 (List.map (eI .i64) a1), .val (.int .i64 a2)], .val (.int .i64 a3)] [] (fun x => .tup [.val (.int .i64 res.1), .val (.int .i64 res.2)]) (fun x => []) := by
 unfold tree_Node_int_kid at h0
 refine CallF.mkG (X := X) rfl Try.func83 rfl rfl Try.ntmps83 rfl rfl ?_
 refine T.seq ?_
 refine T.region ?_
 refine TL.op1 (OpR.pure rfl) rfl ?_
 refine TL.op1 (OpR.pure rfl) rfl ?_
 refine TL.nil ?_
 show T X _ _ _
 refine T.seq ?_
 refine T.region ?_
 refine TL.op1 (OpR.pure rfl) rfl ?_
 refine TL.nil ?_
 show T X _ _ _
 refine T.seq ?_
 obtain ⟨t1, ht1, h0⟩ := bnd_some h0
 refine T.cutC (fun S' => S' = ⟨[(6, .val (.int .i64 t1.2)), (5, .val (.int .i64 0)), (4, .val (.int .i64 0)), (1, .val (.int .i64 t1.1))], [], 45⟩) (fun _ h => h) ?_ ?_
 rotate_left
 · rintro _ rfl
   show T X _ _ _
   refine T.seq ?_
   refine T.region ?_
   refine TL.op1 (OpR.pure rfl) rfl ?_
   refine TL.op1 (OpR.pure rfl) rfl ?_
   refine TL.op1 (OpR.pure rfl) rfl ?_
   refine TL.op1 (OpR.pure rfl) rfl ?_
   refine TL.nil ?_
   show T X _ _ _
   refine T.ret ?_
   obtain rfl := Option.some.inj h0
   exact PostG.retP (ks := []) (Gst.only [4, 5] rfl) undef (ResL.cons (ResV.tmp rfl) (ResL.cons (ResV.tmp rfl) ResL.nil)) rfl rfl rfl rfl
 refine T.block ?_
 obtain ⟨n3, n8⟩ := loop_some ht1
 refine T.loop (fun n S' => ∃ S'', Gst S' S'' ∧ ∃ s2 : Int × Int, S'' = ⟨[(6, .val (.int .i64 s2.2)), (5, .val (.int .i64 0)), (4, .val (.int .i64 0)), (1, .val (.int .i64 s2.1)), (0, .nod [.sl 1 (List.map eNP a0), .sl 1 (List.map (eI .i64) a1), .val (.int .i64 a2)])], [], 45⟩ ∧ iter (tree_Node_int_kid.l1 a0) n s2 = some t1) n3 ?_ ?_
 · exact ⟨_, Gst.only [0, 1, 4, 5, 6] rfl, (a3, 0), rfl, n8⟩
 rintro n3 _ ⟨_, g, s2, rfl, i7⟩
 refine T.ghost g ?_
 obtain ⟨m4, q5, rfl, q6, i7⟩ := iter_succ i7
 unfold tree_Node_int_kid.l1 at q6
 refine T.seq ?_
 refine T.seq ?_
 obtain ⟨t10, ht10, q6⟩ := bnd_some q6
 refine T.cutC (fun S' => S' = ⟨[(28, .val (.bool t10)), (6, .val (.int .i64 s2.2)), (5, .val (.int .i64 0)), (4, .val (.int .i64 0)), (1, .val (.int .i64 s2.1)), (0, .nod [.sl 1 (List.map eNP a0), .sl 1 (List.map (eI .i64) a1), .val (.int .i64 a2)])], [], 45⟩) (fun _ h => h) ?_ ?_
 rotate_left
 · rintro _ rfl
   show T X _ _ _
   rcases ite_some q6 with ⟨c14, q6⟩ | ⟨c14, q6⟩
   rotate_left
   · refine T.condF rfl (eq_false_of_ne_true c14) ?_
     refine T.exit ?_
     obtain rfl := Option.some.inj q6
     obtain rfl : _ = _ := i7
     exact ⟨_, Gst.only [1, 4, 5, 6] rfl, rfl⟩
   refine T.condT rfl (c14) ?_
   refine T.skip ?_
   show T X _ _ _
   refine T.block ?_
   refine T.seq ?_
   refine T.region ?_
   refine TL.op1 (OpR.pure rfl) rfl ?_
   refine TL.op1 (OpR.pure rfl) rfl ?_
   refine TL.op1 (OpR.pure rfl) rfl ?_
   refine TL.op1 (OpR.pure rfl) rfl ?_
   refine TL.op1 (OpR.pure rfl) rfl ?_
   refine TL.op1 (OpR.pure rfl) rfl ?_
   obtain ⟨x15, hx15, q6⟩ := bnd_some q6
   obtain ⟨x16, hx16, q6⟩ := bnd_some q6
   rw [o_tree_Node_int_eq hx16] at hx15
   refine TL.op1 (OpR.indexM eNP hx15 rfl rfl rfl rfl rfl) rfl ?_
   refine TL.op1 (OpR.pure rfl) rfl ?_
   refine TL.op1 (OpR.pure rfl) rfl ?_
   refine TL.op1 (OpR.pure rfl) rfl ?_
   refine TL.op1 (OpR.pure rfl) rfl ?_
   refine TL.op1 (OpR.pure rfl) rfl ?_
   refine TL.op1 (OpR.pure rfl) rfl ?_
   refine TL.nil ?_
   show T X _ _ _
   refine T.region ?_
   refine TL.op1 (OpR.pure rfl) rfl ?_
   refine TL.op1 (OpR.pure rfl) rfl ?_
   refine TL.op1 (OpR.pure rfl) rfl ?_
   refine TL.nil ?_
   obtain rfl := Option.some.inj q6
   exact ⟨m4, Nat.lt_succ_self _, _, Gst.only [0, 1, 4, 5, 6] rfl, (w64 (s2.1 - x16.fN), w64 (s2.2 + 1)), rfl, i7⟩
 refine T.region ?_
 refine TL.op1 (OpR.pure rfl) rfl ?_
 refine TL.op1 (OpR.pure rfl) rfl ?_
 refine TL.op1 (OpR.pure rfl) rfl ?_
 refine TL.op1 (OpR.pure rfl) rfl ?_
 refine TL.op1 (OpR.pure rfl) rfl ?_
 refine TL.op1 (OpR.cast (OpR.pure rfl) (intE (lenM _ _))) rfl ?_
 refine TL.op1 (OpR.pure rfl) rfl ?_
 refine TL.op1 (OpR.pure rfl) rfl ?_
 refine TL.op1 (OpR.pure rfl) rfl ?_
 rcases ite_some ht10 with ⟨c11, ht10⟩ | ⟨c11, ht10⟩
 rotate_left
 · refine TL.off rfl rfl rfl rfl (decide_eq_false c11) rfl rfl ?_
   refine TL.off rfl rfl rfl rfl (decide_eq_false c11) rfl rfl ?_
   refine TL.off rfl rfl rfl rfl (decide_eq_false c11) rfl rfl ?_
   refine TL.off rfl rfl rfl rfl (decide_eq_false c11) rfl rfl ?_
   refine TL.off rfl rfl rfl rfl (decide_eq_false c11) rfl rfl ?_
   refine TL.off rfl rfl rfl rfl (decide_eq_false c11) rfl rfl ?_
   refine TL.off rfl rfl rfl rfl (decide_eq_false c11) rfl rfl ?_
   refine TL.off rfl rfl rfl rfl (decide_eq_false c11) rfl rfl ?_
   refine TL.off rfl rfl rfl rfl (decide_eq_false c11) rfl rfl ?_
   refine TL.off rfl rfl rfl rfl (decide_eq_false c11) rfl rfl ?_
   refine TL.off rfl rfl rfl rfl (decide_eq_false c11) rfl rfl ?_
   refine TL.off rfl rfl rfl rfl (decide_eq_false c11) rfl rfl ?_
   refine TL.op1 (OpR.pickF rfl (decide_eq_false c11) rfl) rfl ?_
   refine TL.nil ?_
   obtain rfl := Option.some.inj ht10
   exact ⟨_, Gst.only [0, 1, 4, 5, 6, 28] rfl, rfl⟩
 refine TL.on rfl rfl rfl rfl (decide_eq_true c11) ?_
 refine TL.op1 (OpR.pure rfl) rfl ?_
 refine TL.on rfl rfl rfl rfl (decide_eq_true c11) ?_
 refine TL.op1 (OpR.pure rfl) rfl ?_
 refine TL.on rfl rfl rfl rfl (decide_eq_true c11) ?_
 refine TL.op1 (OpR.pure rfl) rfl ?_
 refine TL.on rfl rfl rfl rfl (decide_eq_true c11) ?_
 refine TL.op1 (OpR.pure rfl) rfl ?_
 refine TL.on rfl rfl rfl rfl (decide_eq_true c11) ?_
 refine TL.op1 (OpR.pure rfl) rfl ?_
 refine TL.on rfl rfl rfl rfl (decide_eq_true c11) ?_
 refine TL.op1 (OpR.pure rfl) rfl ?_
 refine TL.on rfl rfl rfl rfl (decide_eq_true c11) ?_
 obtain ⟨x12, hx12, ht10⟩ := bnd_some ht10
 obtain ⟨x13, hx13, ht10⟩ := bnd_some ht10
 rw [o_tree_Node_int_eq hx13] at hx12
 refine TL.op1 (OpR.indexM eNP hx12 rfl rfl rfl rfl rfl) rfl ?_
 refine TL.on rfl rfl rfl rfl (decide_eq_true c11) ?_
 refine TL.op1 (OpR.pure rfl) rfl ?_
 refine TL.on rfl rfl rfl rfl (decide_eq_true c11) ?_
 refine TL.op1 (OpR.pure rfl) rfl ?_
 refine TL.on rfl rfl rfl rfl (decide_eq_true c11) ?_
 refine TL.op1 (OpR.pure rfl) rfl ?_
 refine TL.on rfl rfl rfl rfl (decide_eq_true c11) ?_
 refine TL.op1 (OpR.pure rfl) rfl ?_
 refine TL.on rfl rfl rfl rfl (decide_eq_true c11) ?_
 refine TL.op1 (OpR.pure rfl) rfl ?_
 refine TL.op1 (OpR.pickT rfl (decide_eq_true c11) rfl) rfl ?_
 refine TL.nil ?_
 obtain rfl := Option.some.inj ht10
 exact ⟨_, Gst.only [0, 1, 4, 5, 6, 28] rfl, rfl⟩
noncomputable def slices_Grow_tree_Node_int_tree_Node_int (a0 : Int) : Option (List NP) :=
  if a0 < 0 then
    none
  else
    bnd (if (w64 (a0 - 0)) > 0 then
      bnd (mkg 8 (w64 (a0 - 0))) fun x5 =>
      some []
    else
      some [] : Option (List NP)) fun t2 =>
    some t2
set_option maxHeartbeats 4000000 in
theorem slices_Grow_tree_Node_int_tree_Node_int_c {a0 : Int} {res : (List NP)} (h0 : slices_Grow_tree_Node_int_tree_Node_int a0 = some res) : CallF X 108 [.val (.slice none 0 0), .val (.int .i64 a0)] [] (fun x => .val (vn x 0)) (fun x => [.row (vn x 0) (List.map eNP res) 1 25]) := by
 unfold slices_Grow_tree_Node_int_tree_Node_int at h0
 refine CallF.mkG (X := X) rfl Try.func108 rfl rfl Try.ntmps108 rfl rfl ?_
 refine T.seq ?_
 refine T.region ?_
 refine TL.op1 (OpR.pure rfl) rfl ?_
 refine TL.nil ?_
 show T X _ _ _
 refine T.seq ?_
 refine T.seq ?_
 refine T.region ?_
 refine TL.op1 (OpR.pure rfl) rfl ?_
 refine TL.op1 (OpR.pure rfl) rfl ?_
 refine TL.nil ?_
 show T X _ _ _
 rcases ite_some h0 with ⟨c1, h0⟩ | ⟨c1, h0⟩
 · refine T.condT rfl (decide_eq_true c1) ?_
   cases h0
 refine T.condF rfl (decide_eq_false c1) ?_
 refine T.skip ?_
 show T X _ _ _
 refine T.seq ?_
 refine T.seq ?_
 refine T.region ?_
 refine TL.op1 (OpR.pure rfl) rfl ?_
 refine TL.op1 (OpR.pure rfl) rfl ?_
 refine TL.op1 (OpR.capNil rfl rfl rfl) rfl ?_
 refine TL.op1 (OpR.pure rfl) rfl ?_
 refine TL.op1 (OpR.pure rfl) rfl ?_
 refine TL.op1 (OpR.cast (OpR.pure rfl) (intE (show w64 (0 - 0) = 0 by decide))) rfl ?_
 refine TL.op1 (OpR.pure rfl) rfl ?_
 refine TL.op1 (OpR.pure rfl) rfl ?_
 refine TL.nil ?_
 show T X _ _ _
 refine T.seq ?_
 refine T.region ?_
 refine TL.op1 (OpR.pure rfl) rfl ?_
 refine TL.op1 (OpR.pure rfl) rfl ?_
 refine TL.nil ?_
 show T X _ _ _
 obtain ⟨t2, ht2, h0⟩ := bnd_some h0
 refine T.cutC (fun S' => ∃ y3 : Value, S' = ⟨[(4, .val (.slice none 0 0)), (0, .val y3)], [.row y3 (List.map eNP t2) 1 25], 27⟩) (fun _ h => h) ?_ ?_
 rotate_left
 · rintro _ ⟨y3, rfl⟩
   show T X _ _ _
   refine T.seq ?_
   refine T.region ?_
   refine TL.op1 (OpR.pure rfl) rfl ?_
   refine TL.op1 (OpR.pure rfl) rfl ?_
   refine TL.nil ?_
   show T X _ _ _
   refine T.ret ?_
   obtain rfl := Option.some.inj h0
   exact PostG.retP (ks := [0]) (Gst.only [4] rfl) (.tuple #[y3]) (ResL.cons (ResV.tmp rfl) ResL.nil) rfl rfl rfl rfl
 rcases ite_some ht2 with ⟨c4, ht2⟩ | ⟨c4, ht2⟩
 rotate_left
 · refine T.condF rfl (decide_eq_false c4) ?_
   refine T.skip ?_
   obtain rfl := Option.some.inj ht2
   exact ⟨_, Gst.trans (Gst.only [0, 4] rfl) (Gst.nilRow (ow := []) 1 25 rfl), (.slice none 0 0), rfl⟩
 refine T.condT rfl (decide_eq_true c4) ?_
 refine T.region ?_
 refine TL.op1 (OpR.pure rfl) rfl ?_
 refine TL.op1 (OpR.pure rfl) rfl ?_
 refine TL.op1 (OpR.capNil rfl rfl rfl) rfl ?_
 refine TL.op1 (OpR.sliceNil rfl rfl rfl rfl rfl) rfl ?_
 refine TL.op1 (OpR.pure rfl) rfl ?_
 obtain ⟨x5, hx5, ht2⟩ := bnd_some ht2
 refine TL.op (OpR.appendZ hx5 rfl rfl rfl rfl rfl rfl rfl rfl rfl rfl (fun _ => rfl)) rfl (fun v6 => ?_)
 refine TL.op1 (OpR.pure rfl) rfl ?_
 refine TL.op1 (OpR.pure rfl) rfl ?_
 refine TL.op1 (OpR.slice0 0 rfl rfl rfl rfl rfl rfl) rfl ?_
 refine TL.op1 (OpR.pure rfl) rfl ?_
 refine TL.nil ?_
 obtain rfl := Option.some.inj ht2
 exact ⟨_, Gst.only [0, 4] rfl, (cut0 v6), rfl⟩
noncomputable def slices_Concat_tree_Node_int_tree_Node_int.l1 (a0 : List (List NP)) (s2 : Int × Int) : Option (Lp (Int × Int) Int) :=
  if s2.2 < (a0.length : Int) then
    bnd (idx a0 s2.2) fun x11 =>
    if (w64 (s2.1 + (x11.length : Int))) < 0 then
      none
    else
      some (Lp.next (w64 (s2.1 + (x11.length : Int)), w64 (s2.2 + 1)))
  else
    some (Lp.done s2.1)
noncomputable def slices_Concat_tree_Node_int_tree_Node_int.l2 (a0 : List (List NP)) (s18 : Int × (List NP)) : Option (Lp (Int × (List NP)) (List NP)) :=
  if s18.1 < (a0.length : Int) then
    bnd (idx a0 s18.1) fun x27 =>
    bnd (app 8 s18.2 x27) fun x28 =>
    some (Lp.next (w64 (s18.1 + 1), x28))
  else
    some (Lp.done s18.2)
noncomputable def slices_Concat_tree_Node_int_tree_Node_int (a0 : List (List NP)) : Option (List NP) :=
  bnd (loop (slices_Concat_tree_Node_int_tree_Node_int.l1 a0) (0, 0) : Option Int) fun t1 =>
  bnd (slices_Grow_tree_Node_int_tree_Node_int t1) fun x13 =>
  bnd (loop (slices_Concat_tree_Node_int_tree_Node_int.l2 a0) (0, x13) : Option (List NP)) fun t15 =>
  some t15
set_option maxHeartbeats 4000000 in
theorem slices_Concat_tree_Node_int_tree_Node_int_c {a0 : List (List NP)} {res : (List NP)} (h0 : slices_Concat_tree_Node_int_tree_Node_int a0 = some res) : CallF X 102 [.sl 1 (List.map e_sl80 a0)] [] (fun x => .sl 1 (List.map eNP res)) (fun x => []) := by
 unfold slices_Concat_tree_Node_int_tree_Node_int at h0
 refine CallF.mkG (X := X) rfl Try.func102 rfl rfl Try.ntmps102 rfl rfl ?_
 refine T.seq ?_
 refine T.region ?_
 refine TL.op1 (OpR.pure rfl) rfl ?_
 refine TL.nil ?_
 show T X _ _ _
 refine T.seq ?_
 refine T.region ?_
 refine TL.op1 (OpR.pure rfl) rfl ?_
 refine TL.nil ?_
 show T X _ _ _
 refine T.seq ?_
 refine T.seq ?_
 refine T.region ?_
 refine TL.op1 (OpR.pure rfl) rfl ?_
 refine TL.op1 (OpR.cast (OpR.pure rfl) (intE (lenM _ _))) rfl ?_
 refine TL.op1 (OpR.pure rfl) rfl ?_
 refine TL.nil ?_
 show T X _ _ _
 obtain ⟨t1, ht1, h0⟩ := bnd_some h0
 refine T.cutC (fun S' => S' = ⟨[(3, .val (.int .i64 t1)), (2, .val (.slice none 0 0)), (0, .sl 1 (List.map e_sl80 a0))], [], 36⟩) (fun _ h => h) ?_ ?_
 · refine T.block ?_
   obtain ⟨n3, n8⟩ := loop_some ht1
   refine T.loop (fun n S' => ∃ S'', Gst S' S'' ∧ ∃ s2 : Int × Int, S'' = ⟨[(11, .val (.int .i64 s2.2)), (10, .val (.int .i64 (a0.length : Int))), (9, .sl 1 (List.map e_sl80 a0)), (3, .val (.int .i64 s2.1)), (2, .val (.slice none 0 0)), (0, .sl 1 (List.map e_sl80 a0))], [], 36⟩ ∧ iter (slices_Concat_tree_Node_int_tree_Node_int.l1 a0) n s2 = some t1) n3 ?_ ?_
   · exact ⟨_, Gst.only [0, 2, 3, 9, 10, 11] rfl, (0, 0), rfl, n8⟩
   rintro n3 _ ⟨_, g, s2, rfl, i7⟩
   refine T.ghost g ?_
   obtain ⟨m4, q5, rfl, q6, i7⟩ := iter_succ i7
   unfold slices_Concat_tree_Node_int_tree_Node_int.l1 at q6
   refine T.seq ?_
   refine T.region ?_
   refine TL.op1 (OpR.pure rfl) rfl ?_
   refine TL.nil ?_
   show T X _ _ _
   refine T.seq ?_
   rcases ite_some q6 with ⟨c10, q6⟩ | ⟨c10, q6⟩
   rotate_left
   · refine T.condF rfl (decide_eq_false c10) ?_
     refine T.exit ?_
     obtain rfl := Option.some.inj q6
     obtain rfl : _ = _ := i7
     exact ⟨_, Gst.only [0, 2, 3] rfl, rfl⟩
   refine T.condT rfl (decide_eq_true c10) ?_
   refine T.skip ?_
   show T X _ _ _
   refine T.seq ?_
   refine T.block ?_
   refine T.seq ?_
   refine T.region ?_
   obtain ⟨x11, hx11, q6⟩ := bnd_some q6
   refine TL.op1 (OpR.indexM e_sl80 hx11 rfl rfl rfl rfl rfl) rfl ?_
   refine TL.op1 (OpR.pure rfl) rfl ?_
   refine TL.op1 (OpR.pure rfl) rfl ?_
   refine TL.nil ?_
   show T X _ _ _
   refine T.seq ?_
   refine T.region ?_
   refine TL.op1 (OpR.pure rfl) rfl ?_
   refine TL.op1 (OpR.pure rfl) rfl ?_
   refine TL.op1 (OpR.cast (OpR.pure rfl) (intE (lenM _ _))) rfl ?_
   refine TL.op1 (OpR.pure rfl) rfl ?_
   refine TL.op1 (OpR.pure rfl) rfl ?_
   refine TL.nil ?_
   show T X _ _ _
   refine T.seq ?_
   refine T.region ?_
   refine TL.op1 (OpR.pure rfl) rfl ?_
   refine TL.op1 (OpR.pure rfl) rfl ?_
   refine TL.nil ?_
   show T X _ _ _
   rcases ite_some q6 with ⟨c12, q6⟩ | ⟨c12, q6⟩
   · refine T.condT rfl (decide_eq_true c12) ?_
     cases q6
   refine T.condF rfl (decide_eq_false c12) ?_
   refine T.skip ?_
   show T X _ _ _
   refine T.region ?_
   refine TL.op1 (OpR.pure rfl) rfl ?_
   refine TL.op1 (OpR.pure rfl) rfl ?_
   refine TL.nil ?_
   obtain rfl := Option.some.inj q6
   exact ⟨m4, Nat.lt_succ_self _, _, Gst.only [0, 2, 3, 9, 10, 11] rfl, (w64 (s2.1 + (x11.length : Int)), w64 (s2.2 + 1)), rfl, i7⟩
 rintro _ rfl
 show T X _ _ _
 refine T.seq ?_
 refine T.region ?_
 refine TL.op1 (OpR.pure rfl) rfl ?_
 obtain ⟨x13, hx13, h0⟩ := bnd_some h0
 refine TL.op (OpR.call [] fn108 (slices_Grow_tree_Node_int_tree_Node_int_c hx13) rfl rfl rfl (fun _ => rfl)) rfl (fun w14 => ?_)
 refine TL.op1 (OpR.pure rfl) rfl ?_
 refine TL.nil ?_
 show T X _ _ _
 refine T.seq ?_
 refine T.seq ?_
 refine T.region ?_
 refine TL.op1 (OpR.pure rfl) rfl ?_
 refine TL.op1 (OpR.cast (OpR.pure rfl) (intE (lenM _ _))) rfl ?_
 refine TL.op1 (OpR.pure rfl) rfl ?_
 refine TL.nil ?_
 show T X _ _ _
 obtain ⟨t15, ht15, h0⟩ := bnd_some h0
 refine T.cutC (fun S' => ∃ y16 : Value, S' = ⟨[(6, .val y16), (2, .val (.slice none 0 0))], [.row y16 (List.map eNP t15) 1 25], 36⟩) (fun _ h => h) ?_ ?_
 rotate_left
 · rintro _ ⟨y16, rfl⟩
   show T X _ _ _
   refine T.seq ?_
   refine T.region ?_
   refine TL.op1 (OpR.pure rfl) rfl ?_
   refine TL.op1 (OpR.pure rfl) rfl ?_
   refine TL.nil ?_
   show T X _ _ _
   refine T.ret ?_
   obtain rfl := Option.some.inj h0
   exact PostG.retP (ks := []) (Gst.trans (Gst.only [2] rfl) (Gst.trans (Gst.freezeRow 0 rfl rfl (ReS.cons (Re.base .all) ReS.nil) (ReO.same ReO.nil)) (Gst.pick [] rfl rfl))) undef (ResL.cons (ResV.tmp rfl) ResL.nil) rfl rfl rfl rfl
 refine T.block ?_
 obtain ⟨n19, n24⟩ := loop_some ht15
 refine T.loop (fun n S' => ∃ S'', Gst S' S'' ∧ ∃ y17 : Value, ∃ s18 : Int × (List NP), S'' = ⟨[(27, .val (.int .i64 s18.1)), (26, .val (.int .i64 (a0.length : Int))), (25, .sl 1 (List.map e_sl80 a0)), (6, .val y17), (2, .val (.slice none 0 0))], [.row y17 (List.map eNP s18.2) 1 25], 36⟩ ∧ iter (slices_Concat_tree_Node_int_tree_Node_int.l2 a0) n s18 = some t15) n19 ?_ ?_
 · exact ⟨_, Gst.only [2, 6, 25, 26, 27] rfl, (vn w14 0), (0, x13), rfl, n24⟩
 rintro n19 _ ⟨_, g, y17, s18, rfl, i23⟩
 refine T.ghost g ?_
 obtain ⟨m20, q21, rfl, q22, i23⟩ := iter_succ i23
 unfold slices_Concat_tree_Node_int_tree_Node_int.l2 at q22
 refine T.seq ?_
 refine T.region ?_
 refine TL.op1 (OpR.pure rfl) rfl ?_
 refine TL.nil ?_
 show T X _ _ _
 refine T.seq ?_
 rcases ite_some q22 with ⟨c26, q22⟩ | ⟨c26, q22⟩
 rotate_left
 · refine T.condF rfl (decide_eq_false c26) ?_
   refine T.exit ?_
   obtain rfl := Option.some.inj q22
   obtain rfl : _ = _ := i23
   exact ⟨_, Gst.only [2, 6] rfl, y17, rfl⟩
 refine T.condT rfl (decide_eq_true c26) ?_
 refine T.skip ?_
 show T X _ _ _
 refine T.seq ?_
 refine T.block ?_
 refine T.seq ?_
 refine T.region ?_
 obtain ⟨x27, hx27, q22⟩ := bnd_some q22
 refine TL.op1 (OpR.indexM e_sl80 hx27 rfl rfl rfl rfl rfl) rfl ?_
 refine TL.op1 (OpR.pure rfl) rfl ?_
 refine TL.op1 (OpR.pure rfl) rfl ?_
 refine TL.nil ?_
 show T X _ _ _
 refine T.region ?_
 refine TL.op1 (OpR.pure rfl) rfl ?_
 refine TL.op1 (OpR.pure rfl) rfl ?_
 obtain ⟨x28, hx28, q22⟩ := bnd_some q22
 refine TL.op (OpR.appendM (m := x27) eNP 0 hx28 rfl rfl rfl rfl rfl rfl rfl rfl rfl (fun _ => rfl)) rfl (fun v29 => ?_)
 refine TL.op1 (OpR.pure rfl) rfl ?_
 refine TL.nil ?_
 show T X _ _ _
 refine T.region ?_
 refine TL.op1 (OpR.pure rfl) rfl ?_
 refine TL.op1 (OpR.pure rfl) rfl ?_
 refine TL.nil ?_
 obtain rfl := Option.some.inj q22
 exact ⟨m20, Nat.lt_succ_self _, _, Gst.only [2, 6, 25, 26, 27] rfl, v29, (w64 (s18.1 + 1), x28), rfl, i23⟩
noncomputable def tree_splice_tree_Node_int (a0 : List NP) (a1 : Int) (a2 : Int) (a3 : List NP) : Option (List NP) :=
  bnd (cut a0 0 a1) fun x2 =>
  bnd (cut a0 a2 (a0.length : Int)) fun x3 =>
  bnd (slices_Concat_tree_Node_int_tree_Node_int [x2, a3, x3]) fun x4 =>
  some x4
set_option maxHeartbeats 4000000 in
theorem tree_splice_tree_Node_int_c {a0 : List NP} {a1 : Int} {a2 : Int} {a3 : List NP} {res : (List NP)} (h0 : tree_splice_tree_Node_int a0 a1 a2 a3 = some res) : CallF X 92 [.sl 1 (List.map eNP a0), .val (.int .i64 a1), .val (.int .i64 a2), .sl 1 (List.map eNP a3)] [] (fun x => .sl 1 (List.map eNP res)) (fun x => []) := by
 unfold tree_splice_tree_Node_int at h0
 refine CallF.mkG (X := X) rfl Try.func92 rfl rfl Try.ntmps92 rfl rfl ?_
 refine T.seq ?_
 refine T.region ?_
 refine TL.op1 (OpR.pure rfl) rfl ?_
 refine TL.nil ?_
 show T X _ _ _
 refine T.seq ?_
 obtain ⟨x2, hx2, h0⟩ := bnd_some h0
 obtain ⟨x3, hx3, h0⟩ := bnd_some h0
 obtain ⟨x4, hx4, h0⟩ := bnd_some h0
 refine T.drawQ drawsX [.sl 1 (List.map eNP a0), .val (.int .i64 a1), .sl 1 (List.map eNP x2), .sl 1 (List.map eNP a3), .sl 1 (List.map eNP a0), .val (.int .i64 a2), .sl 1 (List.map eNP x3), .sl 1 (List.map e_sl80 [x2, a3, x3]), .sl 1 (List.map eNP x4), .sl 1 (List.map eNP x4)] [0, 1, 2, 3, 8, 9, 10, 11, 12, 13, 14, 15, 16, 17] (by decide +kernel) rfl ?_ rfl ?_
 rotate_left
 · show T X _ _ _
   refine T.ret ?_
   obtain rfl := Option.some.inj h0
   exact PostG.retP (ks := []) (Gst.only [8] rfl) undef (ResL.cons (ResV.tmp rfl) ResL.nil) rfl rfl rfl rfl
 refine OpsQ.yes (Want.plain rfl) rfl (OpR.pure rfl) ?_
 refine OpsQ.yes (Want.plain rfl) rfl (OpR.pure rfl) ?_
 refine OpsQ.yes (Want.plain rfl) rfl (OpR.sliceM (sz := 1) eNP hx2 rfl rfl rfl rfl BdM.none (BdM.some rfl) rfl) ?_
 refine OpsQ.yes (Want.plain rfl) rfl (OpR.pure rfl) ?_
 refine OpsQ.yes (Want.plain rfl) rfl (OpR.pure rfl) ?_
 refine OpsQ.yes (Want.plain rfl) rfl (OpR.pure rfl) ?_
 refine OpsQ.yes (Want.plain rfl) rfl (OpR.sliceM (sz := 1) eNP hx3 rfl rfl rfl rfl (BdM.some rfl) BdM.none rfl) ?_
 refine OpsQ.yes (Want.plain rfl) rfl (OpR.lit rfl rfl rfl rfl rfl rfl rfl) ?_
 refine OpsQ.yes (Want.plain rfl) rfl (OpR.call0 fn102 (slices_Concat_tree_Node_int_tree_Node_int_c hx4) rfl) ?_
 refine OpsQ.yes (Want.plain rfl) rfl (OpR.pure rfl) ?_
 exact OpsQ.nil
end Go.Proofs.Ytkmdfaodbiknlaa.S
