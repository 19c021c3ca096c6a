/- Printed by a program of this session's own (gen.py): Lean functions for Go functions, and the proofs that the Go code comes to their answers. -/
import Derived.Test.YtkmdfaodbiknlaaG5xa
set_option linter.unusedVariables false
set_option linter.unusedSimpArgs false
set_option maxRecDepth 20000
namespace Go.Proofs.Ytkmdfaodbiknlaa.S
open Go Go.Sm
attribute [local irreducible] T TL OpR CallT iter loop
noncomputable def slices_Clone_string_string (a0 : List (List UInt8)) : Option (List (List UInt8)) :=
  bnd (app 16 [] a0) fun x5 =>
  some x5
set_option maxHeartbeats 4000000 in
theorem slices_Clone_string_string_c {a0 : List (List UInt8)} {res : (List (List UInt8))} (h0 : slices_Clone_string_string a0 = some res) : CallF X 99 [.sl 1 (List.map eS a0)] [] (fun x => .val (vn x 0)) (fun x => [.row (vn x 0) (List.map eS res) 1 9]) := by
 unfold slices_Clone_string_string at h0
 refine CallF.mkG (X := X) rfl Try.func99 rfl rfl Try.ntmps99 rfl rfl ?_
 refine T.seq ?_
 refine T.region ?_
 refine TL.op1 (OpR.pure rfl) rfl ?_
 refine TL.nil ?_
 show T X _ _ _
 refine T.seq ?_
 refine T.seq ?_
 refine T.region ?_
 refine TL.op1 (OpR.pure rfl) rfl ?_
 refine TL.isNil rfl rfl rfl rfl (fun b1 e2 => ?_)
 refine TL.nil ?_
 show T X _ _ _
 rcases Bool.eq_false_or_eq_true b1 with c3 | c3
 · obtain rfl := map_nil_of (e2 c3)
   rw [app_nil] at h0
   refine T.condT rfl (c3) ?_
   refine T.seq ?_
   refine T.region ?_
   refine TL.op1 (OpR.pure rfl) rfl ?_
   refine TL.nil ?_
   show T X _ _ _
   refine T.ret ?_
   obtain rfl := Option.some.inj h0
   exact PostG.retP (ks := [0]) (Gst.trans (Gst.only [2] rfl) (Gst.nilRow (ow := []) 1 9 rfl)) (.tuple #[(.slice none 0 0)]) (ResL.cons (ResV.tmp rfl) ResL.nil) rfl rfl rfl rfl
 refine T.condF rfl (c3) ?_
 refine T.skip ?_
 show T X _ _ _
 refine T.seq ?_
 refine T.region ?_
 refine TL.op (OpR.litRow rfl rfl rfl rfl rfl rfl rfl rfl (fun _ => rfl)) rfl (fun v4 => ?_)
 refine TL.op1 (OpR.pure rfl) rfl ?_
 obtain ⟨x5, hx5, h0⟩ := bnd_some h0
 refine TL.op (OpR.appendM (m := a0) eS 0 hx5 rfl rfl rfl rfl rfl rfl rfl rfl rfl (fun _ => rfl)) rfl (fun v6 => ?_)
 refine TL.op1 (OpR.pure rfl) rfl ?_
 refine TL.nil ?_
 show T X _ _ _
 refine T.ret ?_
 obtain rfl := Option.some.inj h0
 exact PostG.retP (ks := [0]) (Gst.only [2] rfl) (.tuple #[v6]) (ResL.cons (ResV.tmp rfl) ResL.nil) rfl rfl rfl rfl
noncomputable def tree_cuts_string.l1 (s6 : (List (List UInt8)) × Int × (List (List (List UInt8)))) : Option (Lp ((List (List UInt8)) × Int × (List (List (List UInt8)))) (List (List (List UInt8)))) :=
  if s6.2.1 > 0 then
    bnd (dvd (s6.1.length : Int) s6.2.1) fun x15 =>
    bnd (cut s6.1 0 x15) fun x16 =>
    bnd (slices_Clone_string_string x16) fun x17 =>
    bnd (app 24 s6.2.2 [x17]) fun x19 =>
    bnd (cut s6.1 x15 (s6.1.length : Int)) fun x21 =>
    some (Lp.next (x21, w64 (s6.2.1 - 1), x19))
  else
    some (Lp.done s6.2.2)
noncomputable def tree_cuts_string (a0 : List (List UInt8)) : Option (List (List (List UInt8))) :=
  bnd ((mkc 24 (w64 (quo (w64 ((w64 ((a0.length : Int) + 6)) - 1)) 5)) : Option (List (List (List UInt8))))) fun x1 =>
  bnd (loop tree_cuts_string.l1 (a0, w64 (quo (w64 ((w64 ((a0.length : Int) + 6)) - 1)) 5), x1) : Option (List (List (List UInt8)))) fun t3 =>
  some t3
set_option maxHeartbeats 4000000 in
theorem tree_cuts_string_c {a0 : List (List UInt8)} {res : (List (List (List UInt8)))} (h0 : tree_cuts_string a0 = some res) : CallF X 85 [.sl 1 (List.map eS a0)] [] (fun x => .sl 1 (List.map e_sl40 res)) (fun x => []) := by
 unfold tree_cuts_string at h0
 refine CallF.mkG (X := X) rfl Try.func85 rfl rfl Try.ntmps85 rfl rfl ?_
 refine T.seq ?_
 refine T.region ?_
 refine TL.op1 (OpR.pure rfl) rfl ?_
 refine TL.nil ?_
 show T X _ _ _
 refine T.seq ?_
 refine T.region ?_
 refine TL.op1 (OpR.pure rfl) rfl ?_
 refine TL.op1 (OpR.cast (OpR.pure rfl) (intE (lenM _ _))) rfl ?_
 refine TL.op1 (OpR.pure rfl) rfl ?_
 refine TL.op1 (OpR.pure rfl) rfl ?_
 refine TL.op1 (OpR.pure rfl) rfl ?_
 refine TL.op1 (OpR.pure rfl) rfl ?_
 refine TL.nil ?_
 show T X _ _ _
 refine T.seq ?_
 refine T.region ?_
 refine TL.op1 (OpR.pure rfl) rfl ?_
 obtain ⟨x1, hx1, h0⟩ := bnd_some h0
 refine TL.op (OpR.makeC e_sl40 hx1 rfl rfl rfl rfl rfl rfl rfl (fun _ => rfl)) rfl (fun v2 => ?_)
 refine TL.op1 (OpR.pure rfl) rfl ?_
 refine TL.nil ?_
 show T X _ _ _
 refine T.seq ?_
 obtain ⟨t3, ht3, h0⟩ := bnd_some h0
 refine T.cutC (fun S' => ∃ y4 : Value, S' = ⟨[(4, .val y4), (2, .val (.slice none 0 0))], [.row y4 (List.map e_sl40 t3) 1 40], 32⟩) (fun _ h => h) ?_ ?_
 rotate_left
 · rintro _ ⟨y4, rfl⟩
   show T X _ _ _
   refine T.seq ?_
   refine T.region ?_
   refine TL.op1 (OpR.pure rfl) rfl ?_
   refine TL.op1 (OpR.pure rfl) rfl ?_
   refine TL.nil ?_
   show T X _ _ _
   refine T.ret ?_
   obtain rfl := Option.some.inj h0
   exact PostG.retP (ks := []) (Gst.trans (Gst.only [2] rfl) (Gst.trans (Gst.freezeRow 0 rfl rfl (ReS.cons (Re.base .all) ReS.nil) (ReO.same ReO.nil)) (Gst.pick [] rfl rfl))) undef (ResL.cons (ResV.tmp rfl) ResL.nil) rfl rfl rfl rfl
 refine T.block ?_
 obtain ⟨n7, n12⟩ := loop_some ht3
 refine T.loop (fun n S' => ∃ S'', Gst S' S'' ∧ ∃ y5 : Value, ∃ s6 : (List (List UInt8)) × Int × (List (List (List UInt8))), S'' = ⟨[(4, .val y5), (3, .val (.int .i64 s6.2.1)), (2, .val (.slice none 0 0)), (0, .sl 1 (List.map eS s6.1))], [.row y5 (List.map e_sl40 s6.2.2) 1 40], 32⟩ ∧ iter tree_cuts_string.l1 n s6 = some t3) n7 ?_ ?_
 · exact ⟨_, Gst.only [0, 2, 3, 4] rfl, v2, (a0, w64 (quo (w64 ((w64 ((a0.length : Int) + 6)) - 1)) 5), x1), rfl, n12⟩
 rintro n7 _ ⟨_, g, y5, s6, rfl, i11⟩
 refine T.ghost g ?_
 obtain ⟨m8, q9, rfl, q10, i11⟩ := iter_succ i11
 unfold tree_cuts_string.l1 at q10
 refine T.seq ?_
 refine T.seq ?_
 refine T.region ?_
 refine TL.op1 (OpR.pure rfl) rfl ?_
 refine TL.op1 (OpR.pure rfl) rfl ?_
 refine TL.nil ?_
 show T X _ _ _
 rcases ite_some q10 with ⟨c14, q10⟩ | ⟨c14, q10⟩
 rotate_left
 · refine T.condF rfl (decide_eq_false c14) ?_
   refine T.exit ?_
   obtain rfl := Option.some.inj q10
   obtain rfl : _ = _ := i11
   exact ⟨_, Gst.only [2, 4] rfl, y5, rfl⟩
 refine T.condT rfl (decide_eq_true c14) ?_
 refine T.skip ?_
 show T X _ _ _
 refine T.seq ?_
 refine T.block ?_
 refine T.seq ?_
 refine T.region ?_
 refine TL.op1 (OpR.pure rfl) rfl ?_
 refine TL.op1 (OpR.cast (OpR.pure rfl) (intE (lenM _ _))) rfl ?_
 refine TL.op1 (OpR.pure rfl) rfl ?_
 obtain ⟨x15, hx15, q10⟩ := bnd_some q10
 refine TL.op1 (OpR.dvdM hx15 rfl rfl rfl) rfl ?_
 refine TL.op1 (OpR.pure rfl) rfl ?_
 refine TL.nil ?_
 show T X _ _ _
 refine T.seq ?_
 refine T.region ?_
 refine TL.op1 (OpR.pure rfl) rfl ?_
 refine TL.op1 (OpR.pure rfl) rfl ?_
 refine TL.op1 (OpR.pure rfl) rfl ?_
 obtain ⟨x16, hx16, q10⟩ := bnd_some q10
 refine TL.op1 (OpR.sliceM (sz := 1) eS hx16 rfl rfl rfl rfl BdM.none (BdM.some rfl) rfl) rfl ?_
 obtain ⟨x17, hx17, q10⟩ := bnd_some q10
 refine TL.op (OpR.call [] fn99 (slices_Clone_string_string_c hx17) rfl rfl rfl (fun _ => rfl)) rfl (fun w18 => ?_)
 refine TL.ghost (Gst.freezeRow 1 rfl rfl (ReS.cons (Re.base .all) (ReS.refl _)) (ReO.same (ReO.same ReO.nil))) ?_
 refine TL.op1 (OpR.lit rfl rfl rfl rfl rfl rfl rfl) rfl ?_
 obtain ⟨x19, hx19, q10⟩ := bnd_some q10
 refine TL.op (OpR.appendM (m := [x17]) e_sl40 0 hx19 rfl rfl rfl rfl rfl rfl rfl rfl rfl (fun _ => rfl)) rfl (fun v20 => ?_)
 refine TL.op1 (OpR.pure rfl) rfl ?_
 refine TL.nil ?_
 show T X _ _ _
 refine T.region ?_
 refine TL.op1 (OpR.pure rfl) rfl ?_
 refine TL.op1 (OpR.pure rfl) rfl ?_
 obtain ⟨x21, hx21, q10⟩ := bnd_some q10
 refine TL.op1 (OpR.sliceM (sz := 1) eS hx21 rfl rfl rfl rfl (BdM.some rfl) BdM.none rfl) rfl ?_
 refine TL.op1 (OpR.pure rfl) rfl ?_
 refine TL.nil ?_
 show T X _ _ _
 refine T.region ?_
 refine TL.op1 (OpR.pure rfl) rfl ?_
 refine TL.op1 (OpR.pure rfl) rfl ?_
 refine TL.op1 (OpR.pure rfl) rfl ?_
 refine TL.nil ?_
 obtain rfl := Option.some.inj q10
 exact ⟨m8, Nat.lt_succ_self _, _, Gst.trans (Gst.only [0, 2, 3, 4] rfl) (Gst.pick [0] rfl rfl), v20, (x21, w64 (s6.2.1 - 1), x19), rfl, i11⟩
noncomputable def tree_leaf_string (a0 : List (List UInt8)) : Option ((List NP) × (List (List UInt8)) × Int) :=
  some ([], a0, (a0.length : Int))
set_option maxHeartbeats 4000000 in
theorem tree_leaf_string_c {a0 : List (List UInt8)} {res : (List NP) × (List (List UInt8)) × Int} (h0 : tree_leaf_string a0 = some res) : CallF X 86 [.sl 1 (List.map eS a0)] [] (fun x => .nod [.sl 1 (List.map eNP res.1), .sl 1 (List.map eS res.2.1), .val (.int .i64 res.2.2)]) (fun x => []) := by
 unfold tree_leaf_string at h0
 refine CallF.mkG (X := X) rfl Try.func86 rfl rfl Try.ntmps86 rfl rfl ?_
 refine T.seq ?_
 refine T.region ?_
 refine TL.op1 (OpR.pure rfl) rfl ?_
 refine TL.nil ?_
 show T X _ _ _
 refine T.seq ?_
 refine T.region ?_
 refine TL.op1 (OpR.pure rfl) rfl ?_
 refine TL.op1 (OpR.pure rfl) rfl ?_
 refine TL.op1 (OpR.cast (OpR.pure rfl) (intE (lenM _ _))) rfl ?_
 refine TL.op1 (OpR.wk (d' := fun _ => .agg [.sl 1 (List.map eNP []), .sl 1 (List.map eS a0), .val (.int .i64 (a0.length : Int))]) (OpR.build rfl rfl rfl rfl rfl) (fun _ => Re.agg (ReL.cons (Re.base .nil) (ReL.cons Re.refl (ReL.cons Re.refl ReL.nil))) (fun _ _ h => by cases h; exact ⟨_, rfl⟩))) rfl ?_
 refine TL.op (OpR.boxVar rfl rfl (fun _ => rfl)) rfl (fun p1 => ?_)
 refine TL.op1 (OpR.pure rfl) rfl ?_
 refine TL.nil ?_
 show T X _ _ _
 refine T.ghost (Gst.trans (Gst.only [2] rfl) (Gst.freezeVar 0 rfl rfl (ReS.cons (Re.base .all) ReS.nil) (ReO.same ReO.nil))) ?_
 refine T.ret ?_
 obtain rfl := Option.some.inj h0
 exact PostG.retP (ks := []) (Gst.trans (Gst.only [2] rfl) (Gst.pick [] rfl rfl)) undef (ResL.cons (ResV.tmp rfl) ResL.nil) rfl rfl rfl rfl
noncomputable def tree_leaves_string.l1 (x1 : (List (List (List UInt8)))) (s5 : Int × (List NP)) : Option (Lp (Int × (List NP)) (List NP)) :=
  if s5.1 < (x1.length : Int) then
    bnd (idx x1 s5.1) fun x14 =>
    bnd (tree_leaf_string x14) fun x15 =>
    bnd (app 8 s5.2 [(c_tree_Node_string (⟨x15.1, x15.2.1, x15.2.2⟩ : tree_Node_string))]) fun x16 =>
    some (Lp.next (w64 (s5.1 + 1), x16))
  else
    some (Lp.done s5.2)
noncomputable def tree_leaves_string (a0 : List (List UInt8)) : Option (List NP) :=
  bnd (tree_cuts_string a0) fun x1 =>
  bnd (loop (tree_leaves_string.l1 x1) (0, []) : Option (List NP)) fun t2 =>
  some t2
set_option maxHeartbeats 4000000 in
theorem tree_leaves_string_c {a0 : List (List UInt8)} {res : (List NP)} (h0 : tree_leaves_string a0 = some res) : CallF X 57 [.sl 1 (List.map eS a0)] [] (fun x => .sl 1 (List.map eNP res)) (fun x => []) := by
 unfold tree_leaves_string at h0
 refine CallF.mkG (X := X) rfl Try.func57 rfl rfl Try.ntmps57 rfl rfl ?_
 refine T.seq ?_
 refine T.region ?_
 refine TL.op1 (OpR.pure rfl) rfl ?_
 refine TL.nil ?_
 show T X _ _ _
 refine T.seq ?_
 refine T.region ?_
 refine TL.op1 (OpR.pure rfl) rfl ?_
 refine TL.nil ?_
 show T X _ _ _
 refine T.seq ?_
 refine T.seq ?_
 refine T.region ?_
 refine TL.op1 (OpR.pure rfl) rfl ?_
 obtain ⟨x1, hx1, h0⟩ := bnd_some h0
 refine TL.op1 (OpR.call0 fn85 (tree_cuts_string_c hx1) rfl) rfl ?_
 refine TL.op1 (OpR.cast (OpR.pure rfl) (intE (lenM _ _))) rfl ?_
 refine TL.op1 (OpR.pure rfl) rfl ?_
 refine TL.nil ?_
 show T X _ _ _
 obtain ⟨t2, ht2, h0⟩ := bnd_some h0
 refine T.cutC (fun S' => ∃ y3 : Value, S' = ⟨[(3, .val y3), (2, .val (.slice none 0 0))], [.row y3 (List.map eNP t2) 1 41], 20⟩) (fun _ h => h) ?_ ?_
 rotate_left
 · rintro _ ⟨y3, rfl⟩
   show T X _ _ _
   refine T.seq ?_
   refine T.region ?_
   refine TL.op1 (OpR.pure rfl) rfl ?_
   refine TL.op1 (OpR.pure rfl) rfl ?_
   refine TL.nil ?_
   show T X _ _ _
   refine T.ret ?_
   obtain rfl := Option.some.inj h0
   exact PostG.retP (ks := []) (Gst.trans (Gst.only [2] rfl) (Gst.trans (Gst.freezeRow 0 rfl rfl (ReS.cons (Re.base .all) ReS.nil) (ReO.same ReO.nil)) (Gst.pick [] rfl rfl))) undef (ResL.cons (ResV.tmp rfl) ResL.nil) rfl rfl rfl rfl
 refine T.block ?_
 obtain ⟨n6, n11⟩ := loop_some ht2
 refine T.loop (fun n S' => ∃ S'', Gst S' S'' ∧ ∃ y4 : Value, ∃ s5 : Int × (List NP), S'' = ⟨[(9, .val (.int .i64 s5.1)), (8, .val (.int .i64 (x1.length : Int))), (7, .sl 1 (List.map e_sl40 x1)), (3, .val y4), (2, .val (.slice none 0 0))], [.row y4 (List.map eNP s5.2) 1 41], 20⟩ ∧ iter (tree_leaves_string.l1 x1) n s5 = some t2) n6 ?_ ?_
 · exact ⟨_, Gst.trans (Gst.only [2, 3, 7, 8, 9] rfl) (Gst.nilRow (ow := []) 1 41 rfl), (.slice none 0 0), (0, []), rfl, n11⟩
 rintro n6 _ ⟨_, g, y4, s5, rfl, i10⟩
 refine T.ghost g ?_
 obtain ⟨m7, q8, rfl, q9, i10⟩ := iter_succ i10
 unfold tree_leaves_string.l1 at q9
 refine T.seq ?_
 refine T.region ?_
 refine TL.op1 (OpR.pure rfl) rfl ?_
 refine TL.nil ?_
 show T X _ _ _
 refine T.seq ?_
 rcases ite_some q9 with ⟨c13, q9⟩ | ⟨c13, q9⟩
 rotate_left
 · refine T.condF rfl (decide_eq_false c13) ?_
   refine T.exit ?_
   obtain rfl := Option.some.inj q9
   obtain rfl : _ = _ := i10
   exact ⟨_, Gst.only [2, 3] rfl, y4, rfl⟩
 refine T.condT rfl (decide_eq_true c13) ?_
 refine T.skip ?_
 show T X _ _ _
 refine T.seq ?_
 refine T.block ?_
 refine T.seq ?_
 refine T.region ?_
 obtain ⟨x14, hx14, q9⟩ := bnd_some q9
 refine TL.op1 (OpR.indexM e_sl40 hx14 rfl rfl rfl rfl rfl) rfl ?_
 refine TL.op1 (OpR.pure rfl) rfl ?_
 refine TL.op1 (OpR.pure rfl) rfl ?_
 refine TL.nil ?_
 show T X _ _ _
 refine T.region ?_
 refine TL.op1 (OpR.pure rfl) rfl ?_
 refine TL.op1 (OpR.pure rfl) rfl ?_
 obtain ⟨x15, hx15, q9⟩ := bnd_some q9
 refine TL.op1 (OpR.call0 fn86 (tree_leaf_string_c hx15) rfl) rfl ?_
 refine TL.op1 (OpR.lit rfl rfl rfl rfl rfl rfl rfl) rfl ?_
 obtain ⟨x16, hx16, q9⟩ := bnd_some q9
 refine TL.op (OpR.appendM (m := [(c_tree_Node_string (⟨x15.1, x15.2.1, x15.2.2⟩ : tree_Node_string))]) eNP 0 hx16 rfl rfl rfl rfl rfl rfl rfl rfl rfl (fun _ => rfl)) rfl (fun v17 => ?_)
 refine TL.op1 (OpR.pure rfl) rfl ?_
 refine TL.nil ?_
 show T X _ _ _
 refine T.region ?_
 refine TL.op1 (OpR.pure rfl) rfl ?_
 refine TL.op1 (OpR.pure rfl) rfl ?_
 refine TL.nil ?_
 obtain rfl := Option.some.inj q9
 exact ⟨m7, Nat.lt_succ_self _, _, Gst.only [2, 3, 7, 8, 9] rfl, v17, (w64 (s5.1 + 1), x16), rfl, i10⟩
noncomputable def slices_Clone_tree_Node_string_tree_Node_string (a0 : List NP) : Option (List NP) :=
  bnd (app 8 [] a0) fun x5 =>
  some x5
set_option maxHeartbeats 4000000 in
theorem slices_Clone_tree_Node_string_tree_Node_string_c {a0 : List NP} {res : (List NP)} (h0 : slices_Clone_tree_Node_string_tree_Node_string a0 = some res) : CallF X 105 [.sl 1 (List.map eNP a0)] [] (fun x => .val (vn x 0)) (fun x => [.row (vn x 0) (List.map eNP res) 1 41]) := by
 unfold slices_Clone_tree_Node_string_tree_Node_string at h0
 refine CallF.mkG (X := X) rfl Try.func105 rfl rfl Try.ntmps105 rfl rfl ?_
 refine T.seq ?_
 refine T.region ?_
 refine TL.op1 (OpR.pure rfl) rfl ?_
 refine TL.nil ?_
 show T X _ _ _
 refine T.seq ?_
 refine T.seq ?_
 refine T.region ?_
 refine TL.op1 (OpR.pure rfl) rfl ?_
 refine TL.isNil rfl rfl rfl rfl (fun b1 e2 => ?_)
 refine TL.nil ?_
 show T X _ _ _
 rcases Bool.eq_false_or_eq_true b1 with c3 | c3
 · obtain rfl := map_nil_of (e2 c3)
   rw [app_nil] at h0
   refine T.condT rfl (c3) ?_
   refine T.seq ?_
   refine T.region ?_
   refine TL.op1 (OpR.pure rfl) rfl ?_
   refine TL.nil ?_
   show T X _ _ _
   refine T.ret ?_
   obtain rfl := Option.some.inj h0
   exact PostG.retP (ks := [0]) (Gst.trans (Gst.only [2] rfl) (Gst.nilRow (ow := []) 1 41 rfl)) (.tuple #[(.slice none 0 0)]) (ResL.cons (ResV.tmp rfl) ResL.nil) rfl rfl rfl rfl
 refine T.condF rfl (c3) ?_
 refine T.skip ?_
 show T X _ _ _
 refine T.seq ?_
 refine T.region ?_
 refine TL.op (OpR.litRow rfl rfl rfl rfl rfl rfl rfl rfl (fun _ => rfl)) rfl (fun v4 => ?_)
 refine TL.op1 (OpR.pure rfl) rfl ?_
 obtain ⟨x5, hx5, h0⟩ := bnd_some h0
 refine TL.op (OpR.appendM (m := a0) eNP 0 hx5 rfl rfl rfl rfl rfl rfl rfl rfl rfl (fun _ => rfl)) rfl (fun v6 => ?_)
 refine TL.op1 (OpR.pure rfl) rfl ?_
 refine TL.nil ?_
 show T X _ _ _
 refine T.ret ?_
 obtain rfl := Option.some.inj h0
 exact PostG.retP (ks := [0]) (Gst.only [2] rfl) (.tuple #[v6]) (ResL.cons (ResV.tmp rfl) ResL.nil) rfl rfl rfl rfl
noncomputable def tree_cuts_tree_Node_string.l1 (s6 : (List NP) × Int × (List (List NP))) : Option (Lp ((List NP) × Int × (List (List NP))) (List (List NP))) :=
  if s6.2.1 > 0 then
    bnd (dvd (s6.1.length : Int) s6.2.1) fun x15 =>
    bnd (cut s6.1 0 x15) fun x16 =>
    bnd (slices_Clone_tree_Node_string_tree_Node_string x16) fun x17 =>
    bnd (app 24 s6.2.2 [x17]) fun x19 =>
    bnd (cut s6.1 x15 (s6.1.length : Int)) fun x21 =>
    some (Lp.next (x21, w64 (s6.2.1 - 1), x19))
  else
    some (Lp.done s6.2.2)
noncomputable def tree_cuts_tree_Node_string (a0 : List NP) : Option (List (List NP)) :=
  bnd ((mkc 24 (w64 (quo (w64 ((w64 ((a0.length : Int) + 6)) - 1)) 5)) : Option (List (List NP)))) fun x1 =>
  bnd (loop tree_cuts_tree_Node_string.l1 (a0, w64 (quo (w64 ((w64 ((a0.length : Int) + 6)) - 1)) 5), x1) : Option (List (List NP))) fun t3 =>
  some t3
set_option maxHeartbeats 4000000 in
theorem tree_cuts_tree_Node_string_c {a0 : List NP} {res : (List (List NP))} (h0 : tree_cuts_tree_Node_string a0 = some res) : CallF X 98 [.sl 1 (List.map eNP a0)] [] (fun x => .sl 1 (List.map e_sl96 res)) (fun x => []) := by
 unfold tree_cuts_tree_Node_string at h0
 refine CallF.mkG (X := X) rfl Try.func98 rfl rfl Try.ntmps98 rfl rfl ?_
 refine T.seq ?_
 refine T.region ?_
 refine TL.op1 (OpR.pure rfl) rfl ?_
 refine TL.nil ?_
 show T X _ _ _
 refine T.seq ?_
 refine T.region ?_
 refine TL.op1 (OpR.pure rfl) rfl ?_
 refine TL.op1 (OpR.cast (OpR.pure rfl) (intE (lenM _ _))) rfl ?_
 refine TL.op1 (OpR.pure rfl) rfl ?_
 refine TL.op1 (OpR.pure rfl) rfl ?_
 refine TL.op1 (OpR.pure rfl) rfl ?_
 refine TL.op1 (OpR.pure rfl) rfl ?_
 refine TL.nil ?_
 show T X _ _ _
 refine T.seq ?_
 refine T.region ?_
 refine TL.op1 (OpR.pure rfl) rfl ?_
 obtain ⟨x1, hx1, h0⟩ := bnd_some h0
 refine TL.op (OpR.makeC e_sl96 hx1 rfl rfl rfl rfl rfl rfl rfl (fun _ => rfl)) rfl (fun v2 => ?_)
 refine TL.op1 (OpR.pure rfl) rfl ?_
 refine TL.nil ?_
 show T X _ _ _
 refine T.seq ?_
 obtain ⟨t3, ht3, h0⟩ := bnd_some h0
 refine T.cutC (fun S' => ∃ y4 : Value, S' = ⟨[(4, .val y4), (2, .val (.slice none 0 0))], [.row y4 (List.map e_sl96 t3) 1 96], 32⟩) (fun _ h => h) ?_ ?_
 rotate_left
 · rintro _ ⟨y4, rfl⟩
   show T X _ _ _
   refine T.seq ?_
   refine T.region ?_
   refine TL.op1 (OpR.pure rfl) rfl ?_
   refine TL.op1 (OpR.pure rfl) rfl ?_
   refine TL.nil ?_
   show T X _ _ _
   refine T.ret ?_
   obtain rfl := Option.some.inj h0
   exact PostG.retP (ks := []) (Gst.trans (Gst.only [2] rfl) (Gst.trans (Gst.freezeRow 0 rfl rfl (ReS.cons (Re.base .all) ReS.nil) (ReO.same ReO.nil)) (Gst.pick [] rfl rfl))) undef (ResL.cons (ResV.tmp rfl) ResL.nil) rfl rfl rfl rfl
 refine T.block ?_
 obtain ⟨n7, n12⟩ := loop_some ht3
 refine T.loop (fun n S' => ∃ S'', Gst S' S'' ∧ ∃ y5 : Value, ∃ s6 : (List NP) × Int × (List (List NP)), S'' = ⟨[(4, .val y5), (3, .val (.int .i64 s6.2.1)), (2, .val (.slice none 0 0)), (0, .sl 1 (List.map eNP s6.1))], [.row y5 (List.map e_sl96 s6.2.2) 1 96], 32⟩ ∧ iter tree_cuts_tree_Node_string.l1 n s6 = some t3) n7 ?_ ?_
 · exact ⟨_, Gst.only [0, 2, 3, 4] rfl, v2, (a0, w64 (quo (w64 ((w64 ((a0.length : Int) + 6)) - 1)) 5), x1), rfl, n12⟩
 rintro n7 _ ⟨_, g, y5, s6, rfl, i11⟩
 refine T.ghost g ?_
 obtain ⟨m8, q9, rfl, q10, i11⟩ := iter_succ i11
 unfold tree_cuts_tree_Node_string.l1 at q10
 refine T.seq ?_
 refine T.seq ?_
 refine T.region ?_
 refine TL.op1 (OpR.pure rfl) rfl ?_
 refine TL.op1 (OpR.pure rfl) rfl ?_
 refine TL.nil ?_
 show T X _ _ _
 rcases ite_some q10 with ⟨c14, q10⟩ | ⟨c14, q10⟩
 rotate_left
 · refine T.condF rfl (decide_eq_false c14) ?_
   refine T.exit ?_
   obtain rfl := Option.some.inj q10
   obtain rfl : _ = _ := i11
   exact ⟨_, Gst.only [2, 4] rfl, y5, rfl⟩
 refine T.condT rfl (decide_eq_true c14) ?_
 refine T.skip ?_
 show T X _ _ _
 refine T.seq ?_
 refine T.block ?_
 refine T.seq ?_
 refine T.region ?_
 refine TL.op1 (OpR.pure rfl) rfl ?_
 refine TL.op1 (OpR.cast (OpR.pure rfl) (intE (lenM _ _))) rfl ?_
 refine TL.op1 (OpR.pure rfl) rfl ?_
 obtain ⟨x15, hx15, q10⟩ := bnd_some q10
 refine TL.op1 (OpR.dvdM hx15 rfl rfl rfl) rfl ?_
 refine TL.op1 (OpR.pure rfl) rfl ?_
 refine TL.nil ?_
 show T X _ _ _
 refine T.seq ?_
 refine T.region ?_
 refine TL.op1 (OpR.pure rfl) rfl ?_
 refine TL.op1 (OpR.pure rfl) rfl ?_
 refine TL.op1 (OpR.pure rfl) rfl ?_
 obtain ⟨x16, hx16, q10⟩ := bnd_some q10
 refine TL.op1 (OpR.sliceM (sz := 1) eNP hx16 rfl rfl rfl rfl BdM.none (BdM.some rfl) rfl) rfl ?_
 obtain ⟨x17, hx17, q10⟩ := bnd_some q10
 refine TL.op (OpR.call [] fn105 (slices_Clone_tree_Node_string_tree_Node_string_c hx17) rfl rfl rfl (fun _ => rfl)) rfl (fun w18 => ?_)
 refine TL.ghost (Gst.freezeRow 1 rfl rfl (ReS.cons (Re.base .all) (ReS.refl _)) (ReO.same (ReO.same ReO.nil))) ?_
 refine TL.op1 (OpR.lit rfl rfl rfl rfl rfl rfl rfl) rfl ?_
 obtain ⟨x19, hx19, q10⟩ := bnd_some q10
 refine TL.op (OpR.appendM (m := [x17]) e_sl96 0 hx19 rfl rfl rfl rfl rfl rfl rfl rfl rfl (fun _ => rfl)) rfl (fun v20 => ?_)
 refine TL.op1 (OpR.pure rfl) rfl ?_
 refine TL.nil ?_
 show T X _ _ _
 refine T.region ?_
 refine TL.op1 (OpR.pure rfl) rfl ?_
 refine TL.op1 (OpR.pure rfl) rfl ?_
 obtain ⟨x21, hx21, q10⟩ := bnd_some q10
 refine TL.op1 (OpR.sliceM (sz := 1) eNP hx21 rfl rfl rfl rfl (BdM.some rfl) BdM.none rfl) rfl ?_
 refine TL.op1 (OpR.pure rfl) rfl ?_
 refine TL.nil ?_
 show T X _ _ _
 refine T.region ?_
 refine TL.op1 (OpR.pure rfl) rfl ?_
 refine TL.op1 (OpR.pure rfl) rfl ?_
 refine TL.op1 (OpR.pure rfl) rfl ?_
 refine TL.nil ?_
 obtain rfl := Option.some.inj q10
 exact ⟨m8, Nat.lt_succ_self _, _, Gst.trans (Gst.only [0, 2, 3, 4] rfl) (Gst.pick [0] rfl rfl), v20, (x21, w64 (s6.2.1 - 1), x19), rfl, i11⟩
noncomputable def tree_inner_string.l1 (a0 : List NP) (s3 : Int × Int) : Option (Lp (Int × Int) Int) :=
  if s3.1 < (a0.length : Int) then
    bnd (idx a0 s3.1) fun x12 =>
    bnd (o_tree_Node_string x12) fun x13 =>
    some (Lp.next (w64 (s3.1 + 1), w64 (s3.2 + x13.fN)))
  else
    some (Lp.done s3.2)
noncomputable def tree_inner_string (a0 : List NP) : Option ((List NP) × (List (List UInt8)) × Int) :=
  bnd (loop (tree_inner_string.l1 a0) (0, 0) : Option Int) fun t2 =>
  some (a0, [], t2)
set_option maxHeartbeats 4000000 in
theorem tree_inner_string_c {a0 : List NP} {res : (List NP) × (List (List UInt8)) × Int} (h0 : tree_inner_string a0 = some res) : CallF X 88 [.sl 1 (List.map eNP a0)] [] (fun x => .nod [.sl 1 (List.map eNP res.1), .sl 1 (List.map eS res.2.1), .val (.int .i64 res.2.2)]) (fun x => []) := by
 unfold tree_inner_string at h0
 refine CallF.mkG (X := X) rfl Try.func88 rfl rfl Try.ntmps88 rfl rfl ?_
 refine T.seq ?_
 refine T.region ?_
 refine TL.op1 (OpR.pure rfl) rfl ?_
 refine TL.nil ?_
 show T X _ _ _
 refine T.seq ?_
 refine T.region ?_
 refine TL.op1 (OpR.pure rfl) rfl ?_
 refine TL.op1 (OpR.wk (d' := fun _ => .agg [.sl 1 (List.map eNP a0), .sl 1 (List.map eS []), .val (.int .i64 0)]) (OpR.build rfl rfl rfl rfl rfl) (fun _ => Re.agg (ReL.cons Re.refl (ReL.cons (Re.base .nil) (ReL.cons Re.refl ReL.nil))) (fun _ _ h => by cases h; exact ⟨_, rfl⟩))) rfl ?_
 refine TL.op (OpR.boxVar rfl rfl (fun _ => rfl)) rfl (fun p1 => ?_)
 refine TL.op1 (OpR.pure rfl) rfl ?_
 refine TL.nil ?_
 show T X _ _ _
 refine T.seq ?_
 refine T.seq ?_
 refine T.region ?_
 refine TL.op1 (OpR.pure rfl) rfl ?_
 refine TL.op1 (OpR.cast (OpR.pure rfl) (intE (lenM _ _))) rfl ?_
 refine TL.op1 (OpR.pure rfl) rfl ?_
 refine TL.nil ?_
 show T X _ _ _
 obtain ⟨t2, ht2, h0⟩ := bnd_some h0
 refine T.cutC (fun S' => S' = ⟨[(3, .val (.pointer (some ⟨(blk p1), 0, none⟩))), (2, .val (.pointer none))], [.var (blk p1) [.sl 1 (List.map eNP a0), .sl 1 (List.map eS []), .val (.int .i64 t2)] 100], 28⟩) (fun _ h => h) ?_ ?_
 rotate_left
 · rintro _ rfl
   show T X _ _ _
   refine T.seq ?_
   refine T.region ?_
   refine TL.op1 (OpR.pure rfl) rfl ?_
   refine TL.op1 (OpR.pure rfl) rfl ?_
   refine TL.nil ?_
   show T X _ _ _
   refine T.ghost (Gst.trans (Gst.only [2] rfl) (Gst.freezeVar 0 rfl rfl (ReS.cons (Re.base .all) ReS.nil) (ReO.same ReO.nil))) ?_
   refine T.ret ?_
   obtain rfl := Option.some.inj h0
   exact PostG.retP (ks := []) (Gst.trans (Gst.only [2] rfl) (Gst.pick [] rfl rfl)) undef (ResL.cons (ResV.tmp rfl) ResL.nil) rfl rfl rfl rfl
 refine T.block ?_
 obtain ⟨n4, n9⟩ := loop_some ht2
 refine T.loop (fun n S' => ∃ S'', Gst S' S'' ∧ ∃ s3 : Int × Int, S'' = ⟨[(11, .val (.int .i64 s3.1)), (10, .val (.int .i64 (a0.length : Int))), (9, .sl 1 (List.map eNP a0)), (3, .val (.pointer (some ⟨(blk p1), 0, none⟩))), (2, .val (.pointer none))], [.var (blk p1) [.sl 1 (List.map eNP a0), .sl 1 (List.map eS []), .val (.int .i64 s3.2)] 100], 28⟩ ∧ iter (tree_inner_string.l1 a0) n s3 = some t2) n4 ?_ ?_
 · exact ⟨_, Gst.only [2, 3, 9, 10, 11] rfl, (0, 0), rfl, n9⟩
 rintro n4 _ ⟨_, g, s3, rfl, i8⟩
 refine T.ghost g ?_
 obtain ⟨m5, q6, rfl, q7, i8⟩ := iter_succ i8
 unfold tree_inner_string.l1 at q7
 refine T.seq ?_
 refine T.region ?_
 refine TL.op1 (OpR.pure rfl) rfl ?_
 refine TL.nil ?_
 show T X _ _ _
 refine T.seq ?_
 rcases ite_some q7 with ⟨c11, q7⟩ | ⟨c11, q7⟩
 rotate_left
 · refine T.condF rfl (decide_eq_false c11) ?_
   refine T.exit ?_
   obtain rfl := Option.some.inj q7
   obtain rfl : _ = _ := i8
   exact ⟨_, Gst.only [2, 3] rfl, rfl⟩
 refine T.condT rfl (decide_eq_true c11) ?_
 refine T.skip ?_
 show T X _ _ _
 refine T.seq ?_
 refine T.block ?_
 refine T.seq ?_
 refine T.region ?_
 obtain ⟨x12, hx12, q7⟩ := bnd_some q7
 obtain ⟨x13, hx13, q7⟩ := bnd_some q7
 rw [o_tree_Node_string_eq hx13] at hx12
 refine TL.op1 (OpR.indexM eNP hx12 rfl rfl rfl rfl rfl) rfl ?_
 refine TL.op1 (OpR.pure rfl) rfl ?_
 refine TL.op1 (OpR.pure rfl) rfl ?_
 refine TL.nil ?_
 show T X _ _ _
 refine T.drawS drawsX (fun env14 => [.val (.pointer (some ⟨(blk p1), 0, none⟩)), .val (.pointer (some ⟨(blk p1), 0, none⟩)), .val (.pointer (some ⟨(blk p1), 2, none⟩)), .val (.int .i64 s3.2), .nod [.sl 1 (List.map eNP x13.fKids), .sl 1 (List.map eS x13.fItems), .val (.int .i64 x13.fN)], .nod [.sl 1 (List.map eNP x13.fKids), .sl 1 (List.map eS x13.fItems), .val (.int .i64 x13.fN)], .nod [.val (.int .i64 x13.fN)], .val (.int .i64 x13.fN), .val (.int .i64 (w64 (s3.2 + x13.fN))), .val (.pointer (some ⟨(blk p1), 0, none⟩)), .val (.pointer (some ⟨(blk p1), 2, none⟩)), .dead]) (fun D env14 => [(bif D 11 then .var (blk p1) [.sl 1 (List.map eNP a0), .sl 1 (List.map eS []), .val (.int .i64 (w64 (s3.2 + x13.fN)))] 100 else .var (blk p1) [.sl 1 (List.map eNP a0), .sl 1 (List.map eS []), .val (.int .i64 s3.2)] 100)]) [0, 1, 3, 7, 0, 16, 48, 112, 255, 511, 1023, 2047] [2, 3, 5, 9, 10, 11, 12, 13, 14, 15, 16, 17, 18, 19, 20, 21, 22, 23, 24, 25] (fun env14 => [.var (blk p1) [.sl 1 (List.map eNP a0), .sl 1 (List.map eS []), .val (.int .i64 (w64 (s3.2 + x13.fN)))] 100]) (by decide +kernel) (by decide +kernel) (fun _ => rfl) (fun _ => rfl) ?_ (fun _ => rfl) (fun _ => rfl) ?_
 rotate_left
 · intro env14
   show T X _ _ _
   refine T.region ?_
   refine TL.op1 (OpR.pure rfl) rfl ?_
   refine TL.op1 (OpR.pure rfl) rfl ?_
   refine TL.nil ?_
   obtain rfl := Option.some.inj q7
   exact ⟨m5, Nat.lt_succ_self _, _, Gst.only [2, 3, 9, 10, 11] rfl, (w64 (s3.1 + 1), w64 (s3.2 + x13.fN)), rfl, i8⟩
 refine oS (d := .val (.pointer (some ⟨(blk p1), 0, none⟩))) (fun _ => Want.plain rfl) (fun _ => rfl) (fun _ _ _ => rfl) (fun _ _ => OpR.pure rfl) (fun _ _ _ _ _ _ _ => rfl) ?_
 refine oS (d := .val (.pointer (some ⟨(blk p1), 0, none⟩))) (fun _ => Want.plain rfl) (fun _ => rfl) (fun _ _ _ => rfl) (fun _ _ => OpR.pure rfl) (fun _ _ _ _ _ _ _ => rfl) ?_
 refine oS (d := .val (.pointer (some ⟨(blk p1), 2, none⟩))) (fun _ => Want.plain rfl) (fun _ => rfl) (fun _ _ _ => rfl) (fun _ _ => OpR.pure rfl) (fun _ _ _ _ _ _ _ => rfl) ?_
 refine OpsS.cons' true ?_ (fun _ _ _ _ _ _ _ => rfl) ?_
 · intro D env14 hA
   have e11 : D 11 = false := hA.no 11 _ rfl rfl
   exact OpS.yes (o0 := [.var (blk p1) [.sl 1 (List.map eNP a0), .sl 1 (List.map eS []), .val (.int .i64 s3.2)] 100]) (o1 := fun x => [.var (blk p1) [.sl 1 (List.map eNP a0), .sl 1 (List.map eS []), .val (.int .i64 s3.2)] 100]) (d := fun x => .val (.int .i64 s3.2)) (Want.plain rfl) (by first | rfl | simp only [e11, cond_true, cond_false, List.cons_append, List.nil_append, List.append_nil]) (fun x => by first | rfl | simp only [ins_self, ins_ne D (show 3 ≠ 11 by decide), upd_self, e11, cond_true, cond_false, List.cons_append, List.nil_append, List.append_nil]) (fun x => rfl) (OpR.loadPtr 0 rfl rfl rfl rfl)
 refine oS (d := .nod [.sl 1 (List.map eNP x13.fKids), .sl 1 (List.map eS x13.fItems), .val (.int .i64 x13.fN)]) (fun _ => Want.plain rfl) (fun _ => rfl) (fun _ _ _ => rfl) (fun _ _ => OpR.pure rfl) (fun _ _ _ _ _ _ _ => rfl) ?_
 refine oS (d := .nod [.sl 1 (List.map eNP x13.fKids), .sl 1 (List.map eS x13.fItems), .val (.int .i64 x13.fN)]) (fun _ => Want.plain rfl) (fun _ => rfl) (fun _ _ _ => rfl) (fun _ _ => OpR.pure rfl) (fun _ _ _ _ _ _ _ => rfl) ?_
 refine oS (d := .nod [.val (.int .i64 x13.fN)]) (fun _ => Want.plain rfl) (fun _ => rfl) (fun _ _ _ => rfl) (fun _ _ => OpR.pure rfl) (fun _ _ _ _ _ _ _ => rfl) ?_
 refine oS (d := .val (.int .i64 x13.fN)) (fun _ => Want.plain rfl) (fun _ => rfl) (fun _ _ _ => rfl) (fun _ _ => OpR.pure rfl) (fun _ _ _ _ _ _ _ => rfl) ?_
 refine oS (d := .val (.int .i64 (w64 (s3.2 + x13.fN)))) (fun _ => Want.plain rfl) (fun _ => rfl) (fun _ _ _ => rfl) (fun _ _ => OpR.pure rfl) (fun _ _ _ _ _ _ _ => rfl) ?_
 refine oS (d := .val (.pointer (some ⟨(blk p1), 0, none⟩))) (fun _ => Want.plain rfl) (fun _ => rfl) (fun _ _ _ => rfl) (fun _ _ => OpR.pure rfl) (fun _ _ _ _ _ _ _ => rfl) ?_
 refine oS (d := .val (.pointer (some ⟨(blk p1), 2, none⟩))) (fun _ => Want.plain rfl) (fun _ => rfl) (fun _ _ _ => rfl) (fun _ _ => OpR.pure rfl) (fun _ _ _ _ _ _ _ => rfl) ?_
 refine OpsS.cons' true ?_ (fun _ _ _ _ _ _ _ => rfl) ?_
 · intro D env14 hA
   exact OpS.yes (o0 := [.var (blk p1) [.sl 1 (List.map eNP a0), .sl 1 (List.map eS []), .val (.int .i64 s3.2)] 100]) (o1 := fun x => [.var (blk p1) [.sl 1 (List.map eNP a0), .sl 1 (List.map eS []), .val (.int .i64 (w64 (s3.2 + x13.fN)))] 100]) (d := fun x => .dead) (Want.plain rfl) (by first | rfl | simp only [hA.me, cond_true, cond_false, List.cons_append, List.nil_append, List.append_nil]) (fun x => by first | rfl | simp only [ins_self, upd_self, hA.me, cond_true, cond_false, List.cons_append, List.nil_append, List.append_nil]) (fun x => rfl) (OpR.store 0 rfl rfl rfl rfl rfl rfl rfl rfl)
 exact trivial
noncomputable def tree_inners_string.l1 (x1 : (List (List NP))) (s5 : Int × (List NP)) : Option (Lp (Int × (List NP)) (List NP)) :=
  if s5.1 < (x1.length : Int) then
    bnd (idx x1 s5.1) fun x14 =>
    bnd (tree_inner_string x14) fun x15 =>
    bnd (app 8 s5.2 [(c_tree_Node_string (⟨x15.1, x15.2.1, x15.2.2⟩ : tree_Node_string))]) fun x16 =>
    some (Lp.next (w64 (s5.1 + 1), x16))
  else
    some (Lp.done s5.2)
noncomputable def tree_inners_string (a0 : List NP) : Option (List NP) :=
  bnd (tree_cuts_tree_Node_string a0) fun x1 =>
  bnd (loop (tree_inners_string.l1 x1) (0, []) : Option (List NP)) fun t2 =>
  some t2
set_option maxHeartbeats 4000000 in
theorem tree_inners_string_c {a0 : List NP} {res : (List NP)} (h0 : tree_inners_string a0 = some res) : CallF X 84 [.sl 1 (List.map eNP a0)] [] (fun x => .sl 1 (List.map eNP res)) (fun x => []) := by
 unfold tree_inners_string at h0
 refine CallF.mkG (X := X) rfl Try.func84 rfl rfl Try.ntmps84 rfl rfl ?_
 refine T.seq ?_
 refine T.region ?_
 refine TL.op1 (OpR.pure rfl) rfl ?_
 refine TL.nil ?_
 show T X _ _ _
 refine T.seq ?_
 refine T.region ?_
 refine TL.op1 (OpR.pure rfl) rfl ?_
 refine TL.nil ?_
 show T X _ _ _
 refine T.seq ?_
 refine T.seq ?_
 refine T.region ?_
 refine TL.op1 (OpR.pure rfl) rfl ?_
 obtain ⟨x1, hx1, h0⟩ := bnd_some h0
 refine TL.op1 (OpR.call0 fn98 (tree_cuts_tree_Node_string_c hx1) rfl) rfl ?_
 refine TL.op1 (OpR.cast (OpR.pure rfl) (intE (lenM _ _))) rfl ?_
 refine TL.op1 (OpR.pure rfl) rfl ?_
 refine TL.nil ?_
 show T X _ _ _
 obtain ⟨t2, ht2, h0⟩ := bnd_some h0
 refine T.cutC (fun S' => ∃ y3 : Value, S' = ⟨[(3, .val y3), (2, .val (.slice none 0 0))], [.row y3 (List.map eNP t2) 1 41], 20⟩) (fun _ h => h) ?_ ?_
 rotate_left
 · rintro _ ⟨y3, rfl⟩
   show T X _ _ _
   refine T.seq ?_
   refine T.region ?_
   refine TL.op1 (OpR.pure rfl) rfl ?_
   refine TL.op1 (OpR.pure rfl) rfl ?_
   refine TL.nil ?_
   show T X _ _ _
   refine T.ret ?_
   obtain rfl := Option.some.inj h0
   exact PostG.retP (ks := []) (Gst.trans (Gst.only [2] rfl) (Gst.trans (Gst.freezeRow 0 rfl rfl (ReS.cons (Re.base .all) ReS.nil) (ReO.same ReO.nil)) (Gst.pick [] rfl rfl))) undef (ResL.cons (ResV.tmp rfl) ResL.nil) rfl rfl rfl rfl
 refine T.block ?_
 obtain ⟨n6, n11⟩ := loop_some ht2
 refine T.loop (fun n S' => ∃ S'', Gst S' S'' ∧ ∃ y4 : Value, ∃ s5 : Int × (List NP), S'' = ⟨[(9, .val (.int .i64 s5.1)), (8, .val (.int .i64 (x1.length : Int))), (7, .sl 1 (List.map e_sl96 x1)), (3, .val y4), (2, .val (.slice none 0 0))], [.row y4 (List.map eNP s5.2) 1 41], 20⟩ ∧ iter (tree_inners_string.l1 x1) n s5 = some t2) n6 ?_ ?_
 · exact ⟨_, Gst.trans (Gst.only [2, 3, 7, 8, 9] rfl) (Gst.nilRow (ow := []) 1 41 rfl), (.slice none 0 0), (0, []), rfl, n11⟩
 rintro n6 _ ⟨_, g, y4, s5, rfl, i10⟩
 refine T.ghost g ?_
 obtain ⟨m7, q8, rfl, q9, i10⟩ := iter_succ i10
 unfold tree_inners_string.l1 at q9
 refine T.seq ?_
 refine T.region ?_
 refine TL.op1 (OpR.pure rfl) rfl ?_
 refine TL.nil ?_
 show T X _ _ _
 refine T.seq ?_
 rcases ite_some q9 with ⟨c13, q9⟩ | ⟨c13, q9⟩
 rotate_left
 · refine T.condF rfl (decide_eq_false c13) ?_
   refine T.exit ?_
   obtain rfl := Option.some.inj q9
   obtain rfl : _ = _ := i10
   exact ⟨_, Gst.only [2, 3] rfl, y4, rfl⟩
 refine T.condT rfl (decide_eq_true c13) ?_
 refine T.skip ?_
 show T X _ _ _
 refine T.seq ?_
 refine T.block ?_
 refine T.seq ?_
 refine T.region ?_
 obtain ⟨x14, hx14, q9⟩ := bnd_some q9
 refine TL.op1 (OpR.indexM e_sl96 hx14 rfl rfl rfl rfl rfl) rfl ?_
 refine TL.op1 (OpR.pure rfl) rfl ?_
 refine TL.op1 (OpR.pure rfl) rfl ?_
 refine TL.nil ?_
 show T X _ _ _
 refine T.region ?_
 refine TL.op1 (OpR.pure rfl) rfl ?_
 refine TL.op1 (OpR.pure rfl) rfl ?_
 obtain ⟨x15, hx15, q9⟩ := bnd_some q9
 refine TL.op1 (OpR.call0 fn88 (tree_inner_string_c hx15) rfl) rfl ?_
 refine TL.op1 (OpR.lit rfl rfl rfl rfl rfl rfl rfl) rfl ?_
 obtain ⟨x16, hx16, q9⟩ := bnd_some q9
 refine TL.op (OpR.appendM (m := [(c_tree_Node_string (⟨x15.1, x15.2.1, x15.2.2⟩ : tree_Node_string))]) eNP 0 hx16 rfl rfl rfl rfl rfl rfl rfl rfl rfl (fun _ => rfl)) rfl (fun v17 => ?_)
 refine TL.op1 (OpR.pure rfl) rfl ?_
 refine TL.nil ?_
 show T X _ _ _
 refine T.region ?_
 refine TL.op1 (OpR.pure rfl) rfl ?_
 refine TL.op1 (OpR.pure rfl) rfl ?_
 refine TL.nil ?_
 obtain rfl := Option.some.inj q9
 exact ⟨m7, Nat.lt_succ_self _, _, Gst.only [2, 3, 7, 8, 9] rfl, v17, (w64 (s5.1 + 1), x16), rfl, i10⟩
noncomputable def tree_above_string.l1 (s3 : (List NP)) : Option (Lp (List NP) (List NP)) :=
  if (s3.length : Int) > 1 then
    bnd (tree_inners_string s3) fun x12 =>
    some (Lp.next x12)
  else
    some (Lp.done s3)
noncomputable def tree_above_string.l2 (s21 : (List NP) × (List (List UInt8)) × Int) : Option (Lp ((List NP) × (List (List UInt8)) × Int) ((List NP) × (List (List UInt8)) × Int)) :=
  if (s21.1.length : Int) = 1 then
    bnd (idx s21.1 0) fun x30 =>
    bnd (o_tree_Node_string x30) fun x31 =>
    some (Lp.next (x31.fKids, x31.fItems, x31.fN))
  else
    some (Lp.done (s21.1, s21.2.1, s21.2.2))
noncomputable def tree_above_string (a0 : List NP) : Option tree_Tree_string :=
  bnd (loop tree_above_string.l1 a0 : Option (List NP)) fun t2 =>
  bnd (if (t2.length : Int) = 0 then
    some true
  else
    bnd (idx t2 0) fun x15 =>
    bnd (o_tree_Node_string x15) fun x16 =>
    some (x16.fN == 0) : Option Bool) fun t13 =>
  if t13 = true then
    some (⟨none⟩ : tree_Tree_string)
  else
    bnd (idx t2 0) fun x18 =>
    bnd (o_tree_Node_string x18) fun x19 =>
    bnd (loop tree_above_string.l2 (x19.fKids, x19.fItems, x19.fN) : Option ((List NP) × (List (List UInt8)) × Int)) fun t20 =>
    some (⟨(some (c_tree_Node_string (⟨t20.1, t20.2.1, t20.2.2⟩ : tree_Node_string)))⟩ : tree_Tree_string)
set_option maxHeartbeats 4000000 in
theorem tree_above_string_c {a0 : List NP} {res : tree_Tree_string} (h0 : tree_above_string a0 = some res) : CallF X 56 [.sl 1 (List.map eNP a0)] [] (fun x => .agg [(eOP res.fRoot)]) (fun x => []) := by
 unfold tree_above_string at h0
 refine CallF.mkG (X := X) rfl Try.func56 rfl rfl Try.ntmps56 rfl rfl ?_
 refine T.seq ?_
 refine T.region ?_
 refine TL.op (OpR.alloc rfl rfl (fun _ => rfl)) rfl (fun p1 => ?_)
 refine TL.nil ?_
 show T X _ _ _
 refine T.seq ?_
 obtain ⟨t2, ht2, h0⟩ := bnd_some h0
 refine T.cutC (fun S' => S' = ⟨[(2, .val (.pointer (some ⟨(blk p1), 0, none⟩))), (0, .sl 1 (List.map eNP t2))], [.var (blk p1) [(eOP none)] 43], 39⟩) (fun _ h => h) ?_ ?_
 · refine T.block ?_
   obtain ⟨n4, n9⟩ := loop_some ht2
   refine T.loop (fun n S' => ∃ S'', Gst S' S'' ∧ ∃ s3 : (List NP), S'' = ⟨[(2, .val (.pointer (some ⟨(blk p1), 0, none⟩))), (0, .sl 1 (List.map eNP s3))], [.var (blk p1) [(eOP none)] 43], 39⟩ ∧ iter tree_above_string.l1 n s3 = some t2) n4 ?_ ?_
   · exact ⟨_, Gst.only [0, 2] rfl, a0, rfl, n9⟩
   rintro n4 _ ⟨_, g, s3, rfl, i8⟩
   refine T.ghost g ?_
   obtain ⟨m5, q6, rfl, q7, i8⟩ := iter_succ i8
   unfold tree_above_string.l1 at q7
   refine T.seq ?_
   refine T.seq ?_
   refine T.region ?_
   refine TL.op1 (OpR.pure rfl) rfl ?_
   refine TL.op1 (OpR.cast (OpR.pure rfl) (intE (lenM _ _))) rfl ?_
   refine TL.op1 (OpR.pure rfl) rfl ?_
   refine TL.nil ?_
   show T X _ _ _
   rcases ite_some q7 with ⟨c11, q7⟩ | ⟨c11, q7⟩
   rotate_left
   · refine T.condF rfl (decide_eq_false c11) ?_
     refine T.exit ?_
     obtain rfl := Option.some.inj q7
     obtain rfl : _ = _ := i8
     exact ⟨_, Gst.only [0, 2] rfl, rfl⟩
   refine T.condT rfl (decide_eq_true c11) ?_
   refine T.skip ?_
   show T X _ _ _
   refine T.block ?_
   refine T.region ?_
   refine TL.op1 (OpR.pure rfl) rfl ?_
   obtain ⟨x12, hx12, q7⟩ := bnd_some q7
   refine TL.op1 (OpR.call0 fn84 (tree_inners_string_c hx12) rfl) rfl ?_
   refine TL.op1 (OpR.pure rfl) rfl ?_
   refine TL.nil ?_
   obtain rfl := Option.some.inj q7
   exact ⟨m5, Nat.lt_succ_self _, _, Gst.only [0, 2] rfl, x12, rfl, i8⟩
 rintro _ rfl
 show T X _ _ _
 refine T.seq ?_
 refine T.seq ?_
 obtain ⟨t13, ht13, h0⟩ := bnd_some h0
 refine T.cutC (fun S' => S' = ⟨[(20, .val (.bool t13)), (2, .val (.pointer (some ⟨(blk p1), 0, none⟩))), (0, .sl 1 (List.map eNP t2))], [.var (blk p1) [(eOP none)] 43], 39⟩) (fun _ h => h) ?_ ?_
 · refine T.region ?_
   refine TL.op1 (OpR.pure rfl) rfl ?_
   refine TL.op1 (OpR.cast (OpR.pure rfl) (intE (lenM _ _))) rfl ?_
   refine TL.op1 (OpR.pure rfl) rfl ?_
   refine TL.op1 (OpR.pure rfl) rfl ?_
   rcases ite_some ht13 with ⟨c14, ht13⟩ | ⟨c14, ht13⟩
   · refine TL.off rfl rfl rfl rfl (beq_iff_eq.2 c14) rfl rfl ?_
     refine TL.off rfl rfl rfl rfl (beq_iff_eq.2 c14) rfl rfl ?_
     refine TL.off rfl rfl rfl rfl (beq_iff_eq.2 c14) rfl rfl ?_
     refine TL.off rfl rfl rfl rfl (beq_iff_eq.2 c14) rfl rfl ?_
     refine TL.off rfl rfl rfl rfl (beq_iff_eq.2 c14) rfl rfl ?_
     refine TL.off rfl rfl rfl rfl (beq_iff_eq.2 c14) rfl rfl ?_
     refine TL.off rfl rfl rfl rfl (beq_iff_eq.2 c14) rfl rfl ?_
     refine TL.op1 (OpR.pickT rfl (beq_iff_eq.2 c14) rfl) rfl ?_
     refine TL.nil ?_
     obtain rfl := Option.some.inj ht13
     exact ⟨_, Gst.only [0, 2, 20] rfl, rfl⟩
   refine TL.on rfl rfl rfl rfl (beq_eq_false_iff_ne.2 c14) ?_
   refine TL.op1 (OpR.pure rfl) rfl ?_
   refine TL.on rfl rfl rfl rfl (beq_eq_false_iff_ne.2 c14) ?_
   obtain ⟨x15, hx15, ht13⟩ := bnd_some ht13
   obtain ⟨x16, hx16, ht13⟩ := bnd_some ht13
   rw [o_tree_Node_string_eq hx16] at hx15
   refine TL.op1 (OpR.indexM eNP hx15 rfl rfl rfl rfl rfl) rfl ?_
   refine TL.on rfl rfl rfl rfl (beq_eq_false_iff_ne.2 c14) ?_
   refine TL.op1 (OpR.pure rfl) rfl ?_
   refine TL.on rfl rfl rfl rfl (beq_eq_false_iff_ne.2 c14) ?_
   refine TL.op1 (OpR.pure rfl) rfl ?_
   refine TL.on rfl rfl rfl rfl (beq_eq_false_iff_ne.2 c14) ?_
   refine TL.op1 (OpR.pure rfl) rfl ?_
   refine TL.on rfl rfl rfl rfl (beq_eq_false_iff_ne.2 c14) ?_
   refine TL.op1 (OpR.pure rfl) rfl ?_
   refine TL.on rfl rfl rfl rfl (beq_eq_false_iff_ne.2 c14) ?_
   refine TL.op1 (OpR.pure rfl) rfl ?_
   refine TL.op1 (OpR.pickF rfl (beq_eq_false_iff_ne.2 c14) rfl) rfl ?_
   refine TL.nil ?_
   obtain rfl := Option.some.inj ht13
   exact ⟨_, Gst.only [0, 2, 20] rfl, rfl⟩
 rintro _ rfl
 show T X _ _ _
 rcases ite_some h0 with ⟨c17, h0⟩ | ⟨c17, h0⟩
 · refine T.condT rfl (c17) ?_
   refine T.seq ?_
   refine T.region ?_
   refine TL.op1 (OpR.build rfl rfl rfl rfl rfl) rfl ?_
   refine TL.op0 (OpR.store 0 rfl rfl rfl rfl rfl rfl rfl rfl) ?_
   refine TL.nil ?_
   show T X _ _ _
   refine T.ret ?_
   obtain rfl := Option.some.inj h0
   exact PostG.retP (ks := []) (Gst.only [2] rfl) undef (ResL.cons (ResV.var 0 rfl rfl rfl rfl) ResL.nil) rfl rfl rfl rfl
 refine T.condF rfl (eq_false_of_ne_true c17) ?_
 refine T.skip ?_
 show T X _ _ _
 refine T.seq ?_
 refine T.region ?_
 refine TL.op1 (OpR.pure rfl) rfl ?_
 obtain ⟨x18, hx18, h0⟩ := bnd_some h0
 obtain ⟨x19, hx19, h0⟩ := bnd_some h0
 rw [o_tree_Node_string_eq hx19] at hx18
 refine TL.op1 (OpR.indexM eNP hx18 rfl rfl rfl rfl rfl) rfl ?_
 refine TL.op1 (OpR.pure rfl) rfl ?_
 refine TL.op1 (OpR.pure rfl) rfl ?_
 refine TL.nil ?_
 show T X _ _ _
 refine T.seq ?_
 obtain ⟨t20, ht20, h0⟩ := bnd_some h0
 refine T.cutC (fun S' => S' = ⟨[(3, .nod [.sl 1 (List.map eNP t20.1), .sl 1 (List.map eS t20.2.1), .val (.int .i64 t20.2.2)]), (2, .val (.pointer (some ⟨(blk p1), 0, none⟩)))], [.var (blk p1) [(eOP none)] 43], 39⟩) (fun _ h => h) ?_ ?_
 rotate_left
 · rintro _ rfl
   show T X _ _ _
   refine T.seq ?_
   refine T.region ?_
   refine TL.op1 (OpR.pure rfl) rfl ?_
   refine TL.op1 (OpR.build rfl rfl rfl rfl rfl) rfl ?_
   refine TL.op0 (OpR.store 0 rfl rfl rfl rfl rfl rfl rfl rfl) ?_
   refine TL.nil ?_
   show T X _ _ _
   refine T.ret ?_
   obtain rfl := Option.some.inj h0
   exact PostG.retP (ks := []) (Gst.only [2] rfl) undef (ResL.cons (ResV.var 0 rfl rfl rfl rfl) ResL.nil) rfl rfl rfl rfl
 refine T.block ?_
 obtain ⟨n22, n27⟩ := loop_some ht20
 refine T.loop (fun n S' => ∃ S'', Gst S' S'' ∧ ∃ s21 : (List NP) × (List (List UInt8)) × Int, S'' = ⟨[(3, .nod [.sl 1 (List.map eNP s21.1), .sl 1 (List.map eS s21.2.1), .val (.int .i64 s21.2.2)]), (2, .val (.pointer (some ⟨(blk p1), 0, none⟩)))], [.var (blk p1) [(eOP none)] 43], 39⟩ ∧ iter tree_above_string.l2 n s21 = some t20) n22 ?_ ?_
 · exact ⟨_, Gst.only [2, 3] rfl, (x19.fKids, x19.fItems, x19.fN), rfl, n27⟩
 rintro n22 _ ⟨_, g, s21, rfl, i26⟩
 refine T.ghost g ?_
 obtain ⟨m23, q24, rfl, q25, i26⟩ := iter_succ i26
 unfold tree_above_string.l2 at q25
 refine T.seq ?_
 refine T.seq ?_
 refine T.region ?_
 refine TL.op1 (OpR.pure rfl) rfl ?_
 refine TL.op1 (OpR.pure rfl) rfl ?_
 refine TL.op1 (OpR.pure rfl) rfl ?_
 refine TL.op1 (OpR.pure rfl) rfl ?_
 refine TL.op1 (OpR.cast (OpR.pure rfl) (intE (lenM _ _))) rfl ?_
 refine TL.op1 (OpR.pure rfl) rfl ?_
 refine TL.nil ?_
 show T X _ _ _
 rcases ite_some q25 with ⟨c29, q25⟩ | ⟨c29, q25⟩
 rotate_left
 · refine T.condF rfl (beq_eq_false_iff_ne.2 c29) ?_
   refine T.exit ?_
   obtain rfl := Option.some.inj q25
   obtain rfl : _ = _ := i26
   exact ⟨_, Gst.only [2, 3] rfl, rfl⟩
 refine T.condT rfl (beq_iff_eq.2 c29) ?_
 refine T.skip ?_
 show T X _ _ _
 refine T.block ?_
 refine T.region ?_
 refine TL.op1 (OpR.pure rfl) rfl ?_
 refine TL.op1 (OpR.pure rfl) rfl ?_
 refine TL.op1 (OpR.pure rfl) rfl ?_
 refine TL.op1 (OpR.pure rfl) rfl ?_
 obtain ⟨x30, hx30, q25⟩ := bnd_some q25
 obtain ⟨x31, hx31, q25⟩ := bnd_some q25
 rw [o_tree_Node_string_eq hx31] at hx30
 refine TL.op1 (OpR.indexM eNP hx30 rfl rfl rfl rfl rfl) rfl ?_
 refine TL.op1 (OpR.pure rfl) rfl ?_
 refine TL.op1 (OpR.pure rfl) rfl ?_
 refine TL.nil ?_
 obtain rfl := Option.some.inj q25
 exact ⟨m23, Nat.lt_succ_self _, _, Gst.only [2, 3] rfl, (x31.fKids, x31.fItems, x31.fN), rfl, i26⟩
noncomputable def tree_Of_string (a0 : List (List UInt8)) : Option tree_Tree_string :=
  bnd (tree_leaves_string a0) fun x2 =>
  bnd (tree_above_string x2) fun x3 =>
  some x3
set_option maxHeartbeats 4000000 in
theorem tree_Of_string_c {a0 : List (List UInt8)} {res : tree_Tree_string} (h0 : tree_Of_string a0 = some res) : CallF X 18 [.sl 1 (List.map eS a0)] [] (fun x => .agg [(eOP res.fRoot)]) (fun x => []) := by
 unfold tree_Of_string at h0
 refine CallF.mkG (X := X) rfl Try.func18 rfl rfl Try.ntmps18 rfl rfl ?_
 refine T.seq ?_
 refine T.region ?_
 refine TL.op (OpR.alloc rfl rfl (fun _ => rfl)) rfl (fun p1 => ?_)
 refine TL.nil ?_
 show T X _ _ _
 refine T.seq ?_
 refine T.region ?_
 refine TL.op1 (OpR.pure rfl) rfl ?_
 obtain ⟨x2, hx2, h0⟩ := bnd_some h0
 refine TL.op1 (OpR.call0 fn57 (tree_leaves_string_c hx2) rfl) rfl ?_
 obtain ⟨x3, hx3, h0⟩ := bnd_some h0
 refine TL.op1 (OpR.call0 fn56 (tree_above_string_c hx3) rfl) rfl ?_
 refine TL.op0 (OpR.store 0 rfl rfl rfl rfl rfl rfl rfl rfl) ?_
 refine TL.nil ?_
 show T X _ _ _
 refine T.ret ?_
 obtain rfl := Option.some.inj h0
 exact PostG.retP (ks := []) (Gst.only [2] rfl) undef (ResL.cons (ResV.var 0 rfl rfl rfl rfl) ResL.nil) rfl rfl rfl rfl
noncomputable def tree_Tree_string_Len (a0 : tree_Tree_string) : Option Int :=
  bnd (some a0.fRoot) fun q1 => match q1 with
    | none =>
      some 0
    | some z2 =>
      bnd (o_tree_Node_string z2) fun x3 =>
      some x3.fN
set_option maxHeartbeats 4000000 in
theorem tree_Tree_string_Len_c {a0 : tree_Tree_string} {res : Int} (h0 : tree_Tree_string_Len a0 = some res) : CallF X 22 [.agg [(eOP a0.fRoot)]] [] (fun x => .val (.int .i64 res)) (fun x => []) := by
 unfold tree_Tree_string_Len at h0
 refine CallF.mkG (X := X) rfl Try.func22 rfl rfl Try.ntmps22 rfl rfl ?_
 refine T.seq ?_
 refine T.region ?_
 refine TL.op1 (OpR.boxImm rfl rfl) rfl ?_
 refine TL.op1 (OpR.pure rfl) rfl ?_
 refine TL.nil ?_
 show T X _ _ _
 refine T.seq ?_
 refine T.seq ?_
 refine T.region ?_
 refine TL.op1 (OpR.pure rfl) rfl ?_
 obtain ⟨q1, hq1, h0⟩ := bnd_some h0
 rcases q1 with _ | z2
 · dsimp only at h0
   refine TL.op1 (OpR.cast (OpR.pure rfl) (congrArg eOP (Option.some.inj hq1))) rfl ?_
   refine TL.op1 (OpR.ptrNil rfl rfl rfl) rfl ?_
   refine TL.nil ?_
   show T X _ _ _
   refine T.condT rfl rfl ?_
   refine T.seq ?_
   refine T.region ?_
   refine TL.op1 (OpR.pure rfl) rfl ?_
   refine TL.nil ?_
   show T X _ _ _
   refine T.ret ?_
   obtain rfl := Option.some.inj h0
   exact PostG.retP (ks := []) (Gst.only [2] rfl) undef (ResL.cons (ResV.tmp rfl) ResL.nil) rfl rfl rfl rfl
 dsimp only at h0
 obtain ⟨x3, hx3, h0⟩ := bnd_some h0
 rw [o_tree_Node_string_eq hx3] at hq1
 refine TL.op1 (OpR.cast (OpR.pure rfl) (congrArg eOP (Option.some.inj hq1))) rfl ?_
 refine TL.op1 (OpR.nodNil rfl rfl rfl) rfl ?_
 refine TL.nil ?_
 show T X _ _ _
 refine T.condF rfl rfl ?_
 refine T.skip ?_
 show T X _ _ _
 refine T.seq ?_
 refine T.region ?_
 refine TL.op1 (OpR.pure rfl) rfl ?_
 refine TL.op1 (OpR.cast (OpR.pure rfl) (congrArg eOP (Option.some.inj hq1))) rfl ?_
 refine TL.op1 (OpR.pure rfl) rfl ?_
 refine TL.op1 (OpR.pure rfl) rfl ?_
 refine TL.op1 (OpR.pure rfl) rfl ?_
 refine TL.op1 (OpR.pure rfl) rfl ?_
 refine TL.nil ?_
 show T X _ _ _
 refine T.ret ?_
 obtain rfl := Option.some.inj h0
 exact PostG.retP (ks := []) (Gst.only [2] rfl) undef (ResL.cons (ResV.tmp rfl) ResL.nil) rfl rfl rfl rfl
noncomputable def tree_Tree_string_has (a0 : tree_Tree_string) (a1 : Int) : Option Bool :=
  bnd (if a1 ≥ 0 then
    bnd (tree_Tree_string_Len a0) fun x3 =>
    some (decide (a1 < x3))
  else
    some false : Option Bool) fun t1 =>
  some t1
set_option maxHeartbeats 4000000 in
theorem tree_Tree_string_has_c {a0 : tree_Tree_string} {a1 : Int} {res : Bool} (h0 : tree_Tree_string_has a0 a1 = some res) : CallF X 58 [.agg [(eOP a0.fRoot)], .val (.int .i64 a1)] [] (fun x => .val (.bool res)) (fun x => []) := by
 unfold tree_Tree_string_has at h0
 refine CallF.mkG (X := X) rfl Try.func58 rfl rfl Try.ntmps58 rfl rfl ?_
 refine T.seq ?_
 refine T.region ?_
 refine TL.op1 (OpR.boxImm rfl rfl) rfl ?_
 refine TL.op1 (OpR.pure rfl) rfl ?_
 refine TL.nil ?_
 show T X _ _ _
 refine T.seq ?_
 obtain ⟨t1, ht1, h0⟩ := bnd_some h0
 refine T.cutC (fun S' => S' = ⟨[(4, .val (.bool t1))], [], 13⟩) (fun _ h => h) ?_ ?_
 rotate_left
 · rintro _ rfl
   show T X _ _ _
   refine T.ret ?_
   obtain rfl := Option.some.inj h0
   exact PostG.retP (ks := []) (Gst.only [4] rfl) undef (ResL.cons (ResV.tmp rfl) ResL.nil) rfl rfl rfl rfl
 refine T.region ?_
 refine TL.op1 (OpR.pure rfl) rfl ?_
 refine TL.op1 (OpR.pure rfl) rfl ?_
 refine TL.op1 (OpR.pure rfl) rfl ?_
 rcases ite_some ht1 with ⟨c2, ht1⟩ | ⟨c2, ht1⟩
 rotate_left
 · refine TL.off rfl rfl rfl rfl (decide_eq_false c2) rfl rfl ?_
   refine TL.off rfl rfl rfl rfl (decide_eq_false c2) rfl rfl ?_
   refine TL.off rfl rfl rfl rfl (decide_eq_false c2) rfl rfl ?_
   refine TL.off rfl rfl rfl rfl (decide_eq_false c2) rfl rfl ?_
   refine TL.op1 (OpR.pickF rfl (decide_eq_false c2) rfl) rfl ?_
   refine TL.op1 (OpR.pure rfl) rfl ?_
   refine TL.nil ?_
   obtain rfl := Option.some.inj ht1
   exact ⟨_, Gst.only [4] rfl, rfl⟩
 refine TL.on rfl rfl rfl rfl (decide_eq_true c2) ?_
 refine TL.op1 (OpR.pure rfl) rfl ?_
 refine TL.on rfl rfl rfl rfl (decide_eq_true c2) ?_
 refine TL.op1 (OpR.pure rfl) rfl ?_
 refine TL.on rfl rfl rfl rfl (decide_eq_true c2) ?_
 obtain ⟨x3, hx3, ht1⟩ := bnd_some ht1
 refine TL.op1 (OpR.call0 fn22 (tree_Tree_string_Len_c hx3) rfl) rfl ?_
 refine TL.on rfl rfl rfl rfl (decide_eq_true c2) ?_
 refine TL.op1 (OpR.pure rfl) rfl ?_
 refine TL.op1 (OpR.pickT rfl (decide_eq_true c2) rfl) rfl ?_
 refine TL.op1 (OpR.pure rfl) rfl ?_
 refine TL.nil ?_
 obtain rfl := Option.some.inj ht1
 exact ⟨_, Gst.only [4] rfl, rfl⟩
noncomputable def tree_Node_string_flat (a0 : List NP) (a1 : List (List UInt8)) (a2 : Int) : Option Bool :=
  some ((a0.length : Int) == 0)
set_option maxHeartbeats 4000000 in
theorem tree_Node_string_flat_c {a0 : List NP} {a1 : List (List UInt8)} {a2 : Int} {res : Bool} (h0 : tree_Node_string_flat a0 a1 a2 = some res) : CallF X 59 [.nod [.sl 1 (List.map eNP a0), .sl 1 (List.map eS a1), .val (.int .i64 a2)]] [] (fun x => .val (.bool res)) (fun x => []) := by
 unfold tree_Node_string_flat at h0
 refine CallF.mkG (X := X) rfl Try.func59 rfl rfl Try.ntmps59 rfl rfl ?_
 refine T.seq ?_
 refine T.region ?_
 refine TL.op1 (OpR.pure rfl) rfl ?_
 refine TL.nil ?_
 show T X _ _ _
 refine T.seq ?_
 refine T.region ?_
 refine TL.op1 (OpR.pure rfl) rfl ?_
 refine TL.op1 (OpR.pure rfl) rfl ?_
 refine TL.op1 (OpR.pure rfl) rfl ?_
 refine TL.op1 (OpR.pure rfl) rfl ?_
 refine TL.op1 (OpR.cast (OpR.pure rfl) (intE (lenM _ _))) rfl ?_
 refine TL.op1 (OpR.pure rfl) rfl ?_
 refine TL.op1 (OpR.pure rfl) rfl ?_
 refine TL.nil ?_
 show T X _ _ _
 refine T.ret ?_
 obtain rfl := Option.some.inj h0
 exact PostG.retP (ks := []) (Gst.only [2] rfl) undef (ResL.cons (ResV.tmp rfl) ResL.nil) rfl rfl rfl rfl
noncomputable def tree_Node_string_kid.l1 (a0 : List NP) (s2 : Int × Int) : Option (Lp (Int × Int) (Int × Int)) :=
  bnd (if s2.2 < (w64 ((a0.length : Int) - 1)) then
    bnd (idx a0 s2.2) fun x12 =>
    bnd (o_tree_Node_string x12) fun x13 =>
    some (decide (s2.1 ≥ x13.fN))
  else
    some false : Option Bool) fun t10 =>
  if t10 = true then
    bnd (idx a0 s2.2) fun x15 =>
    bnd (o_tree_Node_string x15) fun x16 =>
    some (Lp.next (w64 (s2.1 - x16.fN), w64 (s2.2 + 1)))
  else
    some (Lp.done (s2.1, s2.2))
noncomputable def tree_Node_string_kid (a0 : List NP) (a1 : List (List UInt8)) (a2 : Int) (a3 : Int) : Option (Int × Int) :=
  bnd (loop (tree_Node_string_kid.l1 a0) (a3, 0) : Option (Int × Int)) fun t1 =>
  some (t1.2, t1.1)
set_option maxHeartbeats 4000000 in
theorem tree_Node_string_kid_c {a0 : List NP} {a1 : List (List UInt8)} {a2 : Int} {a3 : Int} {res : Int × Int} (h0 : tree_Node_string_kid a0 a1 a2 a3 = some res) : CallF X 60 [.nod [.sl 1 (List.map eNP a0), .sl 1 (List.map eS a1), .val (.int .i64 a2)], .val (.int .i64 a3)] [] (fun x => .tup [.val (.int .i64 res.1), .val (.int .i64 res.2)]) (fun x => []) := by
 unfold tree_Node_string_kid at h0
 refine CallF.mkG (X := X) rfl Try.func60 rfl rfl Try.ntmps60 rfl rfl ?_
 refine T.seq ?_
 refine T.region ?_
 refine TL.op1 (OpR.pure rfl) rfl ?_
 refine TL.op1 (OpR.pure rfl) rfl ?_
 refine TL.nil ?_
 show T X _ _ _
 refine T.seq ?_
 refine T.region ?_
 refine TL.op1 (OpR.pure rfl) rfl ?_
 refine TL.nil ?_
 show T X _ _ _
 refine T.seq ?_
 obtain ⟨t1, ht1, h0⟩ := bnd_some h0
 refine T.cutC (fun S' => S' = ⟨[(6, .val (.int .i64 t1.2)), (5, .val (.int .i64 0)), (4, .val (.int .i64 0)), (1, .val (.int .i64 t1.1))], [], 45⟩) (fun _ h => h) ?_ ?_
 rotate_left
 · rintro _ rfl
   show T X _ _ _
   refine T.seq ?_
   refine T.region ?_
   refine TL.op1 (OpR.pure rfl) rfl ?_
   refine TL.op1 (OpR.pure rfl) rfl ?_
   refine TL.op1 (OpR.pure rfl) rfl ?_
   refine TL.op1 (OpR.pure rfl) rfl ?_
   refine TL.nil ?_
   show T X _ _ _
   refine T.ret ?_
   obtain rfl := Option.some.inj h0
   exact PostG.retP (ks := []) (Gst.only [4, 5] rfl) undef (ResL.cons (ResV.tmp rfl) (ResL.cons (ResV.tmp rfl) ResL.nil)) rfl rfl rfl rfl
 refine T.block ?_
 obtain ⟨n3, n8⟩ := loop_some ht1
 refine T.loop (fun n S' => ∃ S'', Gst S' S'' ∧ ∃ s2 : Int × Int, S'' = ⟨[(6, .val (.int .i64 s2.2)), (5, .val (.int .i64 0)), (4, .val (.int .i64 0)), (1, .val (.int .i64 s2.1)), (0, .nod [.sl 1 (List.map eNP a0), .sl 1 (List.map eS a1), .val (.int .i64 a2)])], [], 45⟩ ∧ iter (tree_Node_string_kid.l1 a0) n s2 = some t1) n3 ?_ ?_
 · exact ⟨_, Gst.only [0, 1, 4, 5, 6] rfl, (a3, 0), rfl, n8⟩
 rintro n3 _ ⟨_, g, s2, rfl, i7⟩
 refine T.ghost g ?_
 obtain ⟨m4, q5, rfl, q6, i7⟩ := iter_succ i7
 unfold tree_Node_string_kid.l1 at q6
 refine T.seq ?_
 refine T.seq ?_
 obtain ⟨t10, ht10, q6⟩ := bnd_some q6
 refine T.cutC (fun S' => S' = ⟨[(28, .val (.bool t10)), (6, .val (.int .i64 s2.2)), (5, .val (.int .i64 0)), (4, .val (.int .i64 0)), (1, .val (.int .i64 s2.1)), (0, .nod [.sl 1 (List.map eNP a0), .sl 1 (List.map eS a1), .val (.int .i64 a2)])], [], 45⟩) (fun _ h => h) ?_ ?_
 rotate_left
 · rintro _ rfl
   show T X _ _ _
   rcases ite_some q6 with ⟨c14, q6⟩ | ⟨c14, q6⟩
   rotate_left
   · refine T.condF rfl (eq_false_of_ne_true c14) ?_
     refine T.exit ?_
     obtain rfl := Option.some.inj q6
     obtain rfl : _ = _ := i7
     exact ⟨_, Gst.only [1, 4, 5, 6] rfl, rfl⟩
   refine T.condT rfl (c14) ?_
   refine T.skip ?_
   show T X _ _ _
   refine T.block ?_
   refine T.seq ?_
   refine T.region ?_
   refine TL.op1 (OpR.pure rfl) rfl ?_
   refine TL.op1 (OpR.pure rfl) rfl ?_
   refine TL.op1 (OpR.pure rfl) rfl ?_
   refine TL.op1 (OpR.pure rfl) rfl ?_
   refine TL.op1 (OpR.pure rfl) rfl ?_
   refine TL.op1 (OpR.pure rfl) rfl ?_
   obtain ⟨x15, hx15, q6⟩ := bnd_some q6
   obtain ⟨x16, hx16, q6⟩ := bnd_some q6
   rw [o_tree_Node_string_eq hx16] at hx15
   refine TL.op1 (OpR.indexM eNP hx15 rfl rfl rfl rfl rfl) rfl ?_
   refine TL.op1 (OpR.pure rfl) rfl ?_
   refine TL.op1 (OpR.pure rfl) rfl ?_
   refine TL.op1 (OpR.pure rfl) rfl ?_
   refine TL.op1 (OpR.pure rfl) rfl ?_
   refine TL.op1 (OpR.pure rfl) rfl ?_
   refine TL.op1 (OpR.pure rfl) rfl ?_
   refine TL.nil ?_
   show T X _ _ _
   refine T.region ?_
   refine TL.op1 (OpR.pure rfl) rfl ?_
   refine TL.op1 (OpR.pure rfl) rfl ?_
   refine TL.op1 (OpR.pure rfl) rfl ?_
   refine TL.nil ?_
   obtain rfl := Option.some.inj q6
   exact ⟨m4, Nat.lt_succ_self _, _, Gst.only [0, 1, 4, 5, 6] rfl, (w64 (s2.1 - x16.fN), w64 (s2.2 + 1)), rfl, i7⟩
 refine T.region ?_
 refine TL.op1 (OpR.pure rfl) rfl ?_
 refine TL.op1 (OpR.pure rfl) rfl ?_
 refine TL.op1 (OpR.pure rfl) rfl ?_
 refine TL.op1 (OpR.pure rfl) rfl ?_
 refine TL.op1 (OpR.pure rfl) rfl ?_
 refine TL.op1 (OpR.cast (OpR.pure rfl) (intE (lenM _ _))) rfl ?_
 refine TL.op1 (OpR.pure rfl) rfl ?_
 refine TL.op1 (OpR.pure rfl) rfl ?_
 refine TL.op1 (OpR.pure rfl) rfl ?_
 rcases ite_some ht10 with ⟨c11, ht10⟩ | ⟨c11, ht10⟩
 rotate_left
 · refine TL.off rfl rfl rfl rfl (decide_eq_false c11) rfl rfl ?_
   refine TL.off rfl rfl rfl rfl (decide_eq_false c11) rfl rfl ?_
   refine TL.off rfl rfl rfl rfl (decide_eq_false c11) rfl rfl ?_
   refine TL.off rfl rfl rfl rfl (decide_eq_false c11) rfl rfl ?_
   refine TL.off rfl rfl rfl rfl (decide_eq_false c11) rfl rfl ?_
   refine TL.off rfl rfl rfl rfl (decide_eq_false c11) rfl rfl ?_
   refine TL.off rfl rfl rfl rfl (decide_eq_false c11) rfl rfl ?_
   refine TL.off rfl rfl rfl rfl (decide_eq_false c11) rfl rfl ?_
   refine TL.off rfl rfl rfl rfl (decide_eq_false c11) rfl rfl ?_
   refine TL.off rfl rfl rfl rfl (decide_eq_false c11) rfl rfl ?_
   refine TL.off rfl rfl rfl rfl (decide_eq_false c11) rfl rfl ?_
   refine TL.off rfl rfl rfl rfl (decide_eq_false c11) rfl rfl ?_
   refine TL.op1 (OpR.pickF rfl (decide_eq_false c11) rfl) rfl ?_
   refine TL.nil ?_
   obtain rfl := Option.some.inj ht10
   exact ⟨_, Gst.only [0, 1, 4, 5, 6, 28] rfl, rfl⟩
 refine TL.on rfl rfl rfl rfl (decide_eq_true c11) ?_
 refine TL.op1 (OpR.pure rfl) rfl ?_
 refine TL.on rfl rfl rfl rfl (decide_eq_true c11) ?_
 refine TL.op1 (OpR.pure rfl) rfl ?_
 refine TL.on rfl rfl rfl rfl (decide_eq_true c11) ?_
 refine TL.op1 (OpR.pure rfl) rfl ?_
 refine TL.on rfl rfl rfl rfl (decide_eq_true c11) ?_
 refine TL.op1 (OpR.pure rfl) rfl ?_
 refine TL.on rfl rfl rfl rfl (decide_eq_true c11) ?_
 refine TL.op1 (OpR.pure rfl) rfl ?_
 refine TL.on rfl rfl rfl rfl (decide_eq_true c11) ?_
 refine TL.op1 (OpR.pure rfl) rfl ?_
 refine TL.on rfl rfl rfl rfl (decide_eq_true c11) ?_
 obtain ⟨x12, hx12, ht10⟩ := bnd_some ht10
 obtain ⟨x13, hx13, ht10⟩ := bnd_some ht10
 rw [o_tree_Node_string_eq hx13] at hx12
 refine TL.op1 (OpR.indexM eNP hx12 rfl rfl rfl rfl rfl) rfl ?_
 refine TL.on rfl rfl rfl rfl (decide_eq_true c11) ?_
 refine TL.op1 (OpR.pure rfl) rfl ?_
 refine TL.on rfl rfl rfl rfl (decide_eq_true c11) ?_
 refine TL.op1 (OpR.pure rfl) rfl ?_
 refine TL.on rfl rfl rfl rfl (decide_eq_true c11) ?_
 refine TL.op1 (OpR.pure rfl) rfl ?_
 refine TL.on rfl rfl rfl rfl (decide_eq_true c11) ?_
 refine TL.op1 (OpR.pure rfl) rfl ?_
 refine TL.on rfl rfl rfl rfl (decide_eq_true c11) ?_
 refine TL.op1 (OpR.pure rfl) rfl ?_
 refine TL.op1 (OpR.pickT rfl (decide_eq_true c11) rfl) rfl ?_
 refine TL.nil ?_
 obtain rfl := Option.some.inj ht10
 exact ⟨_, Gst.only [0, 1, 4, 5, 6, 28] rfl, rfl⟩
noncomputable def tree_Tree_string_At.l1 (s6 : Unit) : Option (Lp Unit ((List UInt8) × Bool)) :=
  none
noncomputable def tree_Tree_string_At.l2 (s16 : Int × (List NP) × (List (List UInt8)) × Int) : Option (Lp (Int × (List NP) × (List (List UInt8)) × Int) (Int × (List NP) × (List (List UInt8)) × Int)) :=
  bnd (tree_Node_string_flat s16.2.1 s16.2.2.1 s16.2.2.2) fun x24 =>
  if x24 = true then
    some (Lp.done (s16.1, s16.2.1, s16.2.2.1, s16.2.2.2))
  else
    bnd (tree_Node_string_kid s16.2.1 s16.2.2.1 s16.2.2.2 s16.1) fun x26 =>
    bnd (idx s16.2.1 x26.1) fun x27 =>
    bnd (o_tree_Node_string x27) fun x28 =>
    some (Lp.next (x26.2, x28.fKids, x28.fItems, x28.fN))
noncomputable def tree_Tree_string_At (a0 : tree_Tree_string) (a1 : Int) : Option ((List UInt8) × Bool) :=
  bnd (tree_Tree_string_has a0 a1) fun x1 =>
  if x1 = true then
    bnd (some a0.fRoot) fun q3 => match q3 with
      | none =>
        loop tree_Tree_string_At.l1 ()
      | some z4 =>
        bnd (o_tree_Node_string z4) fun x14 =>
        bnd (loop tree_Tree_string_At.l2 (a1, x14.fKids, x14.fItems, x14.fN) : Option (Int × (List NP) × (List (List UInt8)) × Int)) fun t15 =>
        bnd (idx t15.2.2.1 t15.1) fun x29 =>
        some (x29, true)
  else
    some ([], false)
set_option maxHeartbeats 4000000 in
theorem tree_Tree_string_At_c {a0 : tree_Tree_string} {a1 : Int} {res : (List UInt8) × Bool} (h0 : tree_Tree_string_At a0 a1 = some res) : CallF X 19 [.agg [(eOP a0.fRoot)], .val (.int .i64 a1)] [] (fun x => .tup [.val (.string (bs res.1)), .val (.bool res.2)]) (fun x => []) := by
 unfold tree_Tree_string_At at h0
 refine CallF.mkG (X := X) rfl Try.func19 rfl rfl Try.ntmps19 rfl rfl ?_
 refine T.seq ?_
 refine T.region ?_
 refine TL.op1 (OpR.boxImm rfl rfl) rfl ?_
 refine TL.op1 (OpR.pure rfl) rfl ?_
 refine TL.op1 (OpR.pure rfl) rfl ?_
 refine TL.nil ?_
 show T X _ _ _
 refine T.seq ?_
 refine T.seq ?_
 refine T.region ?_
 refine TL.op1 (OpR.pure rfl) rfl ?_
 refine TL.op1 (OpR.pure rfl) rfl ?_
 obtain ⟨x1, hx1, h0⟩ := bnd_some h0
 refine TL.op1 (OpR.call0 fn58 (tree_Tree_string_has_c hx1) rfl) rfl ?_
 refine TL.op1 (OpR.pure rfl) rfl ?_
 refine TL.nil ?_
 show T X _ _ _
 rcases ite_some h0 with ⟨c2, h0⟩ | ⟨c2, h0⟩
 rotate_left
 · refine T.condT rfl (not_f (eq_false_of_ne_true c2)) ?_
   refine T.seq ?_
   refine T.region ?_
   refine TL.op1 (OpR.pure rfl) rfl ?_
   refine TL.nil ?_
   show T X _ _ _
   refine T.seq ?_
   refine T.region ?_
   refine TL.op1 (OpR.pure rfl) rfl ?_
   refine TL.op1 (OpR.pure rfl) rfl ?_
   refine TL.op1 (OpR.pure rfl) rfl ?_
   refine TL.nil ?_
   show T X _ _ _
   refine T.ret ?_
   obtain rfl := Option.some.inj h0
   exact PostG.retP (ks := []) (Gst.only [4, 5] rfl) undef (ResL.cons (ResV.tmp rfl) (ResL.cons (ResV.tmp rfl) ResL.nil)) rfl rfl rfl rfl
 refine T.condF rfl (not_t (c2)) ?_
 refine T.skip ?_
 show T X _ _ _
 refine T.seq ?_
 refine T.region ?_
 refine TL.op1 (OpR.pure rfl) rfl ?_
 obtain ⟨q3, hq3, h0⟩ := bnd_some h0
 rcases q3 with _ | z4
 · dsimp only at h0
   refine TL.op1 (OpR.cast (OpR.pure rfl) (congrArg eOP (Option.some.inj hq3))) rfl ?_
   refine TL.op1 (OpR.pure rfl) rfl ?_
   refine TL.nil ?_
   show T X _ _ _
   refine T.seq ?_
   refine T.block ?_
   obtain ⟨n7, n12⟩ := loop_some h0
   refine T.loop (fun n S' => ∃ S'', Gst S' S'' ∧ ∃ s6 : Unit, S'' = ⟨[(7, .val (.pointer none)), (5, .val (.bool false)), (4, .val (.string (bs []))), (1, .val (.int .i64 a1))], [], 41⟩ ∧ iter tree_Tree_string_At.l1 n s6 = some res) n7 ?_ ?_
   · exact ⟨_, Gst.only [1, 4, 5, 7] rfl, (), rfl, n12⟩
   rintro n7 _ ⟨_, g, s6, rfl, i11⟩
   refine T.ghost g ?_
   obtain ⟨m8, q9, rfl, q10, i11⟩ := iter_succ i11
   unfold tree_Tree_string_At.l1 at q10
   refine T.seq ?_
   refine T.seq ?_
   refine T.region ?_
   refine TL.op1 (OpR.pure rfl) rfl ?_
   exact (by cases q10)
 dsimp only at h0
 obtain ⟨x14, hx14, h0⟩ := bnd_some h0
 rw [o_tree_Node_string_eq hx14] at hq3
 refine TL.op1 (OpR.cast (OpR.pure rfl) (congrArg eOP (Option.some.inj hq3))) rfl ?_
 refine TL.op1 (OpR.pure rfl) rfl ?_
 refine TL.nil ?_
 show T X _ _ _
 refine T.seq ?_
 obtain ⟨t15, ht15, h0⟩ := bnd_some h0
 refine T.cutC (fun S' => S' = ⟨[(7, .nod [.sl 1 (List.map eNP t15.2.1), .sl 1 (List.map eS t15.2.2.1), .val (.int .i64 t15.2.2.2)]), (5, .val (.bool false)), (4, .val (.string (bs []))), (1, .val (.int .i64 t15.1))], [], 41⟩) (fun _ h => h) ?_ ?_
 rotate_left
 · rintro _ rfl
   show T X _ _ _
   refine T.seq ?_
   refine T.region ?_
   refine TL.op1 (OpR.pure rfl) rfl ?_
   refine TL.op1 (OpR.pure rfl) rfl ?_
   refine TL.op1 (OpR.pure rfl) rfl ?_
   refine TL.op1 (OpR.pure rfl) rfl ?_
   refine TL.op1 (OpR.pure rfl) rfl ?_
   obtain ⟨x29, hx29, h0⟩ := bnd_some h0
   refine TL.op1 (OpR.indexM eS hx29 rfl rfl rfl rfl rfl) rfl ?_
   refine TL.op1 (OpR.pure rfl) rfl ?_
   refine TL.op1 (OpR.pure rfl) rfl ?_
   refine TL.op1 (OpR.pure rfl) rfl ?_
   refine TL.nil ?_
   show T X _ _ _
   refine T.ret ?_
   obtain rfl := Option.some.inj h0
   exact PostG.retP (ks := []) (Gst.only [4, 5] rfl) undef (ResL.cons (ResV.tmp rfl) (ResL.cons (ResV.tmp rfl) ResL.nil)) rfl rfl rfl rfl
 refine T.block ?_
 obtain ⟨n17, n22⟩ := loop_some ht15
 refine T.loop (fun n S' => ∃ S'', Gst S' S'' ∧ ∃ s16 : Int × (List NP) × (List (List UInt8)) × Int, S'' = ⟨[(7, .nod [.sl 1 (List.map eNP s16.2.1), .sl 1 (List.map eS s16.2.2.1), .val (.int .i64 s16.2.2.2)]), (5, .val (.bool false)), (4, .val (.string (bs []))), (1, .val (.int .i64 s16.1))], [], 41⟩ ∧ iter tree_Tree_string_At.l2 n s16 = some t15) n17 ?_ ?_
 · exact ⟨_, Gst.only [1, 4, 5, 7] rfl, (a1, x14.fKids, x14.fItems, x14.fN), rfl, n22⟩
 rintro n17 _ ⟨_, g, s16, rfl, i21⟩
 refine T.ghost g ?_
 obtain ⟨m18, q19, rfl, q20, i21⟩ := iter_succ i21
 unfold tree_Tree_string_At.l2 at q20
 refine T.seq ?_
 refine T.seq ?_
 refine T.region ?_
 refine TL.op1 (OpR.pure rfl) rfl ?_
 obtain ⟨x24, hx24, q20⟩ := bnd_some q20
 refine TL.op1 (OpR.call0 fn59 (tree_Node_string_flat_c hx24) rfl) rfl ?_
 refine TL.op1 (OpR.pure rfl) rfl ?_
 refine TL.nil ?_
 show T X _ _ _
 rcases ite_some q20 with ⟨c25, q20⟩ | ⟨c25, q20⟩
 · refine T.condF rfl (not_t (c25)) ?_
   refine T.exit ?_
   obtain rfl := Option.some.inj q20
   obtain rfl : _ = _ := i21
   exact ⟨_, Gst.only [1, 4, 5, 7] rfl, rfl⟩
 refine T.condT rfl (not_f (eq_false_of_ne_true c25)) ?_
 refine T.skip ?_
 show T X _ _ _
 refine T.block ?_
 refine T.seq ?_
 refine T.region ?_
 refine TL.op1 (OpR.pure rfl) rfl ?_
 refine TL.op1 (OpR.pure rfl) rfl ?_
 obtain ⟨x26, hx26, q20⟩ := bnd_some q20
 refine TL.op1 (OpR.call0 fn60 (tree_Node_string_kid_c hx26) rfl) rfl ?_
 refine TL.op1 (OpR.pure rfl) rfl ?_
 refine TL.op1 (OpR.pure rfl) rfl ?_
 refine TL.op1 (OpR.pure rfl) rfl ?_
 refine TL.op1 (OpR.pure rfl) rfl ?_
 refine TL.op1 (OpR.pure rfl) rfl ?_
 refine TL.nil ?_
 show T X _ _ _
 refine T.region ?_
 refine TL.op1 (OpR.pure rfl) rfl ?_
 refine TL.op1 (OpR.pure rfl) rfl ?_
 refine TL.op1 (OpR.pure rfl) rfl ?_
 refine TL.op1 (OpR.pure rfl) rfl ?_
 refine TL.op1 (OpR.pure rfl) rfl ?_
 obtain ⟨x27, hx27, q20⟩ := bnd_some q20
 obtain ⟨x28, hx28, q20⟩ := bnd_some q20
 rw [o_tree_Node_string_eq hx28] at hx27
 refine TL.op1 (OpR.indexM eNP hx27 rfl rfl rfl rfl rfl) rfl ?_
 refine TL.op1 (OpR.pure rfl) rfl ?_
 refine TL.op1 (OpR.pure rfl) rfl ?_
 refine TL.op1 (OpR.pure rfl) rfl ?_
 refine TL.op1 (OpR.pure rfl) rfl ?_
 refine TL.nil ?_
 obtain rfl := Option.some.inj q20
 exact ⟨m18, Nat.lt_succ_self _, _, Gst.only [1, 4, 5, 7] rfl, (x26.2, x28.fKids, x28.fItems, x28.fN), rfl, i21⟩
noncomputable def slices_Grow_string_string (a0 : Int) : Option (List (List UInt8)) :=
  if a0 < 0 then
    none
  else
    bnd (if (w64 (a0 - 0)) > 0 then
      bnd (mkg 16 (w64 (a0 - 0))) fun x5 =>
      some []
    else
      some [] : Option (List (List UInt8))) fun t2 =>
    some t2
set_option maxHeartbeats 4000000 in
theorem slices_Grow_string_string_c {a0 : Int} {res : (List (List UInt8))} (h0 : slices_Grow_string_string a0 = some res) : CallF X 106 [.val (.slice none 0 0), .val (.int .i64 a0)] [] (fun x => .val (vn x 0)) (fun x => [.row (vn x 0) (List.map eS res) 1 9]) := by
 unfold slices_Grow_string_string at h0
 refine CallF.mkG (X := X) rfl Try.func106 rfl rfl Try.ntmps106 rfl rfl ?_
 refine T.seq ?_
 refine T.region ?_
 refine TL.op1 (OpR.pure rfl) rfl ?_
 refine TL.nil ?_
 show T X _ _ _
 refine T.seq ?_
 refine T.seq ?_
 refine T.region ?_
 refine TL.op1 (OpR.pure rfl) rfl ?_
 refine TL.op1 (OpR.pure rfl) rfl ?_
 refine TL.nil ?_
 show T X _ _ _
 rcases ite_some h0 with ⟨c1, h0⟩ | ⟨c1, h0⟩
 · refine T.condT rfl (decide_eq_true c1) ?_
   cases h0
 refine T.condF rfl (decide_eq_false c1) ?_
 refine T.skip ?_
 show T X _ _ _
 refine T.seq ?_
 refine T.seq ?_
 refine T.region ?_
 refine TL.op1 (OpR.pure rfl) rfl ?_
 refine TL.op1 (OpR.pure rfl) rfl ?_
 refine TL.op1 (OpR.capNil rfl rfl rfl) rfl ?_
 refine TL.op1 (OpR.pure rfl) rfl ?_
 refine TL.op1 (OpR.pure rfl) rfl ?_
 refine TL.op1 (OpR.cast (OpR.pure rfl) (intE (show w64 (0 - 0) = 0 by decide))) rfl ?_
 refine TL.op1 (OpR.pure rfl) rfl ?_
 refine TL.op1 (OpR.pure rfl) rfl ?_
 refine TL.nil ?_
 show T X _ _ _
 refine T.seq ?_
 refine T.region ?_
 refine TL.op1 (OpR.pure rfl) rfl ?_
 refine TL.op1 (OpR.pure rfl) rfl ?_
 refine TL.nil ?_
 show T X _ _ _
 obtain ⟨t2, ht2, h0⟩ := bnd_some h0
 refine T.cutC (fun S' => ∃ y3 : Value, S' = ⟨[(4, .val (.slice none 0 0)), (0, .val y3)], [.row y3 (List.map eS t2) 1 9], 27⟩) (fun _ h => h) ?_ ?_
 rotate_left
 · rintro _ ⟨y3, rfl⟩
   show T X _ _ _
   refine T.seq ?_
   refine T.region ?_
   refine TL.op1 (OpR.pure rfl) rfl ?_
   refine TL.op1 (OpR.pure rfl) rfl ?_
   refine TL.nil ?_
   show T X _ _ _
   refine T.ret ?_
   obtain rfl := Option.some.inj h0
   exact PostG.retP (ks := [0]) (Gst.only [4] rfl) (.tuple #[y3]) (ResL.cons (ResV.tmp rfl) ResL.nil) rfl rfl rfl rfl
 rcases ite_some ht2 with ⟨c4, ht2⟩ | ⟨c4, ht2⟩
 rotate_left
 · refine T.condF rfl (decide_eq_false c4) ?_
   refine T.skip ?_
   obtain rfl := Option.some.inj ht2
   exact ⟨_, Gst.trans (Gst.only [0, 4] rfl) (Gst.nilRow (ow := []) 1 9 rfl), (.slice none 0 0), rfl⟩
 refine T.condT rfl (decide_eq_true c4) ?_
 refine T.region ?_
 refine TL.op1 (OpR.pure rfl) rfl ?_
 refine TL.op1 (OpR.pure rfl) rfl ?_
 refine TL.op1 (OpR.capNil rfl rfl rfl) rfl ?_
 refine TL.op1 (OpR.sliceNil rfl rfl rfl rfl rfl) rfl ?_
 refine TL.op1 (OpR.pure rfl) rfl ?_
 obtain ⟨x5, hx5, ht2⟩ := bnd_some ht2
 refine TL.op (OpR.appendZ hx5 rfl rfl rfl rfl rfl rfl rfl rfl rfl rfl (fun _ => rfl)) rfl (fun v6 => ?_)
 refine TL.op1 (OpR.pure rfl) rfl ?_
 refine TL.op1 (OpR.pure rfl) rfl ?_
 refine TL.op1 (OpR.slice0 0 rfl rfl rfl rfl rfl rfl) rfl ?_
 refine TL.op1 (OpR.pure rfl) rfl ?_
 refine TL.nil ?_
 obtain rfl := Option.some.inj ht2
 exact ⟨_, Gst.only [0, 4] rfl, (cut0 v6), rfl⟩
noncomputable def slices_Concat_string_string.l1 (a0 : List (List (List UInt8))) (s2 : Int × Int) : Option (Lp (Int × Int) Int) :=
  if s2.2 < (a0.length : Int) then
    bnd (idx a0 s2.2) fun x11 =>
    if (w64 (s2.1 + (x11.length : Int))) < 0 then
      none
    else
      some (Lp.next (w64 (s2.1 + (x11.length : Int)), w64 (s2.2 + 1)))
  else
    some (Lp.done s2.1)
noncomputable def slices_Concat_string_string.l2 (a0 : List (List (List UInt8))) (s18 : Int × (List (List UInt8))) : Option (Lp (Int × (List (List UInt8))) (List (List UInt8))) :=
  if s18.1 < (a0.length : Int) then
    bnd (idx a0 s18.1) fun x27 =>
    bnd (app 16 s18.2 x27) fun x28 =>
    some (Lp.next (w64 (s18.1 + 1), x28))
  else
    some (Lp.done s18.2)
noncomputable def slices_Concat_string_string (a0 : List (List (List UInt8))) : Option (List (List UInt8)) :=
  bnd (loop (slices_Concat_string_string.l1 a0) (0, 0) : Option Int) fun t1 =>
  bnd (slices_Grow_string_string t1) fun x13 =>
  bnd (loop (slices_Concat_string_string.l2 a0) (0, x13) : Option (List (List UInt8))) fun t15 =>
  some t15
set_option maxHeartbeats 4000000 in
theorem slices_Concat_string_string_c {a0 : List (List (List UInt8))} {res : (List (List UInt8))} (h0 : slices_Concat_string_string a0 = some res) : CallF X 100 [.sl 1 (List.map e_sl40 a0)] [] (fun x => .sl 1 (List.map eS res)) (fun x => []) := by
 unfold slices_Concat_string_string at h0
 refine CallF.mkG (X := X) rfl Try.func100 rfl rfl Try.ntmps100 rfl rfl ?_
 refine T.seq ?_
 refine T.region ?_
 refine TL.op1 (OpR.pure rfl) rfl ?_
 refine TL.nil ?_
 show T X _ _ _
 refine T.seq ?_
 refine T.region ?_
 refine TL.op1 (OpR.pure rfl) rfl ?_
 refine TL.nil ?_
 show T X _ _ _
 refine T.seq ?_
 refine T.seq ?_
 refine T.region ?_
 refine TL.op1 (OpR.pure rfl) rfl ?_
 refine TL.op1 (OpR.cast (OpR.pure rfl) (intE (lenM _ _))) rfl ?_
 refine TL.op1 (OpR.pure rfl) rfl ?_
 refine TL.nil ?_
 show T X _ _ _
 obtain ⟨t1, ht1, h0⟩ := bnd_some h0
 refine T.cutC (fun S' => S' = ⟨[(3, .val (.int .i64 t1)), (2, .val (.slice none 0 0)), (0, .sl 1 (List.map e_sl40 a0))], [], 36⟩) (fun _ h => h) ?_ ?_
 · refine T.block ?_
   obtain ⟨n3, n8⟩ := loop_some ht1
   refine T.loop (fun n S' => ∃ S'', Gst S' S'' ∧ ∃ s2 : Int × Int, S'' = ⟨[(11, .val (.int .i64 s2.2)), (10, .val (.int .i64 (a0.length : Int))), (9, .sl 1 (List.map e_sl40 a0)), (3, .val (.int .i64 s2.1)), (2, .val (.slice none 0 0)), (0, .sl 1 (List.map e_sl40 a0))], [], 36⟩ ∧ iter (slices_Concat_string_string.l1 a0) n s2 = some t1) n3 ?_ ?_
   · exact ⟨_, Gst.only [0, 2, 3, 9, 10, 11] rfl, (0, 0), rfl, n8⟩
   rintro n3 _ ⟨_, g, s2, rfl, i7⟩
   refine T.ghost g ?_
   obtain ⟨m4, q5, rfl, q6, i7⟩ := iter_succ i7
   unfold slices_Concat_string_string.l1 at q6
   refine T.seq ?_
   refine T.region ?_
   refine TL.op1 (OpR.pure rfl) rfl ?_
   refine TL.nil ?_
   show T X _ _ _
   refine T.seq ?_
   rcases ite_some q6 with ⟨c10, q6⟩ | ⟨c10, q6⟩
   rotate_left
   · refine T.condF rfl (decide_eq_false c10) ?_
     refine T.exit ?_
     obtain rfl := Option.some.inj q6
     obtain rfl : _ = _ := i7
     exact ⟨_, Gst.only [0, 2, 3] rfl, rfl⟩
   refine T.condT rfl (decide_eq_true c10) ?_
   refine T.skip ?_
   show T X _ _ _
   refine T.seq ?_
   refine T.block ?_
   refine T.seq ?_
   refine T.region ?_
   obtain ⟨x11, hx11, q6⟩ := bnd_some q6
   refine TL.op1 (OpR.indexM e_sl40 hx11 rfl rfl rfl rfl rfl) rfl ?_
   refine TL.op1 (OpR.pure rfl) rfl ?_
   refine TL.op1 (OpR.pure rfl) rfl ?_
   refine TL.nil ?_
   show T X _ _ _
   refine T.seq ?_
   refine T.region ?_
   refine TL.op1 (OpR.pure rfl) rfl ?_
   refine TL.op1 (OpR.pure rfl) rfl ?_
   refine TL.op1 (OpR.cast (OpR.pure rfl) (intE (lenM _ _))) rfl ?_
   refine TL.op1 (OpR.pure rfl) rfl ?_
   refine TL.op1 (OpR.pure rfl) rfl ?_
   refine TL.nil ?_
   show T X _ _ _
   refine T.seq ?_
   refine T.region ?_
   refine TL.op1 (OpR.pure rfl) rfl ?_
   refine TL.op1 (OpR.pure rfl) rfl ?_
   refine TL.nil ?_
   show T X _ _ _
   rcases ite_some q6 with ⟨c12, q6⟩ | ⟨c12, q6⟩
   · refine T.condT rfl (decide_eq_true c12) ?_
     cases q6
   refine T.condF rfl (decide_eq_false c12) ?_
   refine T.skip ?_
   show T X _ _ _
   refine T.region ?_
   refine TL.op1 (OpR.pure rfl) rfl ?_
   refine TL.op1 (OpR.pure rfl) rfl ?_
   refine TL.nil ?_
   obtain rfl := Option.some.inj q6
   exact ⟨m4, Nat.lt_succ_self _, _, Gst.only [0, 2, 3, 9, 10, 11] rfl, (w64 (s2.1 + (x11.length : Int)), w64 (s2.2 + 1)), rfl, i7⟩
 rintro _ rfl
 show T X _ _ _
 refine T.seq ?_
 refine T.region ?_
 refine TL.op1 (OpR.pure rfl) rfl ?_
 obtain ⟨x13, hx13, h0⟩ := bnd_some h0
 refine TL.op (OpR.call [] fn106 (slices_Grow_string_string_c hx13) rfl rfl rfl (fun _ => rfl)) rfl (fun w14 => ?_)
 refine TL.op1 (OpR.pure rfl) rfl ?_
 refine TL.nil ?_
 show T X _ _ _
 refine T.seq ?_
 refine T.seq ?_
 refine T.region ?_
 refine TL.op1 (OpR.pure rfl) rfl ?_
 refine TL.op1 (OpR.cast (OpR.pure rfl) (intE (lenM _ _))) rfl ?_
 refine TL.op1 (OpR.pure rfl) rfl ?_
 refine TL.nil ?_
 show T X _ _ _
 obtain ⟨t15, ht15, h0⟩ := bnd_some h0
 refine T.cutC (fun S' => ∃ y16 : Value, S' = ⟨[(6, .val y16), (2, .val (.slice none 0 0))], [.row y16 (List.map eS t15) 1 9], 36⟩) (fun _ h => h) ?_ ?_
 rotate_left
 · rintro _ ⟨y16, rfl⟩
   show T X _ _ _
   refine T.seq ?_
   refine T.region ?_
   refine TL.op1 (OpR.pure rfl) rfl ?_
   refine TL.op1 (OpR.pure rfl) rfl ?_
   refine TL.nil ?_
   show T X _ _ _
   refine T.ret ?_
   obtain rfl := Option.some.inj h0
   exact PostG.retP (ks := []) (Gst.trans (Gst.only [2] rfl) (Gst.trans (Gst.freezeRow 0 rfl rfl (ReS.cons (Re.base .all) ReS.nil) (ReO.same ReO.nil)) (Gst.pick [] rfl rfl))) undef (ResL.cons (ResV.tmp rfl) ResL.nil) rfl rfl rfl rfl
 refine T.block ?_
 obtain ⟨n19, n24⟩ := loop_some ht15
 refine T.loop (fun n S' => ∃ S'', Gst S' S'' ∧ ∃ y17 : Value, ∃ s18 : Int × (List (List UInt8)), S'' = ⟨[(27, .val (.int .i64 s18.1)), (26, .val (.int .i64 (a0.length : Int))), (25, .sl 1 (List.map e_sl40 a0)), (6, .val y17), (2, .val (.slice none 0 0))], [.row y17 (List.map eS s18.2) 1 9], 36⟩ ∧ iter (slices_Concat_string_string.l2 a0) n s18 = some t15) n19 ?_ ?_
 · exact ⟨_, Gst.only [2, 6, 25, 26, 27] rfl, (vn w14 0), (0, x13), rfl, n24⟩
 rintro n19 _ ⟨_, g, y17, s18, rfl, i23⟩
 refine T.ghost g ?_
 obtain ⟨m20, q21, rfl, q22, i23⟩ := iter_succ i23
 unfold slices_Concat_string_string.l2 at q22
 refine T.seq ?_
 refine T.region ?_
 refine TL.op1 (OpR.pure rfl) rfl ?_
 refine TL.nil ?_
 show T X _ _ _
 refine T.seq ?_
 rcases ite_some q22 with ⟨c26, q22⟩ | ⟨c26, q22⟩
 rotate_left
 · refine T.condF rfl (decide_eq_false c26) ?_
   refine T.exit ?_
   obtain rfl := Option.some.inj q22
   obtain rfl : _ = _ := i23
   exact ⟨_, Gst.only [2, 6] rfl, y17, rfl⟩
 refine T.condT rfl (decide_eq_true c26) ?_
 refine T.skip ?_
 show T X _ _ _
 refine T.seq ?_
 refine T.block ?_
 refine T.seq ?_
 refine T.region ?_
 obtain ⟨x27, hx27, q22⟩ := bnd_some q22
 refine TL.op1 (OpR.indexM e_sl40 hx27 rfl rfl rfl rfl rfl) rfl ?_
 refine TL.op1 (OpR.pure rfl) rfl ?_
 refine TL.op1 (OpR.pure rfl) rfl ?_
 refine TL.nil ?_
 show T X _ _ _
 refine T.region ?_
 refine TL.op1 (OpR.pure rfl) rfl ?_
 refine TL.op1 (OpR.pure rfl) rfl ?_
 obtain ⟨x28, hx28, q22⟩ := bnd_some q22
 refine TL.op (OpR.appendM (m := x27) eS 0 hx28 rfl rfl rfl rfl rfl rfl rfl rfl rfl (fun _ => rfl)) rfl (fun v29 => ?_)
 refine TL.op1 (OpR.pure rfl) rfl ?_
 refine TL.nil ?_
 show T X _ _ _
 refine T.region ?_
 refine TL.op1 (OpR.pure rfl) rfl ?_
 refine TL.op1 (OpR.pure rfl) rfl ?_
 refine TL.nil ?_
 obtain rfl := Option.some.inj q22
 exact ⟨m20, Nat.lt_succ_self _, _, Gst.only [2, 6, 25, 26, 27] rfl, v29, (w64 (s18.1 + 1), x28), rfl, i23⟩
noncomputable def tree_splice_string (a0 : List (List UInt8)) (a1 : Int) (a2 : Int) (a3 : List (List UInt8)) : Option (List (List UInt8)) :=
  bnd (cut a0 0 a1) fun x2 =>
  bnd (cut a0 a2 (a0.length : Int)) fun x3 =>
  bnd (slices_Concat_string_string [x2, a3, x3]) fun x4 =>
  some x4
set_option maxHeartbeats 4000000 in
theorem tree_splice_string_c {a0 : List (List UInt8)} {a1 : Int} {a2 : Int} {a3 : List (List UInt8)} {res : (List (List UInt8))} (h0 : tree_splice_string a0 a1 a2 a3 = some res) : CallF X 87 [.sl 1 (List.map eS a0), .val (.int .i64 a1), .val (.int .i64 a2), .sl 1 (List.map eS a3)] [] (fun x => .sl 1 (List.map eS res)) (fun x => []) := by
 unfold tree_splice_string at h0
 refine CallF.mkG (X := X) rfl Try.func87 rfl rfl Try.ntmps87 rfl rfl ?_
 refine T.seq ?_
 refine T.region ?_
 refine TL.op1 (OpR.pure rfl) rfl ?_
 refine TL.nil ?_
 show T X _ _ _
 refine T.seq ?_
 obtain ⟨x2, hx2, h0⟩ := bnd_some h0
 obtain ⟨x3, hx3, h0⟩ := bnd_some h0
 obtain ⟨x4, hx4, h0⟩ := bnd_some h0
 refine T.drawQ drawsX [.sl 1 (List.map eS a0), .val (.int .i64 a1), .sl 1 (List.map eS x2), .sl 1 (List.map eS a3), .sl 1 (List.map eS a0), .val (.int .i64 a2), .sl 1 (List.map eS x3), .sl 1 (List.map e_sl40 [x2, a3, x3]), .sl 1 (List.map eS x4), .sl 1 (List.map eS x4)] [0, 1, 2, 3, 8, 9, 10, 11, 12, 13, 14, 15, 16, 17] (by decide +kernel) rfl ?_ rfl ?_
 rotate_left
 · show T X _ _ _
   refine T.ret ?_
   obtain rfl := Option.some.inj h0
   exact PostG.retP (ks := []) (Gst.only [8] rfl) undef (ResL.cons (ResV.tmp rfl) ResL.nil) rfl rfl rfl rfl
 refine OpsQ.yes (Want.plain rfl) rfl (OpR.pure rfl) ?_
 refine OpsQ.yes (Want.plain rfl) rfl (OpR.pure rfl) ?_
 refine OpsQ.yes (Want.plain rfl) rfl (OpR.sliceM (sz := 1) eS hx2 rfl rfl rfl rfl BdM.none (BdM.some rfl) rfl) ?_
 refine OpsQ.yes (Want.plain rfl) rfl (OpR.pure rfl) ?_
 refine OpsQ.yes (Want.plain rfl) rfl (OpR.pure rfl) ?_
 refine OpsQ.yes (Want.plain rfl) rfl (OpR.pure rfl) ?_
 refine OpsQ.yes (Want.plain rfl) rfl (OpR.sliceM (sz := 1) eS hx3 rfl rfl rfl rfl (BdM.some rfl) BdM.none rfl) ?_
 refine OpsQ.yes (Want.plain rfl) rfl (OpR.lit rfl rfl rfl rfl rfl rfl rfl) ?_
 refine OpsQ.yes (Want.plain rfl) rfl (OpR.call0 fn100 (slices_Concat_string_string_c hx4) rfl) ?_
 refine OpsQ.yes (Want.plain rfl) rfl (OpR.pure rfl) ?_
 exact OpsQ.nil
noncomputable def slices_Grow_tree_Node_string_tree_Node_string (a0 : Int) : Option (List NP) :=
  if a0 < 0 then
    none
  else
    bnd (if (w64 (a0 - 0)) > 0 then
      bnd (mkg 8 (w64 (a0 - 0))) fun x5 =>
      some []
    else
      some [] : Option (List NP)) fun t2 =>
    some t2
set_option maxHeartbeats 4000000 in
theorem slices_Grow_tree_Node_string_tree_Node_string_c {a0 : Int} {res : (List NP)} (h0 : slices_Grow_tree_Node_string_tree_Node_string a0 = some res) : CallF X 107 [.val (.slice none 0 0), .val (.int .i64 a0)] [] (fun x => .val (vn x 0)) (fun x => [.row (vn x 0) (List.map eNP res) 1 41]) := by
 unfold slices_Grow_tree_Node_string_tree_Node_string at h0
 refine CallF.mkG (X := X) rfl Try.func107 rfl rfl Try.ntmps107 rfl rfl ?_
 refine T.seq ?_
 refine T.region ?_
 refine TL.op1 (OpR.pure rfl) rfl ?_
 refine TL.nil ?_
 show T X _ _ _
 refine T.seq ?_
 refine T.seq ?_
 refine T.region ?_
 refine TL.op1 (OpR.pure rfl) rfl ?_
 refine TL.op1 (OpR.pure rfl) rfl ?_
 refine TL.nil ?_
 show T X _ _ _
 rcases ite_some h0 with ⟨c1, h0⟩ | ⟨c1, h0⟩
 · refine T.condT rfl (decide_eq_true c1) ?_
   cases h0
 refine T.condF rfl (decide_eq_false c1) ?_
 refine T.skip ?_
 show T X _ _ _
 refine T.seq ?_
 refine T.seq ?_
 refine T.region ?_
 refine TL.op1 (OpR.pure rfl) rfl ?_
 refine TL.op1 (OpR.pure rfl) rfl ?_
 refine TL.op1 (OpR.capNil rfl rfl rfl) rfl ?_
 refine TL.op1 (OpR.pure rfl) rfl ?_
 refine TL.op1 (OpR.pure rfl) rfl ?_
 refine TL.op1 (OpR.cast (OpR.pure rfl) (intE (show w64 (0 - 0) = 0 by decide))) rfl ?_
 refine TL.op1 (OpR.pure rfl) rfl ?_
 refine TL.op1 (OpR.pure rfl) rfl ?_
 refine TL.nil ?_
 show T X _ _ _
 refine T.seq ?_
 refine T.region ?_
 refine TL.op1 (OpR.pure rfl) rfl ?_
 refine TL.op1 (OpR.pure rfl) rfl ?_
 refine TL.nil ?_
 show T X _ _ _
 obtain ⟨t2, ht2, h0⟩ := bnd_some h0
 refine T.cutC (fun S' => ∃ y3 : Value, S' = ⟨[(4, .val (.slice none 0 0)), (0, .val y3)], [.row y3 (List.map eNP t2) 1 41], 27⟩) (fun _ h => h) ?_ ?_
 rotate_left
 · rintro _ ⟨y3, rfl⟩
   show T X _ _ _
   refine T.seq ?_
   refine T.region ?_
   refine TL.op1 (OpR.pure rfl) rfl ?_
   refine TL.op1 (OpR.pure rfl) rfl ?_
   refine TL.nil ?_
   show T X _ _ _
   refine T.ret ?_
   obtain rfl := Option.some.inj h0
   exact PostG.retP (ks := [0]) (Gst.only [4] rfl) (.tuple #[y3]) (ResL.cons (ResV.tmp rfl) ResL.nil) rfl rfl rfl rfl
 rcases ite_some ht2 with ⟨c4, ht2⟩ | ⟨c4, ht2⟩
 rotate_left
 · refine T.condF rfl (decide_eq_false c4) ?_
   refine T.skip ?_
   obtain rfl := Option.some.inj ht2
   exact ⟨_, Gst.trans (Gst.only [0, 4] rfl) (Gst.nilRow (ow := []) 1 41 rfl), (.slice none 0 0), rfl⟩
 refine T.condT rfl (decide_eq_true c4) ?_
 refine T.region ?_
 refine TL.op1 (OpR.pure rfl) rfl ?_
 refine TL.op1 (OpR.pure rfl) rfl ?_
 refine TL.op1 (OpR.capNil rfl rfl rfl) rfl ?_
 refine TL.op1 (OpR.sliceNil rfl rfl rfl rfl rfl) rfl ?_
 refine TL.op1 (OpR.pure rfl) rfl ?_
 obtain ⟨x5, hx5, ht2⟩ := bnd_some ht2
 refine TL.op (OpR.appendZ hx5 rfl rfl rfl rfl rfl rfl rfl rfl rfl rfl (fun _ => rfl)) rfl (fun v6 => ?_)
 refine TL.op1 (OpR.pure rfl) rfl ?_
 refine TL.op1 (OpR.pure rfl) rfl ?_
 refine TL.op1 (OpR.slice0 0 rfl rfl rfl rfl rfl rfl) rfl ?_
 refine TL.op1 (OpR.pure rfl) rfl ?_
 refine TL.nil ?_
 obtain rfl := Option.some.inj ht2
 exact ⟨_, Gst.only [0, 4] rfl, (cut0 v6), rfl⟩
noncomputable def slices_Concat_tree_Node_string_tree_Node_string.l1 (a0 : List (List NP)) (s2 : Int × Int) : Option (Lp (Int × Int) Int) :=
  if s2.2 < (a0.length : Int) then
    bnd (idx a0 s2.2) fun x11 =>
    if (w64 (s2.1 + (x11.length : Int))) < 0 then
      none
    else
      some (Lp.next (w64 (s2.1 + (x11.length : Int)), w64 (s2.2 + 1)))
  else
    some (Lp.done s2.1)
noncomputable def slices_Concat_tree_Node_string_tree_Node_string.l2 (a0 : List (List NP)) (s18 : Int × (List NP)) : Option (Lp (Int × (List NP)) (List NP)) :=
  if s18.1 < (a0.length : Int) then
    bnd (idx a0 s18.1) fun x27 =>
    bnd (app 8 s18.2 x27) fun x28 =>
    some (Lp.next (w64 (s18.1 + 1), x28))
  else
    some (Lp.done s18.2)
noncomputable def slices_Concat_tree_Node_string_tree_Node_string (a0 : List (List NP)) : Option (List NP) :=
  bnd (loop (slices_Concat_tree_Node_string_tree_Node_string.l1 a0) (0, 0) : Option Int) fun t1 =>
  bnd (slices_Grow_tree_Node_string_tree_Node_string t1) fun x13 =>
  bnd (loop (slices_Concat_tree_Node_string_tree_Node_string.l2 a0) (0, x13) : Option (List NP)) fun t15 =>
  some t15
set_option maxHeartbeats 4000000 in
theorem slices_Concat_tree_Node_string_tree_Node_string_c {a0 : List (List NP)} {res : (List NP)} (h0 : slices_Concat_tree_Node_string_tree_Node_string a0 = some res) : CallF X 101 [.sl 1 (List.map e_sl96 a0)] [] (fun x => .sl 1 (List.map eNP res)) (fun x => []) := by
 unfold slices_Concat_tree_Node_string_tree_Node_string at h0
 refine CallF.mkG (X := X) rfl Try.func101 rfl rfl Try.ntmps101 rfl rfl ?_
 refine T.seq ?_
 refine T.region ?_
 refine TL.op1 (OpR.pure rfl) rfl ?_
 refine TL.nil ?_
 show T X _ _ _
 refine T.seq ?_
 refine T.region ?_
 refine TL.op1 (OpR.pure rfl) rfl ?_
 refine TL.nil ?_
 show T X _ _ _
 refine T.seq ?_
 refine T.seq ?_
 refine T.region ?_
 refine TL.op1 (OpR.pure rfl) rfl ?_
 refine TL.op1 (OpR.cast (OpR.pure rfl) (intE (lenM _ _))) rfl ?_
 refine TL.op1 (OpR.pure rfl) rfl ?_
 refine TL.nil ?_
 show T X _ _ _
 obtain ⟨t1, ht1, h0⟩ := bnd_some h0
 refine T.cutC (fun S' => S' = ⟨[(3, .val (.int .i64 t1)), (2, .val (.slice none 0 0)), (0, .sl 1 (List.map e_sl96 a0))], [], 36⟩) (fun _ h => h) ?_ ?_
 · refine T.block ?_
   obtain ⟨n3, n8⟩ := loop_some ht1
   refine T.loop (fun n S' => ∃ S'', Gst S' S'' ∧ ∃ s2 : Int × Int, S'' = ⟨[(11, .val (.int .i64 s2.2)), (10, .val (.int .i64 (a0.length : Int))), (9, .sl 1 (List.map e_sl96 a0)), (3, .val (.int .i64 s2.1)), (2, .val (.slice none 0 0)), (0, .sl 1 (List.map e_sl96 a0))], [], 36⟩ ∧ iter (slices_Concat_tree_Node_string_tree_Node_string.l1 a0) n s2 = some t1) n3 ?_ ?_
   · exact ⟨_, Gst.only [0, 2, 3, 9, 10, 11] rfl, (0, 0), rfl, n8⟩
   rintro n3 _ ⟨_, g, s2, rfl, i7⟩
   refine T.ghost g ?_
   obtain ⟨m4, q5, rfl, q6, i7⟩ := iter_succ i7
   unfold slices_Concat_tree_Node_string_tree_Node_string.l1 at q6
   refine T.seq ?_
   refine T.region ?_
   refine TL.op1 (OpR.pure rfl) rfl ?_
   refine TL.nil ?_
   show T X _ _ _
   refine T.seq ?_
   rcases ite_some q6 with ⟨c10, q6⟩ | ⟨c10, q6⟩
   rotate_left
   · refine T.condF rfl (decide_eq_false c10) ?_
     refine T.exit ?_
     obtain rfl := Option.some.inj q6
     obtain rfl : _ = _ := i7
     exact ⟨_, Gst.only [0, 2, 3] rfl, rfl⟩
   refine T.condT rfl (decide_eq_true c10) ?_
   refine T.skip ?_
   show T X _ _ _
   refine T.seq ?_
   refine T.block ?_
   refine T.seq ?_
   refine T.region ?_
   obtain ⟨x11, hx11, q6⟩ := bnd_some q6
   refine TL.op1 (OpR.indexM e_sl96 hx11 rfl rfl rfl rfl rfl) rfl ?_
   refine TL.op1 (OpR.pure rfl) rfl ?_
   refine TL.op1 (OpR.pure rfl) rfl ?_
   refine TL.nil ?_
   show T X _ _ _
   refine T.seq ?_
   refine T.region ?_
   refine TL.op1 (OpR.pure rfl) rfl ?_
   refine TL.op1 (OpR.pure rfl) rfl ?_
   refine TL.op1 (OpR.cast (OpR.pure rfl) (intE (lenM _ _))) rfl ?_
   refine TL.op1 (OpR.pure rfl) rfl ?_
   refine TL.op1 (OpR.pure rfl) rfl ?_
   refine TL.nil ?_
   show T X _ _ _
   refine T.seq ?_
   refine T.region ?_
   refine TL.op1 (OpR.pure rfl) rfl ?_
   refine TL.op1 (OpR.pure rfl) rfl ?_
   refine TL.nil ?_
   show T X _ _ _
   rcases ite_some q6 with ⟨c12, q6⟩ | ⟨c12, q6⟩
   · refine T.condT rfl (decide_eq_true c12) ?_
     cases q6
   refine T.condF rfl (decide_eq_false c12) ?_
   refine T.skip ?_
   show T X _ _ _
   refine T.region ?_
   refine TL.op1 (OpR.pure rfl) rfl ?_
   refine TL.op1 (OpR.pure rfl) rfl ?_
   refine TL.nil ?_
   obtain rfl := Option.some.inj q6
   exact ⟨m4, Nat.lt_succ_self _, _, Gst.only [0, 2, 3, 9, 10, 11] rfl, (w64 (s2.1 + (x11.length : Int)), w64 (s2.2 + 1)), rfl, i7⟩
 rintro _ rfl
 show T X _ _ _
 refine T.seq ?_
 refine T.region ?_
 refine TL.op1 (OpR.pure rfl) rfl ?_
 obtain ⟨x13, hx13, h0⟩ := bnd_some h0
 refine TL.op (OpR.call [] fn107 (slices_Grow_tree_Node_string_tree_Node_string_c hx13) rfl rfl rfl (fun _ => rfl)) rfl (fun w14 => ?_)
 refine TL.op1 (OpR.pure rfl) rfl ?_
 refine TL.nil ?_
 show T X _ _ _
 refine T.seq ?_
 refine T.seq ?_
 refine T.region ?_
 refine TL.op1 (OpR.pure rfl) rfl ?_
 refine TL.op1 (OpR.cast (OpR.pure rfl) (intE (lenM _ _))) rfl ?_
 refine TL.op1 (OpR.pure rfl) rfl ?_
 refine TL.nil ?_
 show T X _ _ _
 obtain ⟨t15, ht15, h0⟩ := bnd_some h0
 refine T.cutC (fun S' => ∃ y16 : Value, S' = ⟨[(6, .val y16), (2, .val (.slice none 0 0))], [.row y16 (List.map eNP t15) 1 41], 36⟩) (fun _ h => h) ?_ ?_
 rotate_left
 · rintro _ ⟨y16, rfl⟩
   show T X _ _ _
   refine T.seq ?_
   refine T.region ?_
   refine TL.op1 (OpR.pure rfl) rfl ?_
   refine TL.op1 (OpR.pure rfl) rfl ?_
   refine TL.nil ?_
   show T X _ _ _
   refine T.ret ?_
   obtain rfl := Option.some.inj h0
   exact PostG.retP (ks := []) (Gst.trans (Gst.only [2] rfl) (Gst.trans (Gst.freezeRow 0 rfl rfl (ReS.cons (Re.base .all) ReS.nil) (ReO.same ReO.nil)) (Gst.pick [] rfl rfl))) undef (ResL.cons (ResV.tmp rfl) ResL.nil) rfl rfl rfl rfl
 refine T.block ?_
 obtain ⟨n19, n24⟩ := loop_some ht15
 refine T.loop (fun n S' => ∃ S'', Gst S' S'' ∧ ∃ y17 : Value, ∃ s18 : Int × (List NP), S'' = ⟨[(27, .val (.int .i64 s18.1)), (26, .val (.int .i64 (a0.length : Int))), (25, .sl 1 (List.map e_sl96 a0)), (6, .val y17), (2, .val (.slice none 0 0))], [.row y17 (List.map eNP s18.2) 1 41], 36⟩ ∧ iter (slices_Concat_tree_Node_string_tree_Node_string.l2 a0) n s18 = some t15) n19 ?_ ?_
 · exact ⟨_, Gst.only [2, 6, 25, 26, 27] rfl, (vn w14 0), (0, x13), rfl, n24⟩
 rintro n19 _ ⟨_, g, y17, s18, rfl, i23⟩
 refine T.ghost g ?_
 obtain ⟨m20, q21, rfl, q22, i23⟩ := iter_succ i23
 unfold slices_Concat_tree_Node_string_tree_Node_string.l2 at q22
 refine T.seq ?_
 refine T.region ?_
 refine TL.op1 (OpR.pure rfl) rfl ?_
 refine TL.nil ?_
 show T X _ _ _
 refine T.seq ?_
 rcases ite_some q22 with ⟨c26, q22⟩ | ⟨c26, q22⟩
 rotate_left
 · refine T.condF rfl (decide_eq_false c26) ?_
   refine T.exit ?_
   obtain rfl := Option.some.inj q22
   obtain rfl : _ = _ := i23
   exact ⟨_, Gst.only [2, 6] rfl, y17, rfl⟩
 refine T.condT rfl (decide_eq_true c26) ?_
 refine T.skip ?_
 show T X _ _ _
 refine T.seq ?_
 refine T.block ?_
 refine T.seq ?_
 refine T.region ?_
 obtain ⟨x27, hx27, q22⟩ := bnd_some q22
 refine TL.op1 (OpR.indexM e_sl96 hx27 rfl rfl rfl rfl rfl) rfl ?_
 refine TL.op1 (OpR.pure rfl) rfl ?_
 refine TL.op1 (OpR.pure rfl) rfl ?_
 refine TL.nil ?_
 show T X _ _ _
 refine T.region ?_
 refine TL.op1 (OpR.pure rfl) rfl ?_
 refine TL.op1 (OpR.pure rfl) rfl ?_
 obtain ⟨x28, hx28, q22⟩ := bnd_some q22
 refine TL.op (OpR.appendM (m := x27) eNP 0 hx28 rfl rfl rfl rfl rfl rfl rfl rfl rfl (fun _ => rfl)) rfl (fun v29 => ?_)
 refine TL.op1 (OpR.pure rfl) rfl ?_
 refine TL.nil ?_
 show T X _ _ _
 refine T.region ?_
 refine TL.op1 (OpR.pure rfl) rfl ?_
 refine TL.op1 (OpR.pure rfl) rfl ?_
 refine TL.nil ?_
 obtain rfl := Option.some.inj q22
 exact ⟨m20, Nat.lt_succ_self _, _, Gst.only [2, 6, 25, 26, 27] rfl, v29, (w64 (s18.1 + 1), x28), rfl, i23⟩
noncomputable def tree_splice_tree_Node_string (a0 : List NP) (a1 : Int) (a2 : Int) (a3 : List NP) : Option (List NP) :=
  bnd (cut a0 0 a1) fun x2 =>
  bnd (cut a0 a2 (a0.length : Int)) fun x3 =>
  bnd (slices_Concat_tree_Node_string_tree_Node_string [x2, a3, x3]) fun x4 =>
  some x4
set_option maxHeartbeats 4000000 in
theorem tree_splice_tree_Node_string_c {a0 : List NP} {a1 : Int} {a2 : Int} {a3 : List NP} {res : (List NP)} (h0 : tree_splice_tree_Node_string a0 a1 a2 a3 = some res) : CallF X 89 [.sl 1 (List.map eNP a0), .val (.int .i64 a1), .val (.int .i64 a2), .sl 1 (List.map eNP a3)] [] (fun x => .sl 1 (List.map eNP res)) (fun x => []) := by
 unfold tree_splice_tree_Node_string at h0
 refine CallF.mkG (X := X) rfl Try.func89 rfl rfl Try.ntmps89 rfl rfl ?_
 refine T.seq ?_
 refine T.region ?_
 refine TL.op1 (OpR.pure rfl) rfl ?_
 refine TL.nil ?_
 show T X _ _ _
 refine T.seq ?_
 obtain ⟨x2, hx2, h0⟩ := bnd_some h0
 obtain ⟨x3, hx3, h0⟩ := bnd_some h0
 obtain ⟨x4, hx4, h0⟩ := bnd_some h0
 refine T.drawQ drawsX [.sl 1 (List.map eNP a0), .val (.int .i64 a1), .sl 1 (List.map eNP x2), .sl 1 (List.map eNP a3), .sl 1 (List.map eNP a0), .val (.int .i64 a2), .sl 1 (List.map eNP x3), .sl 1 (List.map e_sl96 [x2, a3, x3]), .sl 1 (List.map eNP x4), .sl 1 (List.map eNP x4)] [0, 1, 2, 3, 8, 9, 10, 11, 12, 13, 14, 15, 16, 17] (by decide +kernel) rfl ?_ rfl ?_
 rotate_left
 · show T X _ _ _
   refine T.ret ?_
   obtain rfl := Option.some.inj h0
   exact PostG.retP (ks := []) (Gst.only [8] rfl) undef (ResL.cons (ResV.tmp rfl) ResL.nil) rfl rfl rfl rfl
 refine OpsQ.yes (Want.plain rfl) rfl (OpR.pure rfl) ?_
 refine OpsQ.yes (Want.plain rfl) rfl (OpR.pure rfl) ?_
 refine OpsQ.yes (Want.plain rfl) rfl (OpR.sliceM (sz := 1) eNP hx2 rfl rfl rfl rfl BdM.none (BdM.some rfl) rfl) ?_
 refine OpsQ.yes (Want.plain rfl) rfl (OpR.pure rfl) ?_
 refine OpsQ.yes (Want.plain rfl) rfl (OpR.pure rfl) ?_
 refine OpsQ.yes (Want.plain rfl) rfl (OpR.pure rfl) ?_
 refine OpsQ.yes (Want.plain rfl) rfl (OpR.sliceM (sz := 1) eNP hx3 rfl rfl rfl rfl (BdM.some rfl) BdM.none rfl) ?_
 refine OpsQ.yes (Want.plain rfl) rfl (OpR.lit rfl rfl rfl rfl rfl rfl rfl) ?_
 refine OpsQ.yes (Want.plain rfl) rfl (OpR.call0 fn101 (slices_Concat_tree_Node_string_tree_Node_string_c hx4) rfl) ?_
 refine OpsQ.yes (Want.plain rfl) rfl (OpR.pure rfl) ?_
 exact OpsQ.nil
noncomputable def tree_Node_string_set.body (self : (List NP) → (List (List UInt8)) → Int → Int → (List UInt8) → Option ((List NP) × (List (List UInt8)) × Int)) (a0 : List NP) (a1 : List (List UInt8)) (a2 : Int) (a3 : Int) (a4 : List UInt8) : Option ((List NP) × (List (List UInt8)) × Int) :=
  bnd (tree_Node_string_flat a0 a1 a2) fun x1 =>
  if x1 = true then
    bnd (tree_splice_string a1 a3 (w64 (a3 + 1)) [a4]) fun x3 =>
    bnd (tree_leaf_string x3) fun x4 =>
    some (x4.1, x4.2.1, x4.2.2)
  else
    bnd (tree_Node_string_kid a0 a1 a2 a3) fun x5 =>
    bnd (idx a0 x5.1) fun x7 =>
    bnd (o_tree_Node_string x7) fun x8 =>
    bnd (self x8.fKids x8.fItems x8.fN x5.2 a4) fun x9 =>
    bnd (tree_splice_tree_Node_string a0 x5.1 (w64 (x5.1 + 1)) [(c_tree_Node_string (⟨x9.1, x9.2.1, x9.2.2⟩ : tree_Node_string))]) fun x10 =>
    bnd (tree_inner_string x10) fun x11 =>
    some (x11.1, x11.2.1, x11.2.2)
noncomputable def tree_Node_string_set : Nat → (List NP) → (List (List UInt8)) → Int → Int → (List UInt8) → Option ((List NP) × (List (List UInt8)) × Int)
  | 0 => fun _ _ _ _ _ => none
  | n + 1 => tree_Node_string_set.body (tree_Node_string_set n)
set_option maxHeartbeats 4000000 in
theorem tree_Node_string_set_c {fu : Nat} {a0 : List NP} {a1 : List (List UInt8)} {a2 : Int} {a3 : Int} {a4 : List UInt8} {res : (List NP) × (List (List UInt8)) × Int} (h0 : tree_Node_string_set fu a0 a1 a2 a3 a4 = some res) : CallF X 61 [.nod [.sl 1 (List.map eNP a0), .sl 1 (List.map eS a1), .val (.int .i64 a2)], .val (.int .i64 a3), .val (.string (bs a4))] [] (fun x => .nod [.sl 1 (List.map eNP res.1), .sl 1 (List.map eS res.2.1), .val (.int .i64 res.2.2)]) (fun x => []) := by
 induction fu generalizing a0 a1 a2 a3 a4 res
 · exact nomatch h0
 rename_i fu ih
 replace h0 : tree_Node_string_set.body (tree_Node_string_set fu) a0 a1 a2 a3 a4 = some res := h0
 unfold tree_Node_string_set.body at h0
 refine CallF.mkG (X := X) rfl Try.func61 rfl rfl Try.ntmps61 rfl rfl ?_
 refine T.seq ?_
 refine T.region ?_
 refine TL.op1 (OpR.pure rfl) rfl ?_
 refine TL.nil ?_
 show T X _ _ _
 refine T.seq ?_
 refine T.seq ?_
 refine T.region ?_
 refine TL.op1 (OpR.pure rfl) rfl ?_
 obtain ⟨x1, hx1, h0⟩ := bnd_some h0
 refine TL.op1 (OpR.call0 fn59 (tree_Node_string_flat_c hx1) rfl) rfl ?_
 refine TL.nil ?_
 show T X _ _ _
 rcases ite_some h0 with ⟨c2, h0⟩ | ⟨c2, h0⟩
 · refine T.condT rfl (c2) ?_
   refine T.seq ?_
   refine T.region ?_
   refine TL.op1 (OpR.pure rfl) rfl ?_
   refine TL.op1 (OpR.pure rfl) rfl ?_
   refine TL.op1 (OpR.pure rfl) rfl ?_
   refine TL.op1 (OpR.pure rfl) rfl ?_
   refine TL.op1 (OpR.pure rfl) rfl ?_
   refine TL.op1 (OpR.pure rfl) rfl ?_
   refine TL.op1 (OpR.pure rfl) rfl ?_
   refine TL.op1 (OpR.pure rfl) rfl ?_
   refine TL.op1 (OpR.lit rfl rfl rfl rfl rfl rfl rfl) rfl ?_
   obtain ⟨x3, hx3, h0⟩ := bnd_some h0
   refine TL.op1 (OpR.call0 fn87 (tree_splice_string_c hx3) rfl) rfl ?_
   obtain ⟨x4, hx4, h0⟩ := bnd_some h0
   refine TL.op1 (OpR.call0 fn86 (tree_leaf_string_c hx4) rfl) rfl ?_
   refine TL.op1 (OpR.pure rfl) rfl ?_
   refine TL.nil ?_
   show T X _ _ _
   refine T.ret ?_
   obtain rfl := Option.some.inj h0
   exact PostG.retP (ks := []) (Gst.only [6] rfl) undef (ResL.cons (ResV.tmp rfl) ResL.nil) rfl rfl rfl rfl
 refine T.condF rfl (eq_false_of_ne_true c2) ?_
 refine T.skip ?_
 show T X _ _ _
 refine T.seq ?_
 refine T.region ?_
 refine TL.op1 (OpR.pure rfl) rfl ?_
 refine TL.op1 (OpR.pure rfl) rfl ?_
 obtain ⟨x5, hx5, h0⟩ := bnd_some h0
 refine TL.op1 (OpR.call0 fn60 (tree_Node_string_kid_c hx5) rfl) rfl ?_
 refine TL.op1 (OpR.pure rfl) rfl ?_
 refine TL.op1 (OpR.pure rfl) rfl ?_
 refine TL.op1 (OpR.pure rfl) rfl ?_
 refine TL.op1 (OpR.pure rfl) rfl ?_
 refine TL.op1 (OpR.pure rfl) rfl ?_
 refine TL.nil ?_
 show T X _ _ _
 refine T.seq ?_
 obtain ⟨x7, hx7, h0⟩ := bnd_some h0
 obtain ⟨x8, hx8, h0⟩ := bnd_some h0
 rw [o_tree_Node_string_eq hx8] at hx7
 obtain ⟨x9, hx9, h0⟩ := bnd_some h0
 obtain ⟨x10, hx10, h0⟩ := bnd_some h0
 obtain ⟨x11, hx11, h0⟩ := bnd_some h0
 refine T.drawQ drawsX [.nod [.sl 1 (List.map eNP a0), .sl 1 (List.map eS a1), .val (.int .i64 a2)], .nod [.sl 1 (List.map eNP a0), .sl 1 (List.map eS a1), .val (.int .i64 a2)], .nod [.sl 1 (List.map eNP a0), .sl 1 (List.map eS a1), .val (.int .i64 a2)], .sl 1 (List.map eNP a0), .val (.int .i64 x5.1), .val (.int .i64 x5.1), .val (.int .i64 (w64 (x5.1 + 1))), .nod [.sl 1 (List.map eNP a0), .sl 1 (List.map eS a1), .val (.int .i64 a2)], .nod [.sl 1 (List.map eNP a0), .sl 1 (List.map eS a1), .val (.int .i64 a2)], .nod [.sl 1 (List.map eNP a0), .sl 1 (List.map eS a1), .val (.int .i64 a2)], .sl 1 (List.map eNP a0), .val (.int .i64 x5.1), .nod [.nod [.sl 1 (List.map eNP x8.fKids), .sl 1 (List.map eS x8.fItems), .val (.int .i64 x8.fN)]], .nod [.sl 1 (List.map eNP x8.fKids), .sl 1 (List.map eS x8.fItems), .val (.int .i64 x8.fN)], .val (.int .i64 x5.2), .val (.string (bs a4)), .nod [.sl 1 (List.map eNP x9.1), .sl 1 (List.map eS x9.2.1), .val (.int .i64 x9.2.2)], .sl 1 (List.map eNP [(c_tree_Node_string (⟨x9.1, x9.2.1, x9.2.2⟩ : tree_Node_string))]), .sl 1 (List.map eNP x10), .nod [.sl 1 (List.map eNP x11.1), .sl 1 (List.map eS x11.2.1), .val (.int .i64 x11.2.2)], .nod [.sl 1 (List.map eNP x11.1), .sl 1 (List.map eS x11.2.1), .val (.int .i64 x11.2.2)]] [0, 1, 2, 6, 7, 8, 9, 10, 22, 23, 24, 25, 26, 27, 28, 29, 30, 31, 32, 33, 34, 35, 36, 37, 38, 39, 40, 41, 42, 43, 44, 45, 46, 47] (by decide +kernel) rfl ?_ rfl ?_
 rotate_left
 · show T X _ _ _
   refine T.ret ?_
   obtain rfl := Option.some.inj h0
   exact PostG.retP (ks := []) (Gst.only [6] rfl) undef (ResL.cons (ResV.tmp rfl) ResL.nil) rfl rfl rfl rfl
 refine OpsQ.yes (Want.plain rfl) rfl (OpR.pure rfl) ?_
 refine OpsQ.yes (Want.plain rfl) rfl (OpR.pure rfl) ?_
 refine OpsQ.yes (Want.plain rfl) rfl (OpR.pure rfl) ?_
 refine OpsQ.yes (Want.plain rfl) rfl (OpR.pure rfl) ?_
 refine OpsQ.yes (Want.plain rfl) rfl (OpR.pure rfl) ?_
 refine OpsQ.yes (Want.plain rfl) rfl (OpR.pure rfl) ?_
 refine OpsQ.yes (Want.plain rfl) rfl (OpR.pure rfl) ?_
 refine OpsQ.yes (Want.plain rfl) rfl (OpR.pure rfl) ?_
 refine OpsQ.yes (Want.plain rfl) rfl (OpR.pure rfl) ?_
 refine OpsQ.yes (Want.plain rfl) rfl (OpR.pure rfl) ?_
 refine OpsQ.yes (Want.plain rfl) rfl (OpR.pure rfl) ?_
 refine OpsQ.yes (Want.plain rfl) rfl (OpR.pure rfl) ?_
 refine OpsQ.yes (Want.plain rfl) rfl (OpR.indexM eNP hx7 rfl rfl rfl rfl rfl) ?_
 refine OpsQ.yes (Want.plain rfl) rfl (OpR.pure rfl) ?_
 refine OpsQ.yes (Want.plain rfl) rfl (OpR.pure rfl) ?_
 refine OpsQ.yes (Want.plain rfl) rfl (OpR.pure rfl) ?_
 refine OpsQ.yes (Want.plain rfl) rfl (OpR.call0 fn61 (ih hx9) rfl) ?_
 refine OpsQ.yes (Want.plain rfl) rfl (OpR.lit rfl rfl rfl rfl rfl rfl rfl) ?_
 refine OpsQ.yes (Want.plain rfl) rfl (OpR.call0 fn89 (tree_splice_tree_Node_string_c hx10) rfl) ?_
 refine OpsQ.yes (Want.plain rfl) rfl (OpR.call0 fn88 (tree_inner_string_c hx11) rfl) ?_
 refine OpsQ.yes (Want.plain rfl) rfl (OpR.pure rfl) ?_
 exact OpsQ.nil
noncomputable def tree_Tree_string_Set (a0 : tree_Tree_string) (a1 : Int) (a2 : List UInt8) : Option (tree_Tree_string × Bool) :=
  bnd (tree_Tree_string_has a0 a1) fun x2 =>
  if x2 = true then
    bnd (some a0.fRoot) fun q4 => match q4 with
      | none =>
        none
      | some z5 =>
        bnd (o_tree_Node_string z5) fun x6 =>
        bnd (tree_Node_string_set 64 x6.fKids x6.fItems x6.fN a1 a2) fun x7 =>
        some ((⟨(some (c_tree_Node_string (⟨x7.1, x7.2.1, x7.2.2⟩ : tree_Node_string)))⟩ : tree_Tree_string), true)
  else
    some (a0, false)
set_option maxHeartbeats 4000000 in
theorem tree_Tree_string_Set_c {a0 : tree_Tree_string} {a1 : Int} {a2 : List UInt8} {res : tree_Tree_string × Bool} (h0 : tree_Tree_string_Set a0 a1 a2 = some res) : CallF X 20 [.agg [(eOP a0.fRoot)], .val (.int .i64 a1), .val (.string (bs a2))] [] (fun x => .tup [.agg [(eOP res.1.fRoot)], .val (.bool res.2)]) (fun x => []) := by
 unfold tree_Tree_string_Set at h0
 refine CallF.mkG (X := X) rfl Try.func20 rfl rfl Try.ntmps20 rfl rfl ?_
 refine T.seq ?_
 refine T.region ?_
 refine TL.op1 (OpR.boxImm rfl rfl) rfl ?_
 refine TL.op (OpR.alloc rfl rfl (fun _ => rfl)) rfl (fun p1 => ?_)
 refine TL.op1 (OpR.pure rfl) rfl ?_
 refine TL.nil ?_
 show T X _ _ _
 refine T.seq ?_
 refine T.seq ?_
 refine T.region ?_
 refine TL.op1 (OpR.pure rfl) rfl ?_
 refine TL.op1 (OpR.pure rfl) rfl ?_
 obtain ⟨x2, hx2, h0⟩ := bnd_some h0
 refine TL.op1 (OpR.call0 fn58 (tree_Tree_string_has_c hx2) rfl) rfl ?_
 refine TL.op1 (OpR.pure rfl) rfl ?_
 refine TL.nil ?_
 show T X _ _ _
 rcases ite_some h0 with ⟨c3, h0⟩ | ⟨c3, h0⟩
 rotate_left
 · refine T.condT rfl (not_f (eq_false_of_ne_true c3)) ?_
   refine T.seq ?_
   refine T.region ?_
   refine TL.op1 (OpR.pure rfl) rfl ?_
   refine TL.op0 (OpR.store 0 rfl rfl rfl rfl rfl rfl rfl rfl) ?_
   refine TL.op1 (OpR.pure rfl) rfl ?_
   refine TL.nil ?_
   show T X _ _ _
   refine T.ret ?_
   obtain rfl := Option.some.inj h0
   exact PostG.retP (ks := []) (Gst.only [6, 7] rfl) undef (ResL.cons (ResV.var 0 rfl rfl rfl rfl) (ResL.cons (ResV.tmp rfl) ResL.nil)) rfl rfl rfl rfl
 refine T.condF rfl (not_t (c3)) ?_
 refine T.skip ?_
 show T X _ _ _
 refine T.seq ?_
 refine T.region ?_
 refine TL.op1 (OpR.pure rfl) rfl ?_
 obtain ⟨q4, hq4, h0⟩ := bnd_some h0
 rcases q4 with _ | z5
 · dsimp only at h0
   refine TL.op1 (OpR.cast (OpR.pure rfl) (congrArg eOP (Option.some.inj hq4))) rfl ?_
   refine TL.op1 (OpR.pure rfl) rfl ?_
   refine TL.op1 (OpR.pure rfl) rfl ?_
   exact (by cases h0)
 dsimp only at h0
 obtain ⟨x6, hx6, h0⟩ := bnd_some h0
 rw [o_tree_Node_string_eq hx6] at hq4
 refine TL.op1 (OpR.cast (OpR.pure rfl) (congrArg eOP (Option.some.inj hq4))) rfl ?_
 refine TL.op1 (OpR.pure rfl) rfl ?_
 refine TL.op1 (OpR.pure rfl) rfl ?_
 obtain ⟨x7, hx7, h0⟩ := bnd_some h0
 refine TL.op1 (OpR.call0 fn61 (tree_Node_string_set_c hx7) rfl) rfl ?_
 refine TL.op1 (OpR.build rfl rfl rfl rfl rfl) rfl ?_
 refine TL.op0 (OpR.store 0 rfl rfl rfl rfl rfl rfl rfl rfl) ?_
 refine TL.op1 (OpR.pure rfl) rfl ?_
 refine TL.nil ?_
 show T X _ _ _
 refine T.ret ?_
 obtain rfl := Option.some.inj h0
 exact PostG.retP (ks := []) (Gst.only [6, 7] rfl) undef (ResL.cons (ResV.var 0 rfl rfl rfl rfl) (ResL.cons (ResV.tmp rfl) ResL.nil)) rfl rfl rfl rfl
noncomputable def tree_Node_string_width (a0 : List NP) (a1 : List (List UInt8)) (a2 : Int) : Option Int :=
  some (w64 ((a0.length : Int) + (a1.length : Int)))
set_option maxHeartbeats 4000000 in
theorem tree_Node_string_width_c {a0 : List NP} {a1 : List (List UInt8)} {a2 : Int} {res : Int} (h0 : tree_Node_string_width a0 a1 a2 = some res) : CallF X 90 [.nod [.sl 1 (List.map eNP a0), .sl 1 (List.map eS a1), .val (.int .i64 a2)]] [] (fun x => .val (.int .i64 res)) (fun x => []) := by
 unfold tree_Node_string_width at h0
 refine CallF.mkG (X := X) rfl Try.func90 rfl rfl Try.ntmps90 rfl rfl ?_
 refine T.seq ?_
 refine T.region ?_
 refine TL.op1 (OpR.pure rfl) rfl ?_
 refine TL.nil ?_
 show T X _ _ _
 refine T.seq ?_
 refine T.drawQ drawsX [.nod [.sl 1 (List.map eNP a0), .sl 1 (List.map eS a1), .val (.int .i64 a2)], .nod [.sl 1 (List.map eNP a0), .sl 1 (List.map eS a1), .val (.int .i64 a2)], .nod [.sl 1 (List.map eNP a0), .sl 1 (List.map eS a1), .val (.int .i64 a2)], .sl 1 (List.map eNP a0), .val (.int .i64 (a0.length : Int)), .nod [.sl 1 (List.map eNP a0), .sl 1 (List.map eS a1), .val (.int .i64 a2)], .nod [.sl 1 (List.map eNP a0), .sl 1 (List.map eS a1), .val (.int .i64 a2)], .nod [.sl 1 (List.map eS a1), .val (.int .i64 a2)], .sl 1 (List.map eS a1), .val (.int .i64 (a1.length : Int)), .val (.int .i64 (w64 ((a0.length : Int) + (a1.length : Int)))), .val (.int .i64 (w64 ((a0.length : Int) + (a1.length : Int))))] [0, 2, 3, 4, 5, 6, 7, 8, 9, 10, 11, 12, 13] (by decide +kernel) rfl ?_ rfl ?_
 rotate_left
 · show T X _ _ _
   refine T.ret ?_
   obtain rfl := Option.some.inj h0
   exact PostG.retP (ks := []) (Gst.only [2] rfl) undef (ResL.cons (ResV.tmp rfl) ResL.nil) rfl rfl rfl rfl
 refine OpsQ.yes (Want.plain rfl) rfl (OpR.pure rfl) ?_
 refine OpsQ.yes (Want.plain rfl) rfl (OpR.pure rfl) ?_
 refine OpsQ.yes (Want.plain rfl) rfl (OpR.pure rfl) ?_
 refine OpsQ.yes (Want.plain rfl) rfl (OpR.pure rfl) ?_
 refine OpsQ.yes (Want.plain rfl) rfl (OpR.cast (OpR.pure rfl) (intE (lenM _ _))) ?_
 refine OpsQ.yes (Want.plain rfl) rfl (OpR.pure rfl) ?_
 refine OpsQ.yes (Want.plain rfl) rfl (OpR.pure rfl) ?_
 refine OpsQ.yes (Want.plain rfl) rfl (OpR.pure rfl) ?_
 refine OpsQ.yes (Want.plain rfl) rfl (OpR.pure rfl) ?_
 refine OpsQ.yes (Want.plain rfl) rfl (OpR.cast (OpR.pure rfl) (intE (lenM _ _))) ?_
 refine OpsQ.yes (Want.plain rfl) rfl (OpR.pure rfl) ?_
 refine OpsQ.yes (Want.plain rfl) rfl (OpR.pure rfl) ?_
 exact OpsQ.nil
noncomputable def tree_glue_string (a0 : List NP) (a1 : List (List UInt8)) (a2 : Int) (a3 : List NP) (a4 : List (List UInt8)) (a5 : Int) : Option (List NP) :=
  bnd (bnd (tree_Node_string_flat a0 a1 a2) fun x2 =>
  if x2 = true then
    bnd (tree_Node_string_flat a3 a4 a5) fun x4 =>
    some x4
  else
    some false : Option Bool) fun t1 =>
  if t1 = true then
    bnd (slices_Concat_string_string [a1, a4]) fun x7 =>
    bnd (tree_leaves_string x7) fun x8 =>
    some x8
  else
    bnd (slices_Concat_tree_Node_string_tree_Node_string [a0, a3]) fun x10 =>
    bnd (tree_inners_string x10) fun x11 =>
    some x11
set_option maxHeartbeats 4000000 in
theorem tree_glue_string_c {a0 : List NP} {a1 : List (List UInt8)} {a2 : Int} {a3 : List NP} {a4 : List (List UInt8)} {a5 : Int} {res : (List NP)} (h0 : tree_glue_string a0 a1 a2 a3 a4 a5 = some res) : CallF X 91 [.nod [.sl 1 (List.map eNP a0), .sl 1 (List.map eS a1), .val (.int .i64 a2)], .nod [.sl 1 (List.map eNP a3), .sl 1 (List.map eS a4), .val (.int .i64 a5)]] [] (fun x => .sl 1 (List.map eNP res)) (fun x => []) := by
 unfold tree_glue_string at h0
 refine CallF.mkG (X := X) rfl Try.func91 rfl rfl Try.ntmps91 rfl rfl ?_
 refine T.seq ?_
 refine T.region ?_
 refine TL.op1 (OpR.pure rfl) rfl ?_
 refine TL.nil ?_
 show T X _ _ _
 refine T.seq ?_
 refine T.seq ?_
 obtain ⟨t1, ht1, h0⟩ := bnd_some h0
 refine T.cutC (fun S' => S' = ⟨[(10, .val (.bool t1)), (4, .val (.slice none 0 0)), (1, .nod [.sl 1 (List.map eNP a3), .sl 1 (List.map eS a4), .val (.int .i64 a5)]), (0, .nod [.sl 1 (List.map eNP a0), .sl 1 (List.map eS a1), .val (.int .i64 a2)])], [], 33⟩) (fun _ h => h) ?_ ?_
 · refine T.region ?_
   refine TL.op1 (OpR.pure rfl) rfl ?_
   obtain ⟨x2, hx2, ht1⟩ := bnd_some ht1
   refine TL.op1 (OpR.call0 fn59 (tree_Node_string_flat_c hx2) rfl) rfl ?_
   refine TL.op1 (OpR.pure rfl) rfl ?_
   rcases ite_some ht1 with ⟨c3, ht1⟩ | ⟨c3, ht1⟩
   rotate_left
   · refine TL.off rfl rfl rfl rfl (eq_false_of_ne_true c3) rfl rfl ?_
     refine TL.off rfl rfl rfl rfl (eq_false_of_ne_true c3) rfl rfl ?_
     refine TL.op1 (OpR.pickF rfl (eq_false_of_ne_true c3) rfl) rfl ?_
     refine TL.nil ?_
     obtain rfl := Option.some.inj ht1
     exact ⟨_, Gst.only [0, 1, 4, 10] rfl, rfl⟩
   refine TL.on rfl rfl rfl rfl (c3) ?_
   refine TL.op1 (OpR.pure rfl) rfl ?_
   refine TL.on rfl rfl rfl rfl (c3) ?_
   obtain ⟨x4, hx4, ht1⟩ := bnd_some ht1
   refine TL.op1 (OpR.call0 fn59 (tree_Node_string_flat_c hx4) rfl) rfl ?_
   refine TL.op1 (OpR.pickT rfl (c3) rfl) rfl ?_
   refine TL.nil ?_
   obtain rfl := Option.some.inj ht1
   exact ⟨_, Gst.only [0, 1, 4, 10] rfl, rfl⟩
 rintro _ rfl
 show T X _ _ _
 rcases ite_some h0 with ⟨c5, h0⟩ | ⟨c5, h0⟩
 · refine T.condT rfl (c5) ?_
   refine T.seq ?_
   obtain ⟨x7, hx7, h0⟩ := bnd_some h0
   obtain ⟨x8, hx8, h0⟩ := bnd_some h0
   refine T.drawQ drawsX [.nod [.sl 1 (List.map eNP a0), .sl 1 (List.map eS a1), .val (.int .i64 a2)], .nod [.sl 1 (List.map eNP a0), .sl 1 (List.map eS a1), .val (.int .i64 a2)], .nod [.sl 1 (List.map eS a1), .val (.int .i64 a2)], .sl 1 (List.map eS a1), .nod [.sl 1 (List.map eNP a3), .sl 1 (List.map eS a4), .val (.int .i64 a5)], .nod [.sl 1 (List.map eNP a3), .sl 1 (List.map eS a4), .val (.int .i64 a5)], .nod [.sl 1 (List.map eS a4), .val (.int .i64 a5)], .sl 1 (List.map eS a4), .sl 1 (List.map e_sl40 [a1, a4]), .sl 1 (List.map eS x7), .sl 1 (List.map eNP x8), .sl 1 (List.map eNP x8)] [0, 1, 4, 10, 11, 12, 13, 14, 15, 16, 17, 18, 19, 20, 21] (by decide +kernel) rfl ?_ rfl ?_
   rotate_left
   · show T X _ _ _
     refine T.ret ?_
     obtain rfl := Option.some.inj h0
     exact PostG.retP (ks := []) (Gst.only [4] rfl) undef (ResL.cons (ResV.tmp rfl) ResL.nil) rfl rfl rfl rfl
   refine OpsQ.yes (Want.plain rfl) rfl (OpR.pure rfl) ?_
   refine OpsQ.yes (Want.plain rfl) rfl (OpR.pure rfl) ?_
   refine OpsQ.yes (Want.plain rfl) rfl (OpR.pure rfl) ?_
   refine OpsQ.yes (Want.plain rfl) rfl (OpR.pure rfl) ?_
   refine OpsQ.yes (Want.plain rfl) rfl (OpR.pure rfl) ?_
   refine OpsQ.yes (Want.plain rfl) rfl (OpR.pure rfl) ?_
   refine OpsQ.yes (Want.plain rfl) rfl (OpR.pure rfl) ?_
   refine OpsQ.yes (Want.plain rfl) rfl (OpR.pure rfl) ?_
   refine OpsQ.yes (Want.plain rfl) rfl (OpR.lit rfl rfl rfl rfl rfl rfl rfl) ?_
   refine OpsQ.yes (Want.plain rfl) rfl (OpR.call0 fn100 (slices_Concat_string_string_c hx7) rfl) ?_
   refine OpsQ.yes (Want.plain rfl) rfl (OpR.call0 fn57 (tree_leaves_string_c hx8) rfl) ?_
   refine OpsQ.yes (Want.plain rfl) rfl (OpR.pure rfl) ?_
   exact OpsQ.nil
 refine T.condF rfl (eq_false_of_ne_true c5) ?_
 refine T.skip ?_
 show T X _ _ _
 refine T.seq ?_
 obtain ⟨x10, hx10, h0⟩ := bnd_some h0
 obtain ⟨x11, hx11, h0⟩ := bnd_some h0
 refine T.drawQ drawsX [.nod [.sl 1 (List.map eNP a0), .sl 1 (List.map eS a1), .val (.int .i64 a2)], .nod [.sl 1 (List.map eNP a0), .sl 1 (List.map eS a1), .val (.int .i64 a2)], .nod [.sl 1 (List.map eNP a0), .sl 1 (List.map eS a1), .val (.int .i64 a2)], .sl 1 (List.map eNP a0), .nod [.sl 1 (List.map eNP a3), .sl 1 (List.map eS a4), .val (.int .i64 a5)], .nod [.sl 1 (List.map eNP a3), .sl 1 (List.map eS a4), .val (.int .i64 a5)], .nod [.sl 1 (List.map eNP a3), .sl 1 (List.map eS a4), .val (.int .i64 a5)], .sl 1 (List.map eNP a3), .sl 1 (List.map e_sl96 [a0, a3]), .sl 1 (List.map eNP x10), .sl 1 (List.map eNP x11), .sl 1 (List.map eNP x11)] [0, 1, 4, 10, 22, 23, 24, 25, 26, 27, 28, 29, 30, 31, 32] (by decide +kernel) rfl ?_ rfl ?_
 rotate_left
 · show T X _ _ _
   refine T.ret ?_
   obtain rfl := Option.some.inj h0
   exact PostG.retP (ks := []) (Gst.only [4] rfl) undef (ResL.cons (ResV.tmp rfl) ResL.nil) rfl rfl rfl rfl
 refine OpsQ.yes (Want.plain rfl) rfl (OpR.pure rfl) ?_
 refine OpsQ.yes (Want.plain rfl) rfl (OpR.pure rfl) ?_
 refine OpsQ.yes (Want.plain rfl) rfl (OpR.pure rfl) ?_
 refine OpsQ.yes (Want.plain rfl) rfl (OpR.pure rfl) ?_
 refine OpsQ.yes (Want.plain rfl) rfl (OpR.pure rfl) ?_
 refine OpsQ.yes (Want.plain rfl) rfl (OpR.pure rfl) ?_
 refine OpsQ.yes (Want.plain rfl) rfl (OpR.pure rfl) ?_
 refine OpsQ.yes (Want.plain rfl) rfl (OpR.pure rfl) ?_
 refine OpsQ.yes (Want.plain rfl) rfl (OpR.lit rfl rfl rfl rfl rfl rfl rfl) ?_
 refine OpsQ.yes (Want.plain rfl) rfl (OpR.call0 fn101 (slices_Concat_tree_Node_string_tree_Node_string_c hx10) rfl) ?_
 refine OpsQ.yes (Want.plain rfl) rfl (OpR.call0 fn84 (tree_inners_string_c hx11) rfl) ?_
 refine OpsQ.yes (Want.plain rfl) rfl (OpR.pure rfl) ?_
 exact OpsQ.nil
noncomputable def tree_Node_string_take.body (self : (List NP) → (List (List UInt8)) → Int → Int → Option ((List NP) × (List (List UInt8)) × Int)) (a0 : List NP) (a1 : List (List UInt8)) (a2 : Int) (a3 : Int) : Option ((List NP) × (List (List UInt8)) × Int) :=
  bnd (tree_Node_string_flat a0 a1 a2) fun x1 =>
  if x1 = true then
    bnd (tree_splice_string a1 a3 (w64 (a3 + 1)) []) fun x3 =>
    bnd (tree_leaf_string x3) fun x4 =>
    some (x4.1, x4.2.1, x4.2.2)
  else
    bnd (tree_Node_string_kid a0 a1 a2 a3) fun x5 =>
    bnd (idx a0 x5.1) fun x6 =>
    bnd (o_tree_Node_string x6) fun x7 =>
    bnd (self x7.fKids x7.fItems x7.fN x5.2) fun x8 =>
    bnd (tree_Node_string_width x8.1 x8.2.1 x8.2.2) fun x9 =>
    if x9 ≥ 3 then
      bnd (tree_splice_tree_Node_string a0 x5.1 (w64 (x5.1 + 1)) [(c_tree_Node_string (⟨x8.1, x8.2.1, x8.2.2⟩ : tree_Node_string))]) fun x11 =>
      bnd (tree_inner_string x11) fun x12 =>
      some (x12.1, x12.2.1, x12.2.2)
    else
      if x5.1 > 0 then
        bnd (idx a0 (w64 (x5.1 - 1))) fun x15 =>
        bnd (o_tree_Node_string x15) fun x16 =>
        bnd (tree_glue_string x16.fKids x16.fItems x16.fN x8.1 x8.2.1 x8.2.2) fun x17 =>
        bnd (tree_splice_tree_Node_string a0 (w64 (x5.1 - 1)) (w64 (x5.1 + 1)) x17) fun x18 =>
        bnd (tree_inner_string x18) fun x19 =>
        some (x19.1, x19.2.1, x19.2.2)
      else
        bnd (idx a0 1) fun x21 =>
        bnd (o_tree_Node_string x21) fun x22 =>
        bnd (tree_glue_string x8.1 x8.2.1 x8.2.2 x22.fKids x22.fItems x22.fN) fun x23 =>
        bnd (tree_splice_tree_Node_string a0 0 2 x23) fun x24 =>
        bnd (tree_inner_string x24) fun x25 =>
        some (x25.1, x25.2.1, x25.2.2)
noncomputable def tree_Node_string_take : Nat → (List NP) → (List (List UInt8)) → Int → Int → Option ((List NP) × (List (List UInt8)) × Int)
  | 0 => fun _ _ _ _ => none
  | n + 1 => tree_Node_string_take.body (tree_Node_string_take n)
set_option maxHeartbeats 4000000 in
theorem tree_Node_string_take_c {fu : Nat} {a0 : List NP} {a1 : List (List UInt8)} {a2 : Int} {a3 : Int} {res : (List NP) × (List (List UInt8)) × Int} (h0 : tree_Node_string_take fu a0 a1 a2 a3 = some res) : CallF X 62 [.nod [.sl 1 (List.map eNP a0), .sl 1 (List.map eS a1), .val (.int .i64 a2)], .val (.int .i64 a3)] [] (fun x => .nod [.sl 1 (List.map eNP res.1), .sl 1 (List.map eS res.2.1), .val (.int .i64 res.2.2)]) (fun x => []) := by
 induction fu generalizing a0 a1 a2 a3 res
 · exact nomatch h0
 rename_i fu ih
 replace h0 : tree_Node_string_take.body (tree_Node_string_take fu) a0 a1 a2 a3 = some res := h0
 unfold tree_Node_string_take.body at h0
 refine CallF.mkG (X := X) rfl Try.func62 rfl rfl Try.ntmps62 rfl rfl ?_
 refine T.seq ?_
 refine T.region ?_
 refine TL.op1 (OpR.pure rfl) rfl ?_
 refine TL.nil ?_
 show T X _ _ _
 refine T.seq ?_
 refine T.seq ?_
 refine T.region ?_
 refine TL.op1 (OpR.pure rfl) rfl ?_
 obtain ⟨x1, hx1, h0⟩ := bnd_some h0
 refine TL.op1 (OpR.call0 fn59 (tree_Node_string_flat_c hx1) rfl) rfl ?_
 refine TL.nil ?_
 show T X _ _ _
 rcases ite_some h0 with ⟨c2, h0⟩ | ⟨c2, h0⟩
 · refine T.condT rfl (c2) ?_
   refine T.seq ?_
   refine T.region ?_
   refine TL.op1 (OpR.pure rfl) rfl ?_
   refine TL.op1 (OpR.pure rfl) rfl ?_
   refine TL.op1 (OpR.pure rfl) rfl ?_
   refine TL.op1 (OpR.pure rfl) rfl ?_
   refine TL.op1 (OpR.pure rfl) rfl ?_
   refine TL.op1 (OpR.pure rfl) rfl ?_
   refine TL.op1 (OpR.pure rfl) rfl ?_
   obtain ⟨x3, hx3, h0⟩ := bnd_some h0
   refine TL.op1 (OpR.call0 fn87 (CallF.denil (tree_splice_string_c hx3) (ReL.cons Re.refl (ReL.cons Re.refl (ReL.cons Re.refl (ReL.cons (Re.base .nil) ReL.nil))))) rfl) rfl ?_
   obtain ⟨x4, hx4, h0⟩ := bnd_some h0
   refine TL.op1 (OpR.call0 fn86 (tree_leaf_string_c hx4) rfl) rfl ?_
   refine TL.op1 (OpR.pure rfl) rfl ?_
   refine TL.nil ?_
   show T X _ _ _
   refine T.ret ?_
   obtain rfl := Option.some.inj h0
   exact PostG.retP (ks := []) (Gst.only [4] rfl) undef (ResL.cons (ResV.tmp rfl) ResL.nil) rfl rfl rfl rfl
 refine T.condF rfl (eq_false_of_ne_true c2) ?_
 refine T.skip ?_
 show T X _ _ _
 refine T.seq ?_
 refine T.region ?_
 refine TL.op1 (OpR.pure rfl) rfl ?_
 refine TL.op1 (OpR.pure rfl) rfl ?_
 obtain ⟨x5, hx5, h0⟩ := bnd_some h0
 refine TL.op1 (OpR.call0 fn60 (tree_Node_string_kid_c hx5) rfl) rfl ?_
 refine TL.op1 (OpR.pure rfl) rfl ?_
 refine TL.op1 (OpR.pure rfl) rfl ?_
 refine TL.op1 (OpR.pure rfl) rfl ?_
 refine TL.op1 (OpR.pure rfl) rfl ?_
 refine TL.op1 (OpR.pure rfl) rfl ?_
 refine TL.nil ?_
 show T X _ _ _
 refine T.seq ?_
 refine T.region ?_
 refine TL.op1 (OpR.pure rfl) rfl ?_
 refine TL.op1 (OpR.pure rfl) rfl ?_
 refine TL.op1 (OpR.pure rfl) rfl ?_
 refine TL.op1 (OpR.pure rfl) rfl ?_
 refine TL.op1 (OpR.pure rfl) rfl ?_
 obtain ⟨x6, hx6, h0⟩ := bnd_some h0
 obtain ⟨x7, hx7, h0⟩ := bnd_some h0
 rw [o_tree_Node_string_eq hx7] at hx6
 refine TL.op1 (OpR.indexM eNP hx6 rfl rfl rfl rfl rfl) rfl ?_
 refine TL.op1 (OpR.pure rfl) rfl ?_
 refine TL.op1 (OpR.pure rfl) rfl ?_
 obtain ⟨x8, hx8, h0⟩ := bnd_some h0
 refine TL.op1 (OpR.call0 fn62 (ih hx8) rfl) rfl ?_
 refine TL.op1 (OpR.pure rfl) rfl ?_
 refine TL.nil ?_
 show T X _ _ _
 refine T.seq ?_
 refine T.seq ?_
 refine T.region ?_
 refine TL.op1 (OpR.pure rfl) rfl ?_
 obtain ⟨x9, hx9, h0⟩ := bnd_some h0
 refine TL.op1 (OpR.call0 fn90 (tree_Node_string_width_c hx9) rfl) rfl ?_
 refine TL.op1 (OpR.pure rfl) rfl ?_
 refine TL.nil ?_
 show T X _ _ _
 rcases ite_some h0 with ⟨c10, h0⟩ | ⟨c10, h0⟩
 · refine T.condT rfl (decide_eq_true c10) ?_
   refine T.seq ?_
   refine T.region ?_
   refine TL.op1 (OpR.pure rfl) rfl ?_
   refine TL.op1 (OpR.pure rfl) rfl ?_
   refine TL.op1 (OpR.pure rfl) rfl ?_
   refine TL.op1 (OpR.pure rfl) rfl ?_
   refine TL.op1 (OpR.pure rfl) rfl ?_
   refine TL.op1 (OpR.pure rfl) rfl ?_
   refine TL.op1 (OpR.pure rfl) rfl ?_
   refine TL.op1 (OpR.pure rfl) rfl ?_
   refine TL.op1 (OpR.lit rfl rfl rfl rfl rfl rfl rfl) rfl ?_
   obtain ⟨x11, hx11, h0⟩ := bnd_some h0
   refine TL.op1 (OpR.call0 fn89 (tree_splice_tree_Node_string_c hx11) rfl) rfl ?_
   obtain ⟨x12, hx12, h0⟩ := bnd_some h0
   refine TL.op1 (OpR.call0 fn88 (tree_inner_string_c hx12) rfl) rfl ?_
   refine TL.op1 (OpR.pure rfl) rfl ?_
   refine TL.nil ?_
   show T X _ _ _
   refine T.ret ?_
   obtain rfl := Option.some.inj h0
   exact PostG.retP (ks := []) (Gst.only [4] rfl) undef (ResL.cons (ResV.tmp rfl) ResL.nil) rfl rfl rfl rfl
 refine T.condF rfl (decide_eq_false c10) ?_
 refine T.skip ?_
 show T X _ _ _
 refine T.seq ?_
 refine T.seq ?_
 refine T.region ?_
 refine TL.op1 (OpR.pure rfl) rfl ?_
 refine TL.op1 (OpR.pure rfl) rfl ?_
 refine TL.nil ?_
 show T X _ _ _
 rcases ite_some h0 with ⟨c13, h0⟩ | ⟨c13, h0⟩
 rotate_left
 · refine T.condF rfl (decide_eq_false c13) ?_
   refine T.skip ?_
   show T X _ _ _
   refine T.seq ?_
   obtain ⟨x21, hx21, h0⟩ := bnd_some h0
   obtain ⟨x22, hx22, h0⟩ := bnd_some h0
   rw [o_tree_Node_string_eq hx22] at hx21
   obtain ⟨x23, hx23, h0⟩ := bnd_some h0
   obtain ⟨x24, hx24, h0⟩ := bnd_some h0
   obtain ⟨x25, hx25, h0⟩ := bnd_some h0
   refine T.drawQ drawsX [.nod [.sl 1 (List.map eNP a0), .sl 1 (List.map eS a1), .val (.int .i64 a2)], .nod [.sl 1 (List.map eNP a0), .sl 1 (List.map eS a1), .val (.int .i64 a2)], .nod [.sl 1 (List.map eNP a0), .sl 1 (List.map eS a1), .val (.int .i64 a2)], .sl 1 (List.map eNP a0), .nod [.sl 1 (List.map eNP x8.1), .sl 1 (List.map eS x8.2.1), .val (.int .i64 x8.2.2)], .nod [.sl 1 (List.map eNP a0), .sl 1 (List.map eS a1), .val (.int .i64 a2)], .nod [.sl 1 (List.map eNP a0), .sl 1 (List.map eS a1), .val (.int .i64 a2)], .nod [.sl 1 (List.map eNP a0), .sl 1 (List.map eS a1), .val (.int .i64 a2)], .sl 1 (List.map eNP a0), .nod [.nod [.sl 1 (List.map eNP x22.fKids), .sl 1 (List.map eS x22.fItems), .val (.int .i64 x22.fN)]], .nod [.sl 1 (List.map eNP x22.fKids), .sl 1 (List.map eS x22.fItems), .val (.int .i64 x22.fN)], .sl 1 (List.map eNP x23), .sl 1 (List.map eNP x24), .nod [.sl 1 (List.map eNP x25.1), .sl 1 (List.map eS x25.2.1), .val (.int .i64 x25.2.2)], .nod [.sl 1 (List.map eNP x25.1), .sl 1 (List.map eS x25.2.1), .val (.int .i64 x25.2.2)]] [0, 1, 4, 5, 6, 7, 8, 9, 19, 20, 21, 22, 23, 24, 25, 26, 27, 28, 29, 30, 31, 32, 33, 34, 35, 36, 48, 49, 70, 71, 72, 73, 74, 75, 76, 77, 78, 79, 80, 81, 82, 83] (by decide +kernel) rfl ?_ rfl ?_
   rotate_left
   · show T X _ _ _
     refine T.ret ?_
     obtain rfl := Option.some.inj h0
     exact PostG.retP (ks := []) (Gst.only [4] rfl) undef (ResL.cons (ResV.tmp rfl) ResL.nil) rfl rfl rfl rfl
   refine OpsQ.yes (Want.plain rfl) rfl (OpR.pure rfl) ?_
   refine OpsQ.yes (Want.plain rfl) rfl (OpR.pure rfl) ?_
   refine OpsQ.yes (Want.plain rfl) rfl (OpR.pure rfl) ?_
   refine OpsQ.yes (Want.plain rfl) rfl (OpR.pure rfl) ?_
   refine OpsQ.yes (Want.plain rfl) rfl (OpR.pure rfl) ?_
   refine OpsQ.yes (Want.plain rfl) rfl (OpR.pure rfl) ?_
   refine OpsQ.yes (Want.plain rfl) rfl (OpR.pure rfl) ?_
   refine OpsQ.yes (Want.plain rfl) rfl (OpR.pure rfl) ?_
   refine OpsQ.yes (Want.plain rfl) rfl (OpR.pure rfl) ?_
   refine OpsQ.yes (Want.plain rfl) rfl (OpR.indexM eNP hx21 rfl rfl rfl rfl rfl) ?_
   refine OpsQ.yes (Want.plain rfl) rfl (OpR.pure rfl) ?_
   refine OpsQ.yes (Want.plain rfl) rfl (OpR.call0 fn91 (tree_glue_string_c hx23) rfl) ?_
   refine OpsQ.yes (Want.plain rfl) rfl (OpR.call0 fn89 (tree_splice_tree_Node_string_c hx24) rfl) ?_
   refine OpsQ.yes (Want.plain rfl) rfl (OpR.call0 fn88 (tree_inner_string_c hx25) rfl) ?_
   refine OpsQ.yes (Want.plain rfl) rfl (OpR.pure rfl) ?_
   exact OpsQ.nil
 refine T.condT rfl (decide_eq_true c13) ?_
 refine T.seq ?_
 obtain ⟨x15, hx15, h0⟩ := bnd_some h0
 obtain ⟨x16, hx16, h0⟩ := bnd_some h0
 rw [o_tree_Node_string_eq hx16] at hx15
 obtain ⟨x17, hx17, h0⟩ := bnd_some h0
 obtain ⟨x18, hx18, h0⟩ := bnd_some h0
 obtain ⟨x19, hx19, h0⟩ := bnd_some h0
 refine T.drawQ drawsX [.nod [.sl 1 (List.map eNP a0), .sl 1 (List.map eS a1), .val (.int .i64 a2)], .nod [.sl 1 (List.map eNP a0), .sl 1 (List.map eS a1), .val (.int .i64 a2)], .nod [.sl 1 (List.map eNP a0), .sl 1 (List.map eS a1), .val (.int .i64 a2)], .sl 1 (List.map eNP a0), .val (.int .i64 x5.1), .val (.int .i64 (w64 (x5.1 - 1))), .val (.int .i64 x5.1), .val (.int .i64 (w64 (x5.1 + 1))), .nod [.sl 1 (List.map eNP a0), .sl 1 (List.map eS a1), .val (.int .i64 a2)], .nod [.sl 1 (List.map eNP a0), .sl 1 (List.map eS a1), .val (.int .i64 a2)], .nod [.sl 1 (List.map eNP a0), .sl 1 (List.map eS a1), .val (.int .i64 a2)], .sl 1 (List.map eNP a0), .val (.int .i64 x5.1), .val (.int .i64 (w64 (x5.1 - 1))), .nod [.nod [.sl 1 (List.map eNP x16.fKids), .sl 1 (List.map eS x16.fItems), .val (.int .i64 x16.fN)]], .nod [.sl 1 (List.map eNP x16.fKids), .sl 1 (List.map eS x16.fItems), .val (.int .i64 x16.fN)], .nod [.sl 1 (List.map eNP x8.1), .sl 1 (List.map eS x8.2.1), .val (.int .i64 x8.2.2)], .sl 1 (List.map eNP x17), .sl 1 (List.map eNP x18), .nod [.sl 1 (List.map eNP x19.1), .sl 1 (List.map eS x19.2.1), .val (.int .i64 x19.2.2)], .nod [.sl 1 (List.map eNP x19.1), .sl 1 (List.map eS x19.2.1), .val (.int .i64 x19.2.2)]] [0, 1, 4, 5, 6, 7, 8, 9, 19, 20, 21, 22, 23, 24, 25, 26, 27, 28, 29, 30, 31, 32, 33, 34, 35, 36, 48, 49, 50, 51, 52, 53, 54, 55, 56, 57, 58, 59, 60, 61, 62, 63, 64, 65, 66, 67, 68, 69] (by decide +kernel) rfl ?_ rfl ?_
 rotate_left
 · show T X _ _ _
   refine T.ret ?_
   obtain rfl := Option.some.inj h0
   exact PostG.retP (ks := []) (Gst.only [4] rfl) undef (ResL.cons (ResV.tmp rfl) ResL.nil) rfl rfl rfl rfl
 refine OpsQ.yes (Want.plain rfl) rfl (OpR.pure rfl) ?_
 refine OpsQ.yes (Want.plain rfl) rfl (OpR.pure rfl) ?_
 refine OpsQ.yes (Want.plain rfl) rfl (OpR.pure rfl) ?_
 refine OpsQ.yes (Want.plain rfl) rfl (OpR.pure rfl) ?_
 refine OpsQ.yes (Want.plain rfl) rfl (OpR.pure rfl) ?_
 refine OpsQ.yes (Want.plain rfl) rfl (OpR.pure rfl) ?_
 refine OpsQ.yes (Want.plain rfl) rfl (OpR.pure rfl) ?_
 refine OpsQ.yes (Want.plain rfl) rfl (OpR.pure rfl) ?_
 refine OpsQ.yes (Want.plain rfl) rfl (OpR.pure rfl) ?_
 refine OpsQ.yes (Want.plain rfl) rfl (OpR.pure rfl) ?_
 refine OpsQ.yes (Want.plain rfl) rfl (OpR.pure rfl) ?_
 refine OpsQ.yes (Want.plain rfl) rfl (OpR.pure rfl) ?_
 refine OpsQ.yes (Want.plain rfl) rfl (OpR.pure rfl) ?_
 refine OpsQ.yes (Want.plain rfl) rfl (OpR.pure rfl) ?_
 refine OpsQ.yes (Want.plain rfl) rfl (OpR.indexM eNP hx15 rfl rfl rfl rfl rfl) ?_
 refine OpsQ.yes (Want.plain rfl) rfl (OpR.pure rfl) ?_
 refine OpsQ.yes (Want.plain rfl) rfl (OpR.pure rfl) ?_
 refine OpsQ.yes (Want.plain rfl) rfl (OpR.call0 fn91 (tree_glue_string_c hx17) rfl) ?_
 refine OpsQ.yes (Want.plain rfl) rfl (OpR.call0 fn89 (tree_splice_tree_Node_string_c hx18) rfl) ?_
 refine OpsQ.yes (Want.plain rfl) rfl (OpR.call0 fn88 (tree_inner_string_c hx19) rfl) ?_
 refine OpsQ.yes (Want.plain rfl) rfl (OpR.pure rfl) ?_
 exact OpsQ.nil
noncomputable def tree_Tree_string_Delete (a0 : tree_Tree_string) (a1 : Int) : Option (tree_Tree_string × Bool) :=
  bnd (tree_Tree_string_has a0 a1) fun x2 =>
  if x2 = true then
    bnd (some a0.fRoot) fun q4 => match q4 with
      | none =>
        none
      | some z5 =>
        bnd (o_tree_Node_string z5) fun x6 =>
        bnd (tree_Node_string_take 64 x6.fKids x6.fItems x6.fN a1) fun x7 =>
        bnd (tree_above_string [(c_tree_Node_string (⟨x7.1, x7.2.1, x7.2.2⟩ : tree_Node_string))]) fun x8 =>
        some (x8, true)
  else
    some (a0, false)
set_option maxHeartbeats 4000000 in
theorem tree_Tree_string_Delete_c {a0 : tree_Tree_string} {a1 : Int} {res : tree_Tree_string × Bool} (h0 : tree_Tree_string_Delete a0 a1 = some res) : CallF X 21 [.agg [(eOP a0.fRoot)], .val (.int .i64 a1)] [] (fun x => .tup [.agg [(eOP res.1.fRoot)], .val (.bool res.2)]) (fun x => []) := by
 unfold tree_Tree_string_Delete at h0
 refine CallF.mkG (X := X) rfl Try.func21 rfl rfl Try.ntmps21 rfl rfl ?_
 refine T.seq ?_
 refine T.region ?_
 refine TL.op1 (OpR.boxImm rfl rfl) rfl ?_
 refine TL.op (OpR.alloc rfl rfl (fun _ => rfl)) rfl (fun p1 => ?_)
 refine TL.op1 (OpR.pure rfl) rfl ?_
 refine TL.nil ?_
 show T X _ _ _
 refine T.seq ?_
 refine T.seq ?_
 refine T.region ?_
 refine TL.op1 (OpR.pure rfl) rfl ?_
 refine TL.op1 (OpR.pure rfl) rfl ?_
 obtain ⟨x2, hx2, h0⟩ := bnd_some h0
 refine TL.op1 (OpR.call0 fn58 (tree_Tree_string_has_c hx2) rfl) rfl ?_
 refine TL.op1 (OpR.pure rfl) rfl ?_
 refine TL.nil ?_
 show T X _ _ _
 rcases ite_some h0 with ⟨c3, h0⟩ | ⟨c3, h0⟩
 rotate_left
 · refine T.condT rfl (not_f (eq_false_of_ne_true c3)) ?_
   refine T.seq ?_
   refine T.region ?_
   refine TL.op1 (OpR.pure rfl) rfl ?_
   refine TL.op0 (OpR.store 0 rfl rfl rfl rfl rfl rfl rfl rfl) ?_
   refine TL.op1 (OpR.pure rfl) rfl ?_
   refine TL.nil ?_
   show T X _ _ _
   refine T.ret ?_
   obtain rfl := Option.some.inj h0
   exact PostG.retP (ks := []) (Gst.only [4, 5] rfl) undef (ResL.cons (ResV.var 0 rfl rfl rfl rfl) (ResL.cons (ResV.tmp rfl) ResL.nil)) rfl rfl rfl rfl
 refine T.condF rfl (not_t (c3)) ?_
 refine T.skip ?_
 show T X _ _ _
 refine T.seq ?_
 refine T.region ?_
 refine TL.op1 (OpR.pure rfl) rfl ?_
 obtain ⟨q4, hq4, h0⟩ := bnd_some h0
 rcases q4 with _ | z5
 · dsimp only at h0
   refine TL.op1 (OpR.cast (OpR.pure rfl) (congrArg eOP (Option.some.inj hq4))) rfl ?_
   refine TL.op1 (OpR.pure rfl) rfl ?_
   exact (by cases h0)
 dsimp only at h0
 obtain ⟨x6, hx6, h0⟩ := bnd_some h0
 rw [o_tree_Node_string_eq hx6] at hq4
 refine TL.op1 (OpR.cast (OpR.pure rfl) (congrArg eOP (Option.some.inj hq4))) rfl ?_
 refine TL.op1 (OpR.pure rfl) rfl ?_
 obtain ⟨x7, hx7, h0⟩ := bnd_some h0
 refine TL.op1 (OpR.call0 fn62 (tree_Node_string_take_c hx7) rfl) rfl ?_
 refine TL.op1 (OpR.lit rfl rfl rfl rfl rfl rfl rfl) rfl ?_
 obtain ⟨x8, hx8, h0⟩ := bnd_some h0
 refine TL.op1 (OpR.call0 fn56 (tree_above_string_c hx8) rfl) rfl ?_
 refine TL.op0 (OpR.store 0 rfl rfl rfl rfl rfl rfl rfl rfl) ?_
 refine TL.op1 (OpR.pure rfl) rfl ?_
 refine TL.nil ?_
 show T X _ _ _
 refine T.ret ?_
 obtain rfl := Option.some.inj h0
 exact PostG.retP (ks := []) (Gst.only [4, 5] rfl) undef (ResL.cons (ResV.var 0 rfl rfl rfl rfl) (ResL.cons (ResV.tmp rfl) ResL.nil)) rfl rfl rfl rfl
noncomputable def law09_TreeAt (a0 : List (List UInt8)) (a1 : Int) : Option Bool :=
  bnd (if (a0.length : Int) > 200 then
    bnd (cut a0 0 200) fun x3 =>
    some x3
  else
    some a0 : Option (List (List UInt8))) fun t1 =>
  bnd (tree_Of_string t1) fun x4 =>
  bnd (tree_Tree_string_At x4 a1) fun x6 =>
  bnd (if a1 ≥ 0 then
    some (decide (a1 < (t1.length : Int)))
  else
    some false : Option Bool) fun t7 =>
  bnd (if (x6.2 == t7) = true then
    if t7 = true then
      bnd (idx t1 a1) fun x12 =>
      if x6.1 = x12 then
        some false
      else
        some true
    else
      some (!(x6.1 == []))
  else
    some true : Option Bool) fun t9 =>
  if t9 = true then
    some false
  else
    bnd (tree_Tree_string_Set x4 a1 [110, 101, 119]) fun x15 =>
    bnd (tree_Tree_string_At x15.1 a1) fun x17 =>
    bnd (tree_Tree_string_Delete x4 a1) fun x18 =>
    bnd (if t7 = true then
      some (w64 ((t1.length : Int) - 1))
    else
      some (t1.length : Int) : Option Int) fun t20 =>
    bnd (if (x15.2 == t7) = true then
      if t7 = true then
        if x17.1 = [110, 101, 119] then
          if (x18.2 == t7) = true then
            bnd (tree_Tree_string_Len x18.1) fun x27 =>
            if x27 = t20 then
              bnd (law09_awake) fun x29 =>
              some x29
            else
              some false
          else
            some false
        else
          some false
      else
        if (x18.2 == t7) = true then
          bnd (tree_Tree_string_Len x18.1) fun x31 =>
          if x31 = t20 then
            bnd (law09_awake) fun x33 =>
            some x33
          else
            some false
        else
          some false
    else
      some false : Option Bool) fun t22 =>
    some t22
set_option maxHeartbeats 4000000 in
theorem law09_TreeAt_c {a0 : List (List UInt8)} {a1 : Int} {res : Bool} (h0 : law09_TreeAt a0 a1 = some res) : CallF X 5 [.sl 1 (List.map eS a0), .val (.int .i64 a1)] [] (fun x => .val (.bool res)) (fun x => []) := by
 unfold law09_TreeAt at h0
 refine CallF.mkG (X := X) rfl Try.func5 rfl rfl Try.ntmps5 rfl rfl ?_
 refine T.seq ?_
 refine T.region ?_
 refine TL.op1 (OpR.pure rfl) rfl ?_
 refine TL.nil ?_
 show T X _ _ _
 refine T.seq ?_
 refine T.seq ?_
 refine T.region ?_
 refine TL.op1 (OpR.pure rfl) rfl ?_
 refine TL.op1 (OpR.cast (OpR.pure rfl) (intE (lenM _ _))) rfl ?_
 refine TL.op1 (OpR.pure rfl) rfl ?_
 refine TL.nil ?_
 show T X _ _ _
 obtain ⟨t1, ht1, h0⟩ := bnd_some h0
 refine T.cutC (fun S' => S' = ⟨[(4, .val (.bool false)), (1, .val (.int .i64 a1)), (0, .sl 1 (List.map eS t1))], [], 107⟩) (fun _ h => h) ?_ ?_
 · rcases ite_some ht1 with ⟨c2, ht1⟩ | ⟨c2, ht1⟩
   rotate_left
   · refine T.condF rfl (decide_eq_false c2) ?_
     refine T.skip ?_
     obtain rfl := Option.some.inj ht1
     exact ⟨_, Gst.only [0, 1, 4] rfl, rfl⟩
   refine T.condT rfl (decide_eq_true c2) ?_
   refine T.region ?_
   refine TL.op1 (OpR.pure rfl) rfl ?_
   obtain ⟨x3, hx3, ht1⟩ := bnd_some ht1
   refine TL.op1 (OpR.sliceM (sz := 1) eS hx3 rfl rfl rfl rfl BdM.none (BdM.some rfl) rfl) rfl ?_
   refine TL.op1 (OpR.pure rfl) rfl ?_
   refine TL.nil ?_
   obtain rfl := Option.some.inj ht1
   exact ⟨_, Gst.only [0, 1, 4] rfl, rfl⟩
 rintro _ rfl
 show T X _ _ _
 refine T.seq ?_
 refine T.region ?_
 refine TL.op1 (OpR.pure rfl) rfl ?_
 obtain ⟨x4, hx4, h0⟩ := bnd_some h0
 refine TL.op1 (OpR.call0 fn18 (tree_Of_string_c hx4) rfl) rfl ?_
 refine TL.op (OpR.alloc rfl rfl (fun _ => rfl)) rfl (fun p5 => ?_)
 refine TL.op0 (OpR.store 0 rfl rfl rfl rfl rfl rfl rfl rfl) ?_
 refine TL.nil ?_
 show T X _ _ _
 refine T.seq ?_
 refine T.region ?_
 refine TL.op1 (OpR.loadPtr 0 rfl rfl rfl rfl) rfl ?_
 refine TL.op1 (OpR.pure rfl) rfl ?_
 obtain ⟨x6, hx6, h0⟩ := bnd_some h0
 refine TL.op1 (OpR.call0 fn19 (tree_Tree_string_At_c hx6) rfl) rfl ?_
 refine TL.op1 (OpR.pure rfl) rfl ?_
 refine TL.op1 (OpR.pure rfl) rfl ?_
 refine TL.op1 (OpR.pure rfl) rfl ?_
 refine TL.op1 (OpR.pure rfl) rfl ?_
 refine TL.op1 (OpR.pure rfl) rfl ?_
 refine TL.nil ?_
 show T X _ _ _
 refine T.seq ?_
 obtain ⟨t7, ht7, h0⟩ := bnd_some h0
 refine T.cutC (fun S' => S' = ⟨[(8, .val (.bool t7)), (7, .val (.bool x6.2)), (6, .val (.string (bs x6.1))), (5, .val (.pointer (some ⟨(blk p5), 0, none⟩))), (4, .val (.bool false)), (1, .val (.int .i64 a1)), (0, .sl 1 (List.map eS t1))], [.var (blk p5) [(eOP x4.fRoot)] 43], 107⟩) (fun _ h => h) ?_ ?_
 · refine T.region ?_
   refine TL.op1 (OpR.pure rfl) rfl ?_
   refine TL.op1 (OpR.pure rfl) rfl ?_
   refine TL.op1 (OpR.pure rfl) rfl ?_
   rcases ite_some ht7 with ⟨c8, ht7⟩ | ⟨c8, ht7⟩
   rotate_left
   · refine TL.off rfl rfl rfl rfl (decide_eq_false c8) rfl rfl ?_
     refine TL.off rfl rfl rfl rfl (decide_eq_false c8) rfl rfl ?_
     refine TL.off rfl rfl rfl rfl (decide_eq_false c8) rfl rfl ?_
     refine TL.off rfl rfl rfl rfl (decide_eq_false c8) rfl rfl ?_
     refine TL.op1 (OpR.pickF rfl (decide_eq_false c8) rfl) rfl ?_
     refine TL.op1 (OpR.pure rfl) rfl ?_
     refine TL.nil ?_
     obtain rfl := Option.some.inj ht7
     exact ⟨_, Gst.only [0, 1, 4, 5, 6, 7, 8] rfl, rfl⟩
   refine TL.on rfl rfl rfl rfl (decide_eq_true c8) ?_
   refine TL.op1 (OpR.pure rfl) rfl ?_
   refine TL.on rfl rfl rfl rfl (decide_eq_true c8) ?_
   refine TL.op1 (OpR.pure rfl) rfl ?_
   refine TL.on rfl rfl rfl rfl (decide_eq_true c8) ?_
   refine TL.op1 (OpR.cast (OpR.pure rfl) (intE (lenM _ _))) rfl ?_
   refine TL.on rfl rfl rfl rfl (decide_eq_true c8) ?_
   refine TL.op1 (OpR.pure rfl) rfl ?_
   refine TL.op1 (OpR.pickT rfl (decide_eq_true c8) rfl) rfl ?_
   refine TL.op1 (OpR.pure rfl) rfl ?_
   refine TL.nil ?_
   obtain rfl := Option.some.inj ht7
   exact ⟨_, Gst.only [0, 1, 4, 5, 6, 7, 8] rfl, rfl⟩
 rintro _ rfl
 show T X _ _ _
 refine T.seq ?_
 refine T.seq ?_
 obtain ⟨t9, ht9, h0⟩ := bnd_some h0
 refine T.cutC (fun S' => S' = ⟨[(58, .val (.bool t9)), (8, .val (.bool t7)), (5, .val (.pointer (some ⟨(blk p5), 0, none⟩))), (4, .val (.bool false)), (1, .val (.int .i64 a1)), (0, .sl 1 (List.map eS t1))], [.var (blk p5) [(eOP x4.fRoot)] 43], 107⟩) (fun _ h => h) ?_ ?_
 · refine T.region ?_
   refine TL.op1 (OpR.pure rfl) rfl ?_
   refine TL.op1 (OpR.pure rfl) rfl ?_
   refine TL.op1 (OpR.neBool rfl rfl rfl rfl) rfl ?_
   refine TL.op1 (OpR.pure rfl) rfl ?_
   rcases ite_some ht9 with ⟨c10, ht9⟩ | ⟨c10, ht9⟩
   rotate_left
   · refine TL.off rfl rfl rfl rfl (not_f (eq_false_of_ne_true c10)) rfl rfl ?_
     refine TL.off rfl rfl rfl rfl (not_f (eq_false_of_ne_true c10)) rfl rfl ?_
     refine TL.offU rfl rfl rfl rfl rfl rfl ?_
     refine TL.offU rfl rfl rfl rfl rfl rfl ?_
     refine TL.offU rfl rfl rfl rfl rfl rfl ?_
     refine TL.offU rfl rfl rfl rfl rfl rfl ?_
     refine TL.offU rfl rfl rfl rfl rfl rfl ?_
     refine TL.offU rfl rfl rfl rfl rfl rfl ?_
     refine TL.off rfl rfl rfl rfl (not_f (eq_false_of_ne_true c10)) rfl rfl ?_
     refine TL.op1 (OpR.pickT rfl (not_f (eq_false_of_ne_true c10)) rfl) rfl ?_
     refine TL.op1 (OpR.pure rfl) rfl ?_
     refine TL.off rfl rfl rfl rfl rfl rfl rfl ?_
     refine TL.off rfl rfl rfl rfl rfl rfl rfl ?_
     refine TL.off rfl rfl rfl rfl rfl rfl rfl ?_
     refine TL.offU rfl rfl rfl rfl rfl rfl ?_
     refine TL.offU rfl rfl rfl rfl rfl rfl ?_
     refine TL.off rfl rfl rfl rfl rfl rfl rfl ?_
     refine TL.op1 (OpR.pickT rfl rfl rfl) rfl ?_
     refine TL.nil ?_
     obtain rfl := Option.some.inj ht9
     exact ⟨_, Gst.only [0, 1, 4, 5, 8, 58] rfl, rfl⟩
   refine TL.on rfl rfl rfl rfl (not_t (c10)) ?_
   refine TL.op1 (OpR.pure rfl) rfl ?_
   refine TL.on rfl rfl rfl rfl (not_t (c10)) ?_
   refine TL.op1 (OpR.pure rfl) rfl ?_
   rcases ite_some ht9 with ⟨c11, ht9⟩ | ⟨c11, ht9⟩
   rotate_left
   · refine TL.off rfl rfl rfl rfl (eq_false_of_ne_true c11) rfl rfl ?_
     refine TL.off rfl rfl rfl rfl (eq_false_of_ne_true c11) rfl rfl ?_
     refine TL.off rfl rfl rfl rfl (eq_false_of_ne_true c11) rfl rfl ?_
     refine TL.off rfl rfl rfl rfl (eq_false_of_ne_true c11) rfl rfl ?_
     refine TL.off rfl rfl rfl rfl (eq_false_of_ne_true c11) rfl rfl ?_
     refine TL.off rfl rfl rfl rfl (eq_false_of_ne_true c11) rfl rfl ?_
     refine TL.on rfl rfl rfl rfl (not_t (c10)) ?_
     refine TL.op1 (OpR.pickF rfl (eq_false_of_ne_true c11) rfl) rfl ?_
     refine TL.op1 (OpR.pickF rfl (not_t (c10)) rfl) rfl ?_
     refine TL.op1 (OpR.pure rfl) rfl ?_
     refine TL.on rfl rfl rfl rfl rfl ?_
     refine TL.op1 (OpR.pure rfl) rfl ?_
     refine TL.on rfl rfl rfl rfl rfl ?_
     refine TL.op1 (OpR.pure rfl) rfl ?_
     refine TL.on rfl rfl rfl rfl rfl ?_
     refine TL.op1 (OpR.pure rfl) rfl ?_
     refine TL.on rfl rfl rfl rfl (not_f (eq_false_of_ne_true c11)) ?_
     refine TL.op1 (OpR.pure rfl) rfl ?_
     refine TL.on rfl rfl rfl rfl (not_f (eq_false_of_ne_true c11)) ?_
     refine TL.op1 (OpR.cast (OpR.pure rfl) (boolE (strNe _ _))) rfl ?_
     refine TL.on rfl rfl rfl rfl rfl ?_
     refine TL.op1 (OpR.pickT rfl (not_f (eq_false_of_ne_true c11)) rfl) rfl ?_
     refine TL.op1 (OpR.pickF rfl rfl rfl) rfl ?_
     refine TL.nil ?_
     obtain rfl := Option.some.inj ht9
     exact ⟨_, Gst.only [0, 1, 4, 5, 8, 58] rfl, rfl⟩
   refine TL.on rfl rfl rfl rfl (c11) ?_
   refine TL.op1 (OpR.pure rfl) rfl ?_
   refine TL.on rfl rfl rfl rfl (c11) ?_
   refine TL.op1 (OpR.pure rfl) rfl ?_
   refine TL.on rfl rfl rfl rfl (c11) ?_
   refine TL.op1 (OpR.pure rfl) rfl ?_
   refine TL.on rfl rfl rfl rfl (c11) ?_
   obtain ⟨x12, hx12, ht9⟩ := bnd_some ht9
   refine TL.op1 (OpR.indexM eS hx12 rfl rfl rfl rfl rfl) rfl ?_
   refine TL.on rfl rfl rfl rfl (c11) ?_
   refine TL.op1 (OpR.pure rfl) rfl ?_
   refine TL.on rfl rfl rfl rfl (c11) ?_
   refine TL.op1 (OpR.cast (OpR.pure rfl) (boolE (strNe _ _))) rfl ?_
   refine TL.on rfl rfl rfl rfl (not_t (c10)) ?_
   refine TL.op1 (OpR.pickT rfl (c11) rfl) rfl ?_
   refine TL.op1 (OpR.pickF rfl (not_t (c10)) rfl) rfl ?_
   refine TL.op1 (OpR.pure rfl) rfl ?_
   rcases ite_some ht9 with ⟨c13, ht9⟩ | ⟨c13, ht9⟩
   rotate_left
   · refine TL.off rfl rfl rfl rfl (not_f (beq_eq_false_iff_ne.2 c13)) rfl rfl ?_
     refine TL.off rfl rfl rfl rfl (not_f (beq_eq_false_iff_ne.2 c13)) rfl rfl ?_
     refine TL.off rfl rfl rfl rfl (not_f (beq_eq_false_iff_ne.2 c13)) rfl rfl ?_
     refine TL.offU rfl rfl rfl rfl rfl rfl ?_
     refine TL.offU rfl rfl rfl rfl rfl rfl ?_
     refine TL.off rfl rfl rfl rfl (not_f (beq_eq_false_iff_ne.2 c13)) rfl rfl ?_
     refine TL.op1 (OpR.pickT rfl (not_f (beq_eq_false_iff_ne.2 c13)) rfl) rfl ?_
     refine TL.nil ?_
     obtain rfl := Option.some.inj ht9
     exact ⟨_, Gst.only [0, 1, 4, 5, 8, 58] rfl, rfl⟩
   refine TL.on rfl rfl rfl rfl (not_t (beq_iff_eq.2 c13)) ?_
   refine TL.op1 (OpR.pure rfl) rfl ?_
   refine TL.on rfl rfl rfl rfl (not_t (beq_iff_eq.2 c13)) ?_
   refine TL.op1 (OpR.pure rfl) rfl ?_
   refine TL.on rfl rfl rfl rfl (not_t (beq_iff_eq.2 c13)) ?_
   refine TL.op1 (OpR.pure rfl) rfl ?_
   refine TL.off rfl rfl rfl rfl (not_t (c11)) rfl rfl ?_
   refine TL.off rfl rfl rfl rfl (not_t (c11)) rfl rfl ?_
   refine TL.on rfl rfl rfl rfl (not_t (beq_iff_eq.2 c13)) ?_
   refine TL.op1 (OpR.pickF rfl (not_t (c11)) rfl) rfl ?_
   refine TL.op1 (OpR.pickF rfl (not_t (beq_iff_eq.2 c13)) rfl) rfl ?_
   refine TL.nil ?_
   obtain rfl := Option.some.inj ht9
   exact ⟨_, Gst.only [0, 1, 4, 5, 8, 58] rfl, rfl⟩
 rintro _ rfl
 show T X _ _ _
 rcases ite_some h0 with ⟨c14, h0⟩ | ⟨c14, h0⟩
 · refine T.condT rfl (c14) ?_
   refine T.seq ?_
   refine T.region ?_
   refine TL.op1 (OpR.pure rfl) rfl ?_
   refine TL.nil ?_
   show T X _ _ _
   refine T.ret ?_
   obtain rfl := Option.some.inj h0
   exact PostG.retP (ks := []) (Gst.trans (Gst.only [4] rfl) (Gst.pick [] rfl rfl)) undef (ResL.cons (ResV.tmp rfl) ResL.nil) rfl rfl rfl rfl
 refine T.condF rfl (eq_false_of_ne_true c14) ?_
 refine T.skip ?_
 show T X _ _ _
 refine T.seq ?_
 refine T.region ?_
 refine TL.op1 (OpR.loadPtr 0 rfl rfl rfl rfl) rfl ?_
 refine TL.op1 (OpR.pure rfl) rfl ?_
 obtain ⟨x15, hx15, h0⟩ := bnd_some h0
 refine TL.op1 (OpR.call0 fn20 (tree_Tree_string_Set_c hx15) rfl) rfl ?_
 refine TL.op1 (OpR.pure rfl) rfl ?_
 refine TL.op1 (OpR.pure rfl) rfl ?_
 refine TL.op1 (OpR.pure rfl) rfl ?_
 refine TL.op (OpR.alloc rfl rfl (fun _ => rfl)) rfl (fun p16 => ?_)
 refine TL.op0 (OpR.store 1 rfl rfl rfl rfl rfl rfl rfl rfl) ?_
 refine TL.op1 (OpR.pure rfl) rfl ?_
 refine TL.nil ?_
 show T X _ _ _
 refine T.seq ?_
 refine T.region ?_
 refine TL.op1 (OpR.loadPtr 1 rfl rfl rfl rfl) rfl ?_
 refine TL.op1 (OpR.pure rfl) rfl ?_
 obtain ⟨x17, hx17, h0⟩ := bnd_some h0
 refine TL.op1 (OpR.call0 fn19 (tree_Tree_string_At_c hx17) rfl) rfl ?_
 refine TL.op1 (OpR.pure rfl) rfl ?_
 refine TL.op1 (OpR.pure rfl) rfl ?_
 refine TL.op1 (OpR.pure rfl) rfl ?_
 refine TL.op1 (OpR.pure rfl) rfl ?_
 refine TL.op1 (OpR.pure rfl) rfl ?_
 refine TL.nil ?_
 show T X _ _ _
 refine T.seq ?_
 refine T.region ?_
 refine TL.op1 (OpR.loadPtr 0 rfl rfl rfl rfl) rfl ?_
 refine TL.op1 (OpR.pure rfl) rfl ?_
 obtain ⟨x18, hx18, h0⟩ := bnd_some h0
 refine TL.op1 (OpR.call0 fn21 (tree_Tree_string_Delete_c hx18) rfl) rfl ?_
 refine TL.op1 (OpR.pure rfl) rfl ?_
 refine TL.op1 (OpR.pure rfl) rfl ?_
 refine TL.op1 (OpR.pure rfl) rfl ?_
 refine TL.op (OpR.alloc rfl rfl (fun _ => rfl)) rfl (fun p19 => ?_)
 refine TL.op0 (OpR.store 2 rfl rfl rfl rfl rfl rfl rfl rfl) ?_
 refine TL.op1 (OpR.pure rfl) rfl ?_
 refine TL.nil ?_
 show T X _ _ _
 refine T.seq ?_
 refine T.region ?_
 refine TL.op1 (OpR.pure rfl) rfl ?_
 refine TL.op1 (OpR.cast (OpR.pure rfl) (intE (lenM _ _))) rfl ?_
 refine TL.op1 (OpR.pure rfl) rfl ?_
 refine TL.nil ?_
 show T X _ _ _
 refine T.seq ?_
 refine T.seq ?_
 refine T.region ?_
 refine TL.op1 (OpR.pure rfl) rfl ?_
 refine TL.nil ?_
 show T X _ _ _
 obtain ⟨t20, ht20, h0⟩ := bnd_some h0
 refine T.cutC (fun S' => S' = ⟨[(15, .val (.int .i64 t20)), (14, .val (.bool x18.2)), (13, .val (.pointer (some ⟨(blk p19), 0, none⟩))), (11, .val (.string (bs x17.1))), (10, .val (.bool x15.2)), (8, .val (.bool t7)), (4, .val (.bool false))], [.var (blk p19) [(eOP x18.1.fRoot)] 43], 107⟩) (fun _ h => h) ?_ ?_
 · rcases ite_some ht20 with ⟨c21, ht20⟩ | ⟨c21, ht20⟩
   rotate_left
   · refine T.condF rfl (eq_false_of_ne_true c21) ?_
     refine T.skip ?_
     obtain rfl := Option.some.inj ht20
     exact ⟨_, Gst.trans (Gst.only [4, 8, 10, 11, 13, 14, 15] rfl) (Gst.pick [2] rfl rfl), rfl⟩
   refine T.condT rfl (c21) ?_
   refine T.region ?_
   refine TL.op1 (OpR.pure rfl) rfl ?_
   refine TL.op1 (OpR.pure rfl) rfl ?_
   refine TL.op1 (OpR.pure rfl) rfl ?_
   refine TL.nil ?_
   obtain rfl := Option.some.inj ht20
   exact ⟨_, Gst.trans (Gst.only [4, 8, 10, 11, 13, 14, 15] rfl) (Gst.pick [2] rfl rfl), rfl⟩
 rintro _ rfl
 show T X _ _ _
 refine T.seq ?_
 obtain ⟨t22, ht22, h0⟩ := bnd_some h0
 refine T.cutC (fun S' => S' = ⟨[(4, .val (.bool t22))], [], 107⟩) (fun _ h => h) ?_ ?_
 rotate_left
 · rintro _ rfl
   show T X _ _ _
   refine T.ret ?_
   obtain rfl := Option.some.inj h0
   exact PostG.retP (ks := []) (Gst.only [4] rfl) undef (ResL.cons (ResV.tmp rfl) ResL.nil) rfl rfl rfl rfl
 refine T.region ?_
 refine TL.op1 (OpR.pure rfl) rfl ?_
 refine TL.op1 (OpR.pure rfl) rfl ?_
 refine TL.op1 (OpR.eqBool rfl rfl rfl rfl) rfl ?_
 refine TL.op1 (OpR.pure rfl) rfl ?_
 rcases ite_some ht22 with ⟨c23, ht22⟩ | ⟨c23, ht22⟩
 rotate_left
 · refine TL.off rfl rfl rfl rfl (eq_false_of_ne_true c23) rfl rfl ?_
   refine TL.off rfl rfl rfl rfl (eq_false_of_ne_true c23) rfl rfl ?_
   refine TL.off rfl rfl rfl rfl (eq_false_of_ne_true c23) rfl rfl ?_
   refine TL.offU rfl rfl rfl rfl rfl rfl ?_
   refine TL.offU rfl rfl rfl rfl rfl rfl ?_
   refine TL.off rfl rfl rfl rfl (eq_false_of_ne_true c23) rfl rfl ?_
   refine TL.op1 (OpR.pickF rfl (eq_false_of_ne_true c23) rfl) rfl ?_
   refine TL.op1 (OpR.pure rfl) rfl ?_
   refine TL.off rfl rfl rfl rfl rfl rfl rfl ?_
   refine TL.off rfl rfl rfl rfl rfl rfl rfl ?_
   refine TL.off rfl rfl rfl rfl rfl rfl rfl ?_
   refine TL.op1 (OpR.pickF rfl rfl rfl) rfl ?_
   refine TL.op1 (OpR.pure rfl) rfl ?_
   refine TL.off rfl rfl rfl rfl rfl rfl rfl ?_
   refine TL.off rfl rfl rfl rfl rfl rfl rfl ?_
   refine TL.off rfl rfl rfl rfl rfl rfl rfl ?_
   refine TL.off rfl rfl rfl rfl rfl rfl rfl ?_
   refine TL.op1 (OpR.pickF rfl rfl rfl) rfl ?_
   refine TL.op1 (OpR.pure rfl) rfl ?_
   refine TL.off rfl rfl rfl rfl rfl rfl rfl ?_
   refine TL.op1 (OpR.pickF rfl rfl rfl) rfl ?_
   refine TL.op1 (OpR.pure rfl) rfl ?_
   refine TL.nil ?_
   obtain rfl := Option.some.inj ht22
   exact ⟨_, Gst.trans (Gst.only [4] rfl) (Gst.pick [] rfl rfl), rfl⟩
 refine TL.on rfl rfl rfl rfl (c23) ?_
 refine TL.op1 (OpR.pure rfl) rfl ?_
 refine TL.on rfl rfl rfl rfl (c23) ?_
 refine TL.op1 (OpR.pure rfl) rfl ?_
 refine TL.on rfl rfl rfl rfl (c23) ?_
 refine TL.op1 (OpR.pure rfl) rfl ?_
 rcases ite_some ht22 with ⟨c24, ht22⟩ | ⟨c24, ht22⟩
 rotate_left
 · refine TL.off rfl rfl rfl rfl (not_f (eq_false_of_ne_true c24)) rfl rfl ?_
   refine TL.off rfl rfl rfl rfl (not_f (eq_false_of_ne_true c24)) rfl rfl ?_
   refine TL.on rfl rfl rfl rfl (c23) ?_
   refine TL.op1 (OpR.pickT rfl (not_f (eq_false_of_ne_true c24)) rfl) rfl ?_
   refine TL.op1 (OpR.pickT rfl (c23) rfl) rfl ?_
   refine TL.op1 (OpR.pure rfl) rfl ?_
   refine TL.on rfl rfl rfl rfl rfl ?_
   refine TL.op1 (OpR.pure rfl) rfl ?_
   refine TL.on rfl rfl rfl rfl rfl ?_
   refine TL.op1 (OpR.pure rfl) rfl ?_
   refine TL.on rfl rfl rfl rfl rfl ?_
   refine TL.op1 (OpR.eqBool rfl rfl rfl rfl) rfl ?_
   refine TL.op1 (OpR.pickT rfl rfl rfl) rfl ?_
   refine TL.op1 (OpR.pure rfl) rfl ?_
   rcases ite_some ht22 with ⟨c30, ht22⟩ | ⟨c30, ht22⟩
   rotate_left
   · refine TL.off rfl rfl rfl rfl (eq_false_of_ne_true c30) rfl rfl ?_
     refine TL.off rfl rfl rfl rfl (eq_false_of_ne_true c30) rfl rfl ?_
     refine TL.off rfl rfl rfl rfl (eq_false_of_ne_true c30) rfl rfl ?_
     refine TL.off rfl rfl rfl rfl (eq_false_of_ne_true c30) rfl rfl ?_
     refine TL.op1 (OpR.pickF rfl (eq_false_of_ne_true c30) rfl) rfl ?_
     refine TL.op1 (OpR.pure rfl) rfl ?_
     refine TL.off rfl rfl rfl rfl rfl rfl rfl ?_
     refine TL.op1 (OpR.pickF rfl rfl rfl) rfl ?_
     refine TL.op1 (OpR.pure rfl) rfl ?_
     refine TL.nil ?_
     obtain rfl := Option.some.inj ht22
     exact ⟨_, Gst.trans (Gst.only [4] rfl) (Gst.pick [] rfl rfl), rfl⟩
   refine TL.on rfl rfl rfl rfl (c30) ?_
   refine TL.op1 (OpR.loadPtr 0 rfl rfl rfl rfl) rfl ?_
   refine TL.on rfl rfl rfl rfl (c30) ?_
   obtain ⟨x31, hx31, ht22⟩ := bnd_some ht22
   refine TL.op1 (OpR.call0 fn22 (tree_Tree_string_Len_c hx31) rfl) rfl ?_
   refine TL.on rfl rfl rfl rfl (c30) ?_
   refine TL.op1 (OpR.pure rfl) rfl ?_
   refine TL.on rfl rfl rfl rfl (c30) ?_
   refine TL.op1 (OpR.pure rfl) rfl ?_
   refine TL.op1 (OpR.pickT rfl (c30) rfl) rfl ?_
   refine TL.op1 (OpR.pure rfl) rfl ?_
   rcases ite_some ht22 with ⟨c32, ht22⟩ | ⟨c32, ht22⟩
   rotate_left
   · refine TL.off rfl rfl rfl rfl (beq_eq_false_iff_ne.2 c32) rfl rfl ?_
     refine TL.op1 (OpR.pickF rfl (beq_eq_false_iff_ne.2 c32) rfl) rfl ?_
     refine TL.op1 (OpR.pure rfl) rfl ?_
     refine TL.nil ?_
     obtain rfl := Option.some.inj ht22
     exact ⟨_, Gst.trans (Gst.only [4] rfl) (Gst.pick [] rfl rfl), rfl⟩
   refine TL.on rfl rfl rfl rfl (beq_iff_eq.2 c32) ?_
   obtain ⟨x33, hx33, ht22⟩ := bnd_some ht22
   refine TL.op1 (OpR.call0 fn17 (law09_awake_c hx33) rfl) rfl ?_
   refine TL.op1 (OpR.pickT rfl (beq_iff_eq.2 c32) rfl) rfl ?_
   refine TL.op1 (OpR.pure rfl) rfl ?_
   refine TL.nil ?_
   obtain rfl := Option.some.inj ht22
   exact ⟨_, Gst.trans (Gst.only [4] rfl) (Gst.pick [] rfl rfl), rfl⟩
 refine TL.on rfl rfl rfl rfl (not_t (c24)) ?_
 refine TL.op1 (OpR.pure rfl) rfl ?_
 refine TL.on rfl rfl rfl rfl (not_t (c24)) ?_
 refine TL.op1 (OpR.cast (OpR.pure rfl) (boolE (strEq _ _))) rfl ?_
 refine TL.on rfl rfl rfl rfl (c23) ?_
 refine TL.op1 (OpR.pickF rfl (not_t (c24)) rfl) rfl ?_
 refine TL.op1 (OpR.pickT rfl (c23) rfl) rfl ?_
 refine TL.op1 (OpR.pure rfl) rfl ?_
 rcases ite_some ht22 with ⟨c25, ht22⟩ | ⟨c25, ht22⟩
 rotate_left
 · refine TL.off rfl rfl rfl rfl (beq_eq_false_iff_ne.2 c25) rfl rfl ?_
   refine TL.off rfl rfl rfl rfl (beq_eq_false_iff_ne.2 c25) rfl rfl ?_
   refine TL.off rfl rfl rfl rfl (beq_eq_false_iff_ne.2 c25) rfl rfl ?_
   refine TL.op1 (OpR.pickF rfl (beq_eq_false_iff_ne.2 c25) rfl) rfl ?_
   refine TL.op1 (OpR.pure rfl) rfl ?_
   refine TL.off rfl rfl rfl rfl rfl rfl rfl ?_
   refine TL.off rfl rfl rfl rfl rfl rfl rfl ?_
   refine TL.off rfl rfl rfl rfl rfl rfl rfl ?_
   refine TL.off rfl rfl rfl rfl rfl rfl rfl ?_
   refine TL.op1 (OpR.pickF rfl rfl rfl) rfl ?_
   refine TL.op1 (OpR.pure rfl) rfl ?_
   refine TL.off rfl rfl rfl rfl rfl rfl rfl ?_
   refine TL.op1 (OpR.pickF rfl rfl rfl) rfl ?_
   refine TL.op1 (OpR.pure rfl) rfl ?_
   refine TL.nil ?_
   obtain rfl := Option.some.inj ht22
   exact ⟨_, Gst.trans (Gst.only [4] rfl) (Gst.pick [] rfl rfl), rfl⟩
 refine TL.on rfl rfl rfl rfl (beq_iff_eq.2 c25) ?_
 refine TL.op1 (OpR.pure rfl) rfl ?_
 refine TL.on rfl rfl rfl rfl (beq_iff_eq.2 c25) ?_
 refine TL.op1 (OpR.pure rfl) rfl ?_
 refine TL.on rfl rfl rfl rfl (beq_iff_eq.2 c25) ?_
 refine TL.op1 (OpR.eqBool rfl rfl rfl rfl) rfl ?_
 refine TL.op1 (OpR.pickT rfl (beq_iff_eq.2 c25) rfl) rfl ?_
 refine TL.op1 (OpR.pure rfl) rfl ?_
 rcases ite_some ht22 with ⟨c26, ht22⟩ | ⟨c26, ht22⟩
 rotate_left
 · refine TL.off rfl rfl rfl rfl (eq_false_of_ne_true c26) rfl rfl ?_
   refine TL.off rfl rfl rfl rfl (eq_false_of_ne_true c26) rfl rfl ?_
   refine TL.off rfl rfl rfl rfl (eq_false_of_ne_true c26) rfl rfl ?_
   refine TL.off rfl rfl rfl rfl (eq_false_of_ne_true c26) rfl rfl ?_
   refine TL.op1 (OpR.pickF rfl (eq_false_of_ne_true c26) rfl) rfl ?_
   refine TL.op1 (OpR.pure rfl) rfl ?_
   refine TL.off rfl rfl rfl rfl rfl rfl rfl ?_
   refine TL.op1 (OpR.pickF rfl rfl rfl) rfl ?_
   refine TL.op1 (OpR.pure rfl) rfl ?_
   refine TL.nil ?_
   obtain rfl := Option.some.inj ht22
   exact ⟨_, Gst.trans (Gst.only [4] rfl) (Gst.pick [] rfl rfl), rfl⟩
 refine TL.on rfl rfl rfl rfl (c26) ?_
 refine TL.op1 (OpR.loadPtr 0 rfl rfl rfl rfl) rfl ?_
 refine TL.on rfl rfl rfl rfl (c26) ?_
 obtain ⟨x27, hx27, ht22⟩ := bnd_some ht22
 refine TL.op1 (OpR.call0 fn22 (tree_Tree_string_Len_c hx27) rfl) rfl ?_
 refine TL.on rfl rfl rfl rfl (c26) ?_
 refine TL.op1 (OpR.pure rfl) rfl ?_
 refine TL.on rfl rfl rfl rfl (c26) ?_
 refine TL.op1 (OpR.pure rfl) rfl ?_
 refine TL.op1 (OpR.pickT rfl (c26) rfl) rfl ?_
 refine TL.op1 (OpR.pure rfl) rfl ?_
 rcases ite_some ht22 with ⟨c28, ht22⟩ | ⟨c28, ht22⟩
 rotate_left
 · refine TL.off rfl rfl rfl rfl (beq_eq_false_iff_ne.2 c28) rfl rfl ?_
   refine TL.op1 (OpR.pickF rfl (beq_eq_false_iff_ne.2 c28) rfl) rfl ?_
   refine TL.op1 (OpR.pure rfl) rfl ?_
   refine TL.nil ?_
   obtain rfl := Option.some.inj ht22
   exact ⟨_, Gst.trans (Gst.only [4] rfl) (Gst.pick [] rfl rfl), rfl⟩
 refine TL.on rfl rfl rfl rfl (beq_iff_eq.2 c28) ?_
 obtain ⟨x29, hx29, ht22⟩ := bnd_some ht22
 refine TL.op1 (OpR.call0 fn17 (law09_awake_c hx29) rfl) rfl ?_
 refine TL.op1 (OpR.pickT rfl (beq_iff_eq.2 c28) rfl) rfl ?_
 refine TL.op1 (OpR.pure rfl) rfl ?_
 refine TL.nil ?_
 obtain rfl := Option.some.inj ht22
 exact ⟨_, Gst.trans (Gst.only [4] rfl) (Gst.pick [] rfl rfl), rfl⟩
end Go.Proofs.Ytkmdfaodbiknlaa.S
