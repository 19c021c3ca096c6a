/- Printed by a program of this session's own (gen.py): Lean functions for Go functions, and the proofs that the Go code comes to their answers. -/
import Derived.Test.YtkmdfaodbiknlaaG15xa
import Derived.Test.YtkmdfaodbiknlaaG16xa
import Derived.Test.YtkmdfaodbiknlaaG14xa
import Derived.Test.YtkmdfaodbiknlaaG2xa
import Derived.Test.YtkmdfaodbiknlaaG12xa
import Derived.Test.YtkmdfaodbiknlaaG3xa
set_option linter.unusedVariables false
set_option linter.unusedSimpArgs false
set_option maxRecDepth 20000
namespace Go.Proofs.Ytkmdfaodbiknlaa.S
open Go Go.Sm
attribute [local irreducible] T TL OpR CallT iter loop
noncomputable def ref10_Splice.l1 (a3 : List Int) (s7 : Int × (List Int)) : Option (Lp (Int × (List Int)) (List Int)) :=
  if s7.1 < (a3.length : Int) then
    bnd (idx a3 s7.1) fun x16 =>
    bnd (app 8 s7.2 [x16]) fun x17 =>
    some (Lp.next (w64 (s7.1 + 1), x17))
  else
    some (Lp.done s7.2)
noncomputable def ref10_Splice.l2 (a0 : List Int) (s22 : Int × (List Int)) : Option (Lp (Int × (List Int)) (List Int)) :=
  if s22.1 < (a0.length : Int) then
    bnd (idx a0 s22.1) fun x31 =>
    bnd (app 8 s22.2 [x31]) fun x32 =>
    some (Lp.next (w64 (s22.1 + 1), x32))
  else
    some (Lp.done s22.2)
noncomputable def ref10_Splice (a0 : List Int) (a1 : Int) (a2 : Int) (a3 : List Int) : Option (List Int) :=
  bnd (ref10_Stretch a0 a1 a2) fun x1 =>
  bnd (ref10_Slice a0 0 x1.1) fun x2 =>
  bnd (loop (ref10_Splice.l1 a3) (0, x2) : Option (List Int)) fun t4 =>
  bnd (loop (ref10_Splice.l2 a0) (x1.2, t4) : Option (List Int)) fun t19 =>
  some t19
set_option maxHeartbeats 4000000 in
theorem ref10_Splice_c {a0 : List Int} {a1 : Int} {a2 : Int} {a3 : List Int} {res : (List Int)} (h0 : ref10_Splice a0 a1 a2 a3 = some res) : CallF X 30 [.sl 1 (List.map (eI .i64) a0), .val (.int .i64 a1), .val (.int .i64 a2), .sl 1 (List.map (eI .i64) a3)] [] (fun x => .sl 1 (List.map (eI .i64) res)) (fun x => []) := by
 unfold ref10_Splice at h0
 refine CallF.mkG (X := X) rfl Try.func30 rfl rfl Try.ntmps30 rfl rfl ?_
 refine T.seq ?_
 refine T.region ?_
 refine TL.op1 (OpR.pure rfl) rfl ?_
 refine TL.nil ?_
 show T X _ _ _
 refine T.seq ?_
 refine T.region ?_
 refine TL.op1 (OpR.pure rfl) rfl ?_
 refine TL.op1 (OpR.pure rfl) rfl ?_
 refine TL.op1 (OpR.pure rfl) rfl ?_
 obtain ⟨x1, hx1, h0⟩ := bnd_some h0
 refine TL.op1 (OpR.call0 fn34 (ref10_Stretch_c hx1) rfl) rfl ?_
 refine TL.op1 (OpR.pure rfl) rfl ?_
 refine TL.op1 (OpR.pure rfl) rfl ?_
 refine TL.op1 (OpR.pure rfl) rfl ?_
 refine TL.op1 (OpR.pure rfl) rfl ?_
 refine TL.op1 (OpR.pure rfl) rfl ?_
 refine TL.nil ?_
 show T X _ _ _
 refine T.seq ?_
 refine T.region ?_
 refine TL.op1 (OpR.pure rfl) rfl ?_
 refine TL.op1 (OpR.pure rfl) rfl ?_
 obtain ⟨x2, hx2, h0⟩ := bnd_some h0
 refine TL.op (OpR.call [] fn28 (ref10_Slice_c hx2) rfl rfl rfl (fun _ => rfl)) rfl (fun w3 => ?_)
 refine TL.op1 (OpR.pure rfl) rfl ?_
 refine TL.nil ?_
 show T X _ _ _
 refine T.seq ?_
 refine T.seq ?_
 refine T.region ?_
 refine TL.op1 (OpR.pure rfl) rfl ?_
 refine TL.op1 (OpR.cast (OpR.pure rfl) (intE (lenM _ _))) rfl ?_
 refine TL.op1 (OpR.pure rfl) rfl ?_
 refine TL.nil ?_
 show T X _ _ _
 obtain ⟨t4, ht4, h0⟩ := bnd_some h0
 refine T.cutC (fun S' => ∃ y5 : Value, S' = ⟨[(9, .val y5), (8, .val (.slice none 0 0)), (2, .val (.int .i64 x1.2)), (0, .sl 1 (List.map (eI .i64) a0))], [.row y5 (List.map (eI .i64) t4) 1 3], 49⟩) (fun _ h => h) ?_ ?_
 · refine T.block ?_
   obtain ⟨n8, n13⟩ := loop_some ht4
   refine T.loop (fun n S' => ∃ S'', Gst S' S'' ∧ ∃ y6 : Value, ∃ s7 : Int × (List Int), S'' = ⟨[(25, .val (.int .i64 s7.1)), (24, .val (.int .i64 (a3.length : Int))), (23, .sl 1 (List.map (eI .i64) a3)), (9, .val y6), (8, .val (.slice none 0 0)), (2, .val (.int .i64 x1.2)), (0, .sl 1 (List.map (eI .i64) a0))], [.row y6 (List.map (eI .i64) s7.2) 1 3], 49⟩ ∧ iter (ref10_Splice.l1 a3) n s7 = some t4) n8 ?_ ?_
   · exact ⟨_, Gst.only [0, 2, 8, 9, 23, 24, 25] rfl, (vn w3 0), (0, x2), rfl, n13⟩
   rintro n8 _ ⟨_, g, y6, s7, rfl, i12⟩
   refine T.ghost g ?_
   obtain ⟨m9, q10, rfl, q11, i12⟩ := iter_succ i12
   unfold ref10_Splice.l1 at q11
   refine T.seq ?_
   refine T.region ?_
   refine TL.op1 (OpR.pure rfl) rfl ?_
   refine TL.nil ?_
   show T X _ _ _
   refine T.seq ?_
   rcases ite_some q11 with ⟨c15, q11⟩ | ⟨c15, q11⟩
   rotate_left
   · refine T.condF rfl (decide_eq_false c15) ?_
     refine T.exit ?_
     obtain rfl := Option.some.inj q11
     obtain rfl : _ = _ := i12
     exact ⟨_, Gst.only [0, 2, 8, 9] rfl, y6, rfl⟩
   refine T.condT rfl (decide_eq_true c15) ?_
   refine T.skip ?_
   show T X _ _ _
   refine T.seq ?_
   refine T.block ?_
   refine T.seq ?_
   refine T.region ?_
   obtain ⟨x16, hx16, q11⟩ := bnd_some q11
   refine TL.op1 (OpR.indexM (eI .i64) hx16 rfl rfl rfl rfl rfl) rfl ?_
   refine TL.op1 (OpR.pure rfl) rfl ?_
   refine TL.op1 (OpR.pure rfl) rfl ?_
   refine TL.nil ?_
   show T X _ _ _
   refine T.region ?_
   refine TL.op1 (OpR.pure rfl) rfl ?_
   refine TL.op1 (OpR.pure rfl) rfl ?_
   refine TL.op1 (OpR.lit rfl rfl rfl rfl rfl rfl rfl) rfl ?_
   obtain ⟨x17, hx17, q11⟩ := bnd_some q11
   refine TL.op (OpR.appendM (m := [x16]) (eI .i64) 0 hx17 rfl rfl rfl rfl rfl rfl rfl rfl rfl (fun _ => rfl)) rfl (fun v18 => ?_)
   refine TL.op1 (OpR.pure rfl) rfl ?_
   refine TL.nil ?_
   show T X _ _ _
   refine T.region ?_
   refine TL.op1 (OpR.pure rfl) rfl ?_
   refine TL.op1 (OpR.pure rfl) rfl ?_
   refine TL.nil ?_
   obtain rfl := Option.some.inj q11
   exact ⟨m9, Nat.lt_succ_self _, _, Gst.only [0, 2, 8, 9, 23, 24, 25] rfl, v18, (w64 (s7.1 + 1), x17), rfl, i12⟩
 rintro _ ⟨y5, rfl⟩
 show T X _ _ _
 refine T.seq ?_
 refine T.seq ?_
 refine T.region ?_
 refine TL.op1 (OpR.pure rfl) rfl ?_
 refine TL.op1 (OpR.pure rfl) rfl ?_
 refine TL.nil ?_
 show T X _ _ _
 obtain ⟨t19, ht19, h0⟩ := bnd_some h0
 refine T.cutC (fun S' => ∃ y20 : Value, S' = ⟨[(9, .val y20), (8, .val (.slice none 0 0))], [.row y20 (List.map (eI .i64) t19) 1 3], 49⟩) (fun _ h => h) ?_ ?_
 rotate_left
 · rintro _ ⟨y20, rfl⟩
   show T X _ _ _
   refine T.seq ?_
   refine T.region ?_
   refine TL.op1 (OpR.pure rfl) rfl ?_
   refine TL.op1 (OpR.pure rfl) rfl ?_
   refine TL.nil ?_
   show T X _ _ _
   refine T.ret ?_
   obtain rfl := Option.some.inj h0
   exact PostG.retP (ks := []) (Gst.trans (Gst.only [8] rfl) (Gst.trans (Gst.freezeRow 0 rfl rfl (ReS.cons (Re.base .all) ReS.nil) (ReO.same ReO.nil)) (Gst.pick [] rfl rfl))) undef (ResL.cons (ResV.tmp rfl) ResL.nil) rfl rfl rfl rfl
 refine T.block ?_
 obtain ⟨n23, n28⟩ := loop_some ht19
 refine T.loop (fun n S' => ∃ S'', Gst S' S'' ∧ ∃ y21 : Value, ∃ s22 : Int × (List Int), S'' = ⟨[(12, .val (.int .i64 s22.1)), (9, .val y21), (8, .val (.slice none 0 0)), (0, .sl 1 (List.map (eI .i64) a0))], [.row y21 (List.map (eI .i64) s22.2) 1 3], 49⟩ ∧ iter (ref10_Splice.l2 a0) n s22 = some t19) n23 ?_ ?_
 · exact ⟨_, Gst.only [0, 8, 9, 12] rfl, y5, (x1.2, t4), rfl, n28⟩
 rintro n23 _ ⟨_, g, y21, s22, rfl, i27⟩
 refine T.ghost g ?_
 obtain ⟨m24, q25, rfl, q26, i27⟩ := iter_succ i27
 unfold ref10_Splice.l2 at q26
 refine T.seq ?_
 refine T.seq ?_
 refine T.region ?_
 refine TL.op1 (OpR.pure rfl) rfl ?_
 refine TL.op1 (OpR.pure rfl) rfl ?_
 refine TL.op1 (OpR.cast (OpR.pure rfl) (intE (lenM _ _))) rfl ?_
 refine TL.op1 (OpR.pure rfl) rfl ?_
 refine TL.nil ?_
 show T X _ _ _
 rcases ite_some q26 with ⟨c30, q26⟩ | ⟨c30, q26⟩
 rotate_left
 · refine T.condF rfl (decide_eq_false c30) ?_
   refine T.exit ?_
   obtain rfl := Option.some.inj q26
   obtain rfl : _ = _ := i27
   exact ⟨_, Gst.only [8, 9] rfl, y21, rfl⟩
 refine T.condT rfl (decide_eq_true c30) ?_
 refine T.skip ?_
 show T X _ _ _
 refine T.seq ?_
 refine T.block ?_
 refine T.region ?_
 refine TL.op1 (OpR.pure rfl) rfl ?_
 refine TL.op1 (OpR.pure rfl) rfl ?_
 refine TL.op1 (OpR.pure rfl) rfl ?_
 obtain ⟨x31, hx31, q26⟩ := bnd_some q26
 refine TL.op1 (OpR.indexM (eI .i64) hx31 rfl rfl rfl rfl rfl) rfl ?_
 refine TL.op1 (OpR.pure rfl) rfl ?_
 refine TL.op1 (OpR.lit rfl rfl rfl rfl rfl rfl rfl) rfl ?_
 obtain ⟨x32, hx32, q26⟩ := bnd_some q26
 refine TL.op (OpR.appendM (m := [x31]) (eI .i64) 0 hx32 rfl rfl rfl rfl rfl rfl rfl rfl rfl (fun _ => rfl)) rfl (fun v33 => ?_)
 refine TL.op1 (OpR.pure rfl) rfl ?_
 refine TL.nil ?_
 show T X _ _ _
 refine T.region ?_
 refine TL.op1 (OpR.pure rfl) rfl ?_
 refine TL.op1 (OpR.pure rfl) rfl ?_
 refine TL.op1 (OpR.pure rfl) rfl ?_
 refine TL.nil ?_
 obtain rfl := Option.some.inj q26
 exact ⟨m24, Nat.lt_succ_self _, _, Gst.only [0, 8, 9, 12] rfl, v33, (w64 (s22.1 + 1), x32), rfl, i27⟩
noncomputable def ref10_Splice_2.l1 (s5 : Unit) : Option (Lp Unit Unit) :=
  some (Lp.done ())
noncomputable def ref10_Splice_2.l2 (a0 : List Int) (s16 : Int × (List Int)) : Option (Lp (Int × (List Int)) (List Int)) :=
  if s16.1 < (a0.length : Int) then
    bnd (idx a0 s16.1) fun x25 =>
    bnd (app 8 s16.2 [x25]) fun x26 =>
    some (Lp.next (w64 (s16.1 + 1), x26))
  else
    some (Lp.done s16.2)
noncomputable def ref10_Splice_2 (a0 : List Int) (a1 : Int) (a2 : Int) : Option (List Int) :=
  bnd (ref10_Stretch a0 a1 a2) fun x1 =>
  bnd (ref10_Slice a0 0 x1.1) fun x2 =>
  bnd (loop ref10_Splice_2.l1 () : Option Unit) fun t4 =>
  bnd (loop (ref10_Splice_2.l2 a0) (x1.2, x2) : Option (List Int)) fun t13 =>
  some t13
set_option maxHeartbeats 4000000 in
theorem ref10_Splice_2_c {a0 : List Int} {a1 : Int} {a2 : Int} {res : (List Int)} (h0 : ref10_Splice_2 a0 a1 a2 = some res) : CallF X 30 [.sl 1 (List.map (eI .i64) a0), .val (.int .i64 a1), .val (.int .i64 a2), .val (.slice none 0 0)] [] (fun x => .sl 1 (List.map (eI .i64) res)) (fun x => []) := by
 unfold ref10_Splice_2 at h0
 refine CallF.mkG (X := X) rfl Try.func30 rfl rfl Try.ntmps30 rfl rfl ?_
 refine T.seq ?_
 refine T.region ?_
 refine TL.op1 (OpR.pure rfl) rfl ?_
 refine TL.nil ?_
 show T X _ _ _
 refine T.seq ?_
 refine T.region ?_
 refine TL.op1 (OpR.pure rfl) rfl ?_
 refine TL.op1 (OpR.pure rfl) rfl ?_
 refine TL.op1 (OpR.pure rfl) rfl ?_
 obtain ⟨x1, hx1, h0⟩ := bnd_some h0
 refine TL.op1 (OpR.call0 fn34 (ref10_Stretch_c hx1) rfl) rfl ?_
 refine TL.op1 (OpR.pure rfl) rfl ?_
 refine TL.op1 (OpR.pure rfl) rfl ?_
 refine TL.op1 (OpR.pure rfl) rfl ?_
 refine TL.op1 (OpR.pure rfl) rfl ?_
 refine TL.op1 (OpR.pure rfl) rfl ?_
 refine TL.nil ?_
 show T X _ _ _
 refine T.seq ?_
 refine T.region ?_
 refine TL.op1 (OpR.pure rfl) rfl ?_
 refine TL.op1 (OpR.pure rfl) rfl ?_
 obtain ⟨x2, hx2, h0⟩ := bnd_some h0
 refine TL.op (OpR.call [] fn28 (ref10_Slice_c hx2) rfl rfl rfl (fun _ => rfl)) rfl (fun w3 => ?_)
 refine TL.op1 (OpR.pure rfl) rfl ?_
 refine TL.nil ?_
 show T X _ _ _
 refine T.seq ?_
 refine T.seq ?_
 refine T.region ?_
 refine TL.op1 (OpR.pure rfl) rfl ?_
 refine TL.op1 (OpR.pure rfl) rfl ?_
 refine TL.op1 (OpR.pure rfl) rfl ?_
 refine TL.nil ?_
 show T X _ _ _
 obtain ⟨t4, ht4, h0⟩ := bnd_some h0
 refine T.cutC (fun S' => S' = ⟨[(9, .val (vn w3 0)), (8, .val (.slice none 0 0)), (2, .val (.int .i64 x1.2)), (0, .sl 1 (List.map (eI .i64) a0))], [.row (vn w3 0) (List.map (eI .i64) x2) 1 3], 49⟩) (fun _ h => h) ?_ ?_
 · refine T.block ?_
   obtain ⟨n6, n11⟩ := loop_some ht4
   refine T.loop (fun n S' => ∃ S'', Gst S' S'' ∧ ∃ s5 : Unit, S'' = ⟨[(25, .val (.int .i64 0)), (24, .val (.int .i64 0)), (23, .val (.slice none 0 0)), (9, .val (vn w3 0)), (8, .val (.slice none 0 0)), (2, .val (.int .i64 x1.2)), (0, .sl 1 (List.map (eI .i64) a0))], [.row (vn w3 0) (List.map (eI .i64) x2) 1 3], 49⟩ ∧ iter ref10_Splice_2.l1 n s5 = some t4) n6 ?_ ?_
   · exact ⟨_, Gst.only [0, 2, 8, 9, 23, 24, 25] rfl, (), rfl, n11⟩
   rintro n6 _ ⟨_, g, s5, rfl, i10⟩
   refine T.ghost g ?_
   obtain ⟨m7, q8, rfl, q9, i10⟩ := iter_succ i10
   unfold ref10_Splice_2.l1 at q9
   refine T.seq ?_
   refine T.region ?_
   refine TL.op1 (OpR.cast (OpR.pure rfl) (boolE (show (decide ((0 : Int) < 0)) = false by decide))) rfl ?_
   refine TL.nil ?_
   show T X _ _ _
   refine T.seq ?_
   refine T.condF rfl rfl ?_
   refine T.exit ?_
   obtain rfl := Option.some.inj q9
   obtain rfl : _ = _ := i10
   exact ⟨_, Gst.only [0, 2, 8, 9] rfl, rfl⟩
 rintro _ rfl
 show T X _ _ _
 refine T.seq ?_
 refine T.seq ?_
 refine T.region ?_
 refine TL.op1 (OpR.pure rfl) rfl ?_
 refine TL.op1 (OpR.pure rfl) rfl ?_
 refine TL.nil ?_
 show T X _ _ _
 obtain ⟨t13, ht13, h0⟩ := bnd_some h0
 refine T.cutC (fun S' => ∃ y14 : Value, S' = ⟨[(9, .val y14), (8, .val (.slice none 0 0))], [.row y14 (List.map (eI .i64) t13) 1 3], 49⟩) (fun _ h => h) ?_ ?_
 rotate_left
 · rintro _ ⟨y14, rfl⟩
   show T X _ _ _
   refine T.seq ?_
   refine T.region ?_
   refine TL.op1 (OpR.pure rfl) rfl ?_
   refine TL.op1 (OpR.pure rfl) rfl ?_
   refine TL.nil ?_
   show T X _ _ _
   refine T.ret ?_
   obtain rfl := Option.some.inj h0
   exact PostG.retP (ks := []) (Gst.trans (Gst.only [8] rfl) (Gst.trans (Gst.freezeRow 0 rfl rfl (ReS.cons (Re.base .all) ReS.nil) (ReO.same ReO.nil)) (Gst.pick [] rfl rfl))) undef (ResL.cons (ResV.tmp rfl) ResL.nil) rfl rfl rfl rfl
 refine T.block ?_
 obtain ⟨n17, n22⟩ := loop_some ht13
 refine T.loop (fun n S' => ∃ S'', Gst S' S'' ∧ ∃ y15 : Value, ∃ s16 : Int × (List Int), S'' = ⟨[(12, .val (.int .i64 s16.1)), (9, .val y15), (8, .val (.slice none 0 0)), (0, .sl 1 (List.map (eI .i64) a0))], [.row y15 (List.map (eI .i64) s16.2) 1 3], 49⟩ ∧ iter (ref10_Splice_2.l2 a0) n s16 = some t13) n17 ?_ ?_
 · exact ⟨_, Gst.only [0, 8, 9, 12] rfl, (vn w3 0), (x1.2, x2), rfl, n22⟩
 rintro n17 _ ⟨_, g, y15, s16, rfl, i21⟩
 refine T.ghost g ?_
 obtain ⟨m18, q19, rfl, q20, i21⟩ := iter_succ i21
 unfold ref10_Splice_2.l2 at q20
 refine T.seq ?_
 refine T.seq ?_
 refine T.region ?_
 refine TL.op1 (OpR.pure rfl) rfl ?_
 refine TL.op1 (OpR.pure rfl) rfl ?_
 refine TL.op1 (OpR.cast (OpR.pure rfl) (intE (lenM _ _))) rfl ?_
 refine TL.op1 (OpR.pure rfl) rfl ?_
 refine TL.nil ?_
 show T X _ _ _
 rcases ite_some q20 with ⟨c24, q20⟩ | ⟨c24, q20⟩
 rotate_left
 · refine T.condF rfl (decide_eq_false c24) ?_
   refine T.exit ?_
   obtain rfl := Option.some.inj q20
   obtain rfl : _ = _ := i21
   exact ⟨_, Gst.only [8, 9] rfl, y15, rfl⟩
 refine T.condT rfl (decide_eq_true c24) ?_
 refine T.skip ?_
 show T X _ _ _
 refine T.seq ?_
 refine T.block ?_
 refine T.region ?_
 refine TL.op1 (OpR.pure rfl) rfl ?_
 refine TL.op1 (OpR.pure rfl) rfl ?_
 refine TL.op1 (OpR.pure rfl) rfl ?_
 obtain ⟨x25, hx25, q20⟩ := bnd_some q20
 refine TL.op1 (OpR.indexM (eI .i64) hx25 rfl rfl rfl rfl rfl) rfl ?_
 refine TL.op1 (OpR.pure rfl) rfl ?_
 refine TL.op1 (OpR.lit rfl rfl rfl rfl rfl rfl rfl) rfl ?_
 obtain ⟨x26, hx26, q20⟩ := bnd_some q20
 refine TL.op (OpR.appendM (m := [x25]) (eI .i64) 0 hx26 rfl rfl rfl rfl rfl rfl rfl rfl rfl (fun _ => rfl)) rfl (fun v27 => ?_)
 refine TL.op1 (OpR.pure rfl) rfl ?_
 refine TL.nil ?_
 show T X _ _ _
 refine T.region ?_
 refine TL.op1 (OpR.pure rfl) rfl ?_
 refine TL.op1 (OpR.pure rfl) rfl ?_
 refine TL.op1 (OpR.pure rfl) rfl ?_
 refine TL.nil ?_
 obtain rfl := Option.some.inj q20
 exact ⟨m18, Nat.lt_succ_self _, _, Gst.only [0, 8, 9, 12] rfl, v27, (w64 (s16.1 + 1), x26), rfl, i21⟩
set_option maxHeartbeats 4000000 in
theorem ref10_Splice_c_2 {a0 : List Int} {a1 : Int} {a2 : Int} {a3 : List Int} {v0 : Value} {res : (List Int)} (h0 : ref10_Splice a0 a1 a2 a3 = some res) : CallF X 30 [.sl 1 (List.map (eI .i64) a0), .val (.int .i64 a1), .val (.int .i64 a2), .val v0] [.row v0 (List.map (eI .i64) a3) 1 3] (fun x => .sl 1 (List.map (eI .i64) res)) (fun x => [.row v0 (List.map (eI .i64) a3) 1 3]) := by
 unfold ref10_Splice at h0
 refine CallF.mkG (X := X) rfl Try.func30 rfl rfl Try.ntmps30 rfl rfl ?_
 refine T.seq ?_
 refine T.region ?_
 refine TL.op1 (OpR.pure rfl) rfl ?_
 refine TL.nil ?_
 show T X _ _ _
 refine T.seq ?_
 refine T.region ?_
 refine TL.op1 (OpR.pure rfl) rfl ?_
 refine TL.op1 (OpR.pure rfl) rfl ?_
 refine TL.op1 (OpR.pure rfl) rfl ?_
 obtain ⟨x1, hx1, h0⟩ := bnd_some h0
 refine TL.op1 (OpR.call0 fn34 (ref10_Stretch_c hx1) rfl) rfl ?_
 refine TL.op1 (OpR.pure rfl) rfl ?_
 refine TL.op1 (OpR.pure rfl) rfl ?_
 refine TL.op1 (OpR.pure rfl) rfl ?_
 refine TL.op1 (OpR.pure rfl) rfl ?_
 refine TL.op1 (OpR.pure rfl) rfl ?_
 refine TL.nil ?_
 show T X _ _ _
 refine T.seq ?_
 refine T.region ?_
 refine TL.op1 (OpR.pure rfl) rfl ?_
 refine TL.op1 (OpR.pure rfl) rfl ?_
 obtain ⟨x2, hx2, h0⟩ := bnd_some h0
 refine TL.op (OpR.call [] fn28 (ref10_Slice_c hx2) rfl rfl rfl (fun _ => rfl)) rfl (fun w3 => ?_)
 refine TL.op1 (OpR.pure rfl) rfl ?_
 refine TL.nil ?_
 show T X _ _ _
 refine T.seq ?_
 refine T.seq ?_
 refine T.region ?_
 refine TL.op1 (OpR.pure rfl) rfl ?_
 refine TL.op1 (OpR.rowLenM (eI .i64) 0 rfl rfl rfl rfl) rfl ?_
 refine TL.op1 (OpR.pure rfl) rfl ?_
 refine TL.nil ?_
 show T X _ _ _
 obtain ⟨t4, ht4, h0⟩ := bnd_some h0
 refine T.cutC (fun S' => ∃ y5 : Value, S' = ⟨[(9, .val y5), (8, .val (.slice none 0 0)), (2, .val (.int .i64 x1.2)), (0, .sl 1 (List.map (eI .i64) a0))], [.row v0 (List.map (eI .i64) a3) 1 3, .row y5 (List.map (eI .i64) t4) 1 3], 49⟩) (fun _ h => h) ?_ ?_
 · refine T.block ?_
   obtain ⟨n8, n13⟩ := loop_some ht4
   refine T.loop (fun n S' => ∃ S'', Gst S' S'' ∧ ∃ y6 : Value, ∃ s7 : Int × (List Int), S'' = ⟨[(25, .val (.int .i64 s7.1)), (24, .val (.int .i64 (a3.length : Int))), (23, .val v0), (9, .val y6), (8, .val (.slice none 0 0)), (2, .val (.int .i64 x1.2)), (0, .sl 1 (List.map (eI .i64) a0))], [.row v0 (List.map (eI .i64) a3) 1 3, .row y6 (List.map (eI .i64) s7.2) 1 3], 49⟩ ∧ iter (ref10_Splice.l1 a3) n s7 = some t4) n8 ?_ ?_
   · exact ⟨_, Gst.only [0, 2, 8, 9, 23, 24, 25] rfl, (vn w3 0), (0, x2), rfl, n13⟩
   rintro n8 _ ⟨_, g, y6, s7, rfl, i12⟩
   refine T.ghost g ?_
   obtain ⟨m9, q10, rfl, q11, i12⟩ := iter_succ i12
   unfold ref10_Splice.l1 at q11
   refine T.seq ?_
   refine T.region ?_
   refine TL.op1 (OpR.pure rfl) rfl ?_
   refine TL.nil ?_
   show T X _ _ _
   refine T.seq ?_
   rcases ite_some q11 with ⟨c15, q11⟩ | ⟨c15, q11⟩
   rotate_left
   · refine T.condF rfl (decide_eq_false c15) ?_
     refine T.exit ?_
     obtain rfl := Option.some.inj q11
     obtain rfl : _ = _ := i12
     exact ⟨_, Gst.only [0, 2, 8, 9] rfl, y6, rfl⟩
   refine T.condT rfl (decide_eq_true c15) ?_
   refine T.skip ?_
   show T X _ _ _
   refine T.seq ?_
   refine T.block ?_
   refine T.seq ?_
   refine T.region ?_
   obtain ⟨x16, hx16, q11⟩ := bnd_some q11
   refine TL.op1 (OpR.rowIndexM (eI .i64) 0 hx16 rfl rfl rfl rfl rfl rfl rfl) rfl ?_
   refine TL.op1 (OpR.rowLoad0M (j := s7.1) (eI .i64) 0 hx16 rfl rfl rfl rfl) rfl ?_
   refine TL.op1 (OpR.pure rfl) rfl ?_
   refine TL.nil ?_
   show T X _ _ _
   refine T.region ?_
   refine TL.op1 (OpR.pure rfl) rfl ?_
   refine TL.op1 (OpR.pure rfl) rfl ?_
   refine TL.op1 (OpR.lit rfl rfl rfl rfl rfl rfl rfl) rfl ?_
   obtain ⟨x17, hx17, q11⟩ := bnd_some q11
   refine TL.op (OpR.appendM (m := [x16]) (eI .i64) 1 hx17 rfl rfl rfl rfl rfl rfl rfl rfl rfl (fun _ => rfl)) rfl (fun v18 => ?_)
   refine TL.op1 (OpR.pure rfl) rfl ?_
   refine TL.nil ?_
   show T X _ _ _
   refine T.region ?_
   refine TL.op1 (OpR.pure rfl) rfl ?_
   refine TL.op1 (OpR.pure rfl) rfl ?_
   refine TL.nil ?_
   obtain rfl := Option.some.inj q11
   exact ⟨m9, Nat.lt_succ_self _, _, Gst.only [0, 2, 8, 9, 23, 24, 25] rfl, v18, (w64 (s7.1 + 1), x17), rfl, i12⟩
 rintro _ ⟨y5, rfl⟩
 show T X _ _ _
 refine T.seq ?_
 refine T.seq ?_
 refine T.region ?_
 refine TL.op1 (OpR.pure rfl) rfl ?_
 refine TL.op1 (OpR.pure rfl) rfl ?_
 refine TL.nil ?_
 show T X _ _ _
 obtain ⟨t19, ht19, h0⟩ := bnd_some h0
 refine T.cutC (fun S' => ∃ y20 : Value, S' = ⟨[(9, .val y20), (8, .val (.slice none 0 0))], [.row v0 (List.map (eI .i64) a3) 1 3, .row y20 (List.map (eI .i64) t19) 1 3], 49⟩) (fun _ h => h) ?_ ?_
 rotate_left
 · rintro _ ⟨y20, rfl⟩
   show T X _ _ _
   refine T.seq ?_
   refine T.region ?_
   refine TL.op1 (OpR.pure rfl) rfl ?_
   refine TL.op1 (OpR.pure rfl) rfl ?_
   refine TL.nil ?_
   show T X _ _ _
   refine T.ret ?_
   obtain rfl := Option.some.inj h0
   exact PostG.retP (ks := [0]) (Gst.trans (Gst.only [8] rfl) (Gst.trans (Gst.freezeRow 1 rfl rfl (ReS.cons (Re.base .all) ReS.nil) (ReO.same (ReO.same ReO.nil))) (Gst.pick [0] rfl rfl))) undef (ResL.cons (ResV.tmp rfl) ResL.nil) rfl rfl rfl rfl
 refine T.block ?_
 obtain ⟨n23, n28⟩ := loop_some ht19
 refine T.loop (fun n S' => ∃ S'', Gst S' S'' ∧ ∃ y21 : Value, ∃ s22 : Int × (List Int), S'' = ⟨[(12, .val (.int .i64 s22.1)), (9, .val y21), (8, .val (.slice none 0 0)), (0, .sl 1 (List.map (eI .i64) a0))], [.row v0 (List.map (eI .i64) a3) 1 3, .row y21 (List.map (eI .i64) s22.2) 1 3], 49⟩ ∧ iter (ref10_Splice.l2 a0) n s22 = some t19) n23 ?_ ?_
 · exact ⟨_, Gst.only [0, 8, 9, 12] rfl, y5, (x1.2, t4), rfl, n28⟩
 rintro n23 _ ⟨_, g, y21, s22, rfl, i27⟩
 refine T.ghost g ?_
 obtain ⟨m24, q25, rfl, q26, i27⟩ := iter_succ i27
 unfold ref10_Splice.l2 at q26
 refine T.seq ?_
 refine T.seq ?_
 refine T.region ?_
 refine TL.op1 (OpR.pure rfl) rfl ?_
 refine TL.op1 (OpR.pure rfl) rfl ?_
 refine TL.op1 (OpR.cast (OpR.pure rfl) (intE (lenM _ _))) rfl ?_
 refine TL.op1 (OpR.pure rfl) rfl ?_
 refine TL.nil ?_
 show T X _ _ _
 rcases ite_some q26 with ⟨c30, q26⟩ | ⟨c30, q26⟩
 rotate_left
 · refine T.condF rfl (decide_eq_false c30) ?_
   refine T.exit ?_
   obtain rfl := Option.some.inj q26
   obtain rfl : _ = _ := i27
   exact ⟨_, Gst.only [8, 9] rfl, y21, rfl⟩
 refine T.condT rfl (decide_eq_true c30) ?_
 refine T.skip ?_
 show T X _ _ _
 refine T.seq ?_
 refine T.block ?_
 refine T.region ?_
 refine TL.op1 (OpR.pure rfl) rfl ?_
 refine TL.op1 (OpR.pure rfl) rfl ?_
 refine TL.op1 (OpR.pure rfl) rfl ?_
 obtain ⟨x31, hx31, q26⟩ := bnd_some q26
 refine TL.op1 (OpR.indexM (eI .i64) hx31 rfl rfl rfl rfl rfl) rfl ?_
 refine TL.op1 (OpR.pure rfl) rfl ?_
 refine TL.op1 (OpR.lit rfl rfl rfl rfl rfl rfl rfl) rfl ?_
 obtain ⟨x32, hx32, q26⟩ := bnd_some q26
 refine TL.op (OpR.appendM (m := [x31]) (eI .i64) 1 hx32 rfl rfl rfl rfl rfl rfl rfl rfl rfl (fun _ => rfl)) rfl (fun v33 => ?_)
 refine TL.op1 (OpR.pure rfl) rfl ?_
 refine TL.nil ?_
 show T X _ _ _
 refine T.region ?_
 refine TL.op1 (OpR.pure rfl) rfl ?_
 refine TL.op1 (OpR.pure rfl) rfl ?_
 refine TL.op1 (OpR.pure rfl) rfl ?_
 refine TL.nil ?_
 obtain rfl := Option.some.inj q26
 exact ⟨m24, Nat.lt_succ_self _, _, Gst.only [0, 8, 9, 12] rfl, v33, (w64 (s22.1 + 1), x32), rfl, i27⟩
noncomputable def ref10_Move (a0 : List Int) (a1 : Int) (a2 : Int) (a3 : Int) : Option (List Int) :=
  bnd (ref10_Splice_2 a0 a1 a2) fun x1 =>
  bnd (ref10_Slice a0 a1 a2) fun x2 =>
  bnd (ref10_Splice x1 a3 a3 x2) fun x4 =>
  some x4
set_option maxHeartbeats 4000000 in
theorem ref10_Move_c {a0 : List Int} {a1 : Int} {a2 : Int} {a3 : Int} {res : (List Int)} (h0 : ref10_Move a0 a1 a2 a3 = some res) : CallF X 32 [.sl 1 (List.map (eI .i64) a0), .val (.int .i64 a1), .val (.int .i64 a2), .val (.int .i64 a3)] [] (fun x => .sl 1 (List.map (eI .i64) res)) (fun x => []) := by
 unfold ref10_Move at h0
 refine CallF.mkG (X := X) rfl Try.func32 rfl rfl Try.ntmps32 rfl rfl ?_
 refine T.seq ?_
 refine T.region ?_
 refine TL.op1 (OpR.pure rfl) rfl ?_
 refine TL.nil ?_
 show T X _ _ _
 refine T.seq ?_
 refine T.region ?_
 refine TL.op1 (OpR.pure rfl) rfl ?_
 refine TL.op1 (OpR.pure rfl) rfl ?_
 refine TL.op1 (OpR.pure rfl) rfl ?_
 obtain ⟨x1, hx1, h0⟩ := bnd_some h0
 refine TL.op1 (OpR.call0 fn30 (ref10_Splice_2_c hx1) rfl) rfl ?_
 refine TL.op1 (OpR.pure rfl) rfl ?_
 refine TL.op1 (OpR.pure rfl) rfl ?_
 refine TL.op1 (OpR.pure rfl) rfl ?_
 refine TL.op1 (OpR.pure rfl) rfl ?_
 refine TL.op1 (OpR.pure rfl) rfl ?_
 obtain ⟨x2, hx2, h0⟩ := bnd_some h0
 refine TL.op (OpR.call [] fn28 (ref10_Slice_c hx2) rfl rfl rfl (fun _ => rfl)) rfl (fun w3 => ?_)
 obtain ⟨x4, hx4, h0⟩ := bnd_some h0
 refine TL.op1 (OpR.call [0] fn30 (ref10_Splice_c_2 hx4) rfl rfl rfl (fun _ => rfl)) rfl ?_
 refine TL.op1 (OpR.pure rfl) rfl ?_
 refine TL.nil ?_
 show T X _ _ _
 refine T.ret ?_
 obtain rfl := Option.some.inj h0
 exact PostG.retP (ks := []) (Gst.trans (Gst.only [8] rfl) (Gst.pick [] rfl rfl)) undef (ResL.cons (ResV.tmp rfl) ResL.nil) rfl rfl rfl rfl
noncomputable def law10_WalkCuts (a0 : List Int) (a1 : List Int) (a2 : Int × Int × Int) : Option Bool :=
  bnd (law10_few a0) fun x1 =>
  bnd (law10_few a1) fun x2 =>
  bnd (tree_Of_int x1) fun x3 =>
  bnd (tree_Of_int x2) fun x4 =>
  bnd (bnd (walk_Slice_int x3 a2.1 a2.2.1) fun x9 =>
  bnd (ref10_Slice x1 a2.1 a2.2.1) fun x10 =>
  bnd (law09_Fits x9 x10) fun x12 =>
  if x12 = true then
    bnd (walk_Splice_int x3 a2.1 a2.2.1 x4) fun x14 =>
    bnd (ref10_Splice x1 a2.1 a2.2.1 x2) fun x15 =>
    bnd (law09_Fits x14 x15) fun x16 =>
    if x16 = true then
      bnd (walk_Move_int x3 a2.1 a2.2.1 a2.2.2) fun x18 =>
      bnd (ref10_Move x1 a2.1 a2.2.1 a2.2.2) fun x19 =>
      bnd (law09_Fits x18 x19) fun x20 =>
      if x20 = true then
        bnd (law09_Fits x3 x1) fun x22 =>
        if x22 = true then
          bnd (law10_awake) fun x24 =>
          some x24
        else
          some false
      else
        some false
    else
      some false
  else
    some false : Option Bool) fun t8 =>
  some t8
set_option maxHeartbeats 4000000 in
theorem law10_WalkCuts_c {a0 : List Int} {a1 : List Int} {a2 : Int × Int × Int} {res : Bool} (h0 : law10_WalkCuts a0 a1 a2 = some res) : CallF X 7 [.sl 1 (List.map (eI .i64) a0), .sl 1 (List.map (eI .i64) a1), .agg [.val (.int .i64 a2.1), .val (.int .i64 a2.2.1), .val (.int .i64 a2.2.2)]] [] (fun x => .val (.bool res)) (fun x => []) := by
 unfold law10_WalkCuts at h0
 refine CallF.mkG (X := X) rfl Try.func7 rfl rfl Try.ntmps7 rfl rfl ?_
 refine T.seq ?_
 refine T.region ?_
 refine TL.op1 (OpR.boxImm rfl rfl) rfl ?_
 refine TL.op1 (OpR.pure rfl) rfl ?_
 refine TL.nil ?_
 show T X _ _ _
 refine T.seq ?_
 refine T.region ?_
 refine TL.op1 (OpR.pure rfl) rfl ?_
 obtain ⟨x1, hx1, h0⟩ := bnd_some h0
 refine TL.op1 (OpR.call0 fn26 (law10_few_c hx1) rfl) rfl ?_
 refine TL.op1 (OpR.pure rfl) rfl ?_
 obtain ⟨x2, hx2, h0⟩ := bnd_some h0
 refine TL.op1 (OpR.call0 fn26 (law10_few_c hx2) rfl) rfl ?_
 refine TL.op1 (OpR.pure rfl) rfl ?_
 refine TL.op1 (OpR.pure rfl) rfl ?_
 refine TL.nil ?_
 show T X _ _ _
 refine T.seq ?_
 refine T.region ?_
 refine TL.op1 (OpR.pure rfl) rfl ?_
 obtain ⟨x3, hx3, h0⟩ := bnd_some h0
 refine TL.op1 (OpR.call0 fn12 (tree_Of_int_c hx3) rfl) rfl ?_
 refine TL.op1 (OpR.pure rfl) rfl ?_
 obtain ⟨x4, hx4, h0⟩ := bnd_some h0
 refine TL.op1 (OpR.call0 fn12 (tree_Of_int_c hx4) rfl) rfl ?_
 refine TL.op (OpR.alloc rfl rfl (fun _ => rfl)) rfl (fun p5 => ?_)
 refine TL.op (OpR.alloc rfl rfl (fun _ => rfl)) rfl (fun p6 => ?_)
 refine TL.op0 (OpR.store 0 rfl rfl rfl rfl rfl rfl rfl rfl) ?_
 refine TL.op0 (OpR.store 1 rfl rfl rfl rfl rfl rfl rfl rfl) ?_
 refine TL.nil ?_
 show T X _ _ _
 refine T.seq ?_
 refine T.drawQ drawsX [.nod [.val (.int .i64 a2.1), .val (.int .i64 a2.2.1), .val (.int .i64 a2.2.2)], .val (.int .i64 a2.1), .nod [.val (.int .i64 a2.2.1), .val (.int .i64 a2.2.2)], .val (.int .i64 a2.2.1), .nod [.val (.int .i64 a2.2.2)], .val (.int .i64 a2.2.2), .val (.int .i64 a2.1), .val (.int .i64 a2.2.1), .val (.int .i64 a2.2.2)] [0, 1, 2, 5, 6, 7, 8, 9, 10, 11, 12, 13, 14, 15, 16, 17, 18, 19, 20, 21, 22, 23, 24, 25] (by decide +kernel) rfl ?_ rfl ?_
 · refine OpsQ.yes (Want.plain rfl) rfl (OpR.indexNod rfl rfl rfl rfl rfl ⟨by decide, by decide⟩ rfl) ?_
   refine OpsQ.yes (Want.plain rfl) rfl (OpR.pure rfl) ?_
   refine OpsQ.yes (Want.plain rfl) rfl (OpR.indexNod rfl rfl rfl rfl rfl ⟨by decide, by decide⟩ rfl) ?_
   refine OpsQ.yes (Want.plain rfl) rfl (OpR.pure rfl) ?_
   refine OpsQ.yes (Want.plain rfl) rfl (OpR.indexNod rfl rfl rfl rfl rfl ⟨by decide, by decide⟩ rfl) ?_
   refine OpsQ.yes (Want.plain rfl) rfl (OpR.pure rfl) ?_
   refine OpsQ.yes (Want.plain rfl) rfl (OpR.pure rfl) ?_
   refine OpsQ.yes (Want.plain rfl) rfl (OpR.pure rfl) ?_
   refine OpsQ.yes (Want.plain rfl) rfl (OpR.pure rfl) ?_
   exact OpsQ.nil
 show T X _ _ _
 refine T.seq ?_
 obtain ⟨t8, ht8, h0⟩ := bnd_some h0
 refine T.cutC (fun S' => S' = ⟨[(6, .val (.bool t8))], [], 69⟩) (fun _ h => h) ?_ ?_
 rotate_left
 · rintro _ rfl
   show T X _ _ _
   refine T.ret ?_
   obtain rfl := Option.some.inj h0
   exact PostG.retP (ks := []) (Gst.only [6] rfl) undef (ResL.cons (ResV.tmp rfl) ResL.nil) rfl rfl rfl rfl
 refine T.region ?_
 refine TL.op1 (OpR.loadPtr 0 rfl rfl rfl rfl) rfl ?_
 refine TL.op1 (OpR.pure rfl) rfl ?_
 refine TL.op1 (OpR.pure rfl) rfl ?_
 obtain ⟨x9, hx9, ht8⟩ := bnd_some ht8
 refine TL.op1 (OpR.call0 fn27 (walk_Slice_int_c hx9) rfl) rfl ?_
 refine TL.op1 (OpR.pure rfl) rfl ?_
 refine TL.op1 (OpR.pure rfl) rfl ?_
 refine TL.op1 (OpR.pure rfl) rfl ?_
 obtain ⟨x10, hx10, ht8⟩ := bnd_some ht8
 refine TL.op (OpR.call [] fn28 (ref10_Slice_c hx10) rfl rfl rfl (fun _ => rfl)) rfl (fun w11 => ?_)
 obtain ⟨x12, hx12, ht8⟩ := bnd_some ht8
 refine TL.op1 (OpR.call [2] fn13 (law09_Fits_c_2 hx12) rfl rfl rfl (fun _ => rfl)) rfl ?_
 refine TL.op1 (OpR.pure rfl) rfl ?_
 rcases ite_some ht8 with ⟨c13, ht8⟩ | ⟨c13, ht8⟩
 rotate_left
 · refine TL.off rfl rfl rfl rfl (eq_false_of_ne_true c13) rfl rfl ?_
   refine TL.off rfl rfl rfl rfl (eq_false_of_ne_true c13) rfl rfl ?_
   refine TL.off rfl rfl rfl rfl (eq_false_of_ne_true c13) rfl rfl ?_
   refine TL.off rfl rfl rfl rfl (eq_false_of_ne_true c13) rfl rfl ?_
   refine TL.off rfl rfl rfl rfl (eq_false_of_ne_true c13) rfl rfl ?_
   refine TL.off rfl rfl rfl rfl (eq_false_of_ne_true c13) rfl rfl ?_
   refine TL.off rfl rfl rfl rfl (eq_false_of_ne_true c13) rfl rfl ?_
   refine TL.off rfl rfl rfl rfl (eq_false_of_ne_true c13) rfl rfl ?_
   refine TL.off rfl rfl rfl rfl (eq_false_of_ne_true c13) rfl rfl ?_
   refine TL.off rfl rfl rfl rfl (eq_false_of_ne_true c13) rfl rfl ?_
   refine TL.off rfl rfl rfl rfl (eq_false_of_ne_true c13) rfl rfl ?_
   refine TL.op1 (OpR.pickF rfl (eq_false_of_ne_true c13) rfl) rfl ?_
   refine TL.op1 (OpR.pure rfl) rfl ?_
   refine TL.off rfl rfl rfl rfl rfl rfl rfl ?_
   refine TL.off rfl rfl rfl rfl rfl rfl rfl ?_
   refine TL.off rfl rfl rfl rfl rfl rfl rfl ?_
   refine TL.off rfl rfl rfl rfl rfl rfl rfl ?_
   refine TL.off rfl rfl rfl rfl rfl rfl rfl ?_
   refine TL.off rfl rfl rfl rfl rfl rfl rfl ?_
   refine TL.off rfl rfl rfl rfl rfl rfl rfl ?_
   refine TL.off rfl rfl rfl rfl rfl rfl rfl ?_
   refine TL.off rfl rfl rfl rfl rfl rfl rfl ?_
   refine TL.off rfl rfl rfl rfl rfl rfl rfl ?_
   refine TL.off rfl rfl rfl rfl rfl rfl rfl ?_
   refine TL.op1 (OpR.pickF rfl rfl rfl) rfl ?_
   refine TL.op1 (OpR.pure rfl) rfl ?_
   refine TL.off rfl rfl rfl rfl rfl rfl rfl ?_
   refine TL.off rfl rfl rfl rfl rfl rfl rfl ?_
   refine TL.off rfl rfl rfl rfl rfl rfl rfl ?_
   refine TL.op1 (OpR.pickF rfl rfl rfl) rfl ?_
   refine TL.op1 (OpR.pure rfl) rfl ?_
   refine TL.off rfl rfl rfl rfl rfl rfl rfl ?_
   refine TL.op1 (OpR.pickF rfl rfl rfl) rfl ?_
   refine TL.op1 (OpR.pure rfl) rfl ?_
   refine TL.nil ?_
   obtain rfl := Option.some.inj ht8
   exact ⟨_, Gst.trans (Gst.only [6] rfl) (Gst.pick [] rfl rfl), rfl⟩
 refine TL.on rfl rfl rfl rfl (c13) ?_
 refine TL.op1 (OpR.loadPtr 0 rfl rfl rfl rfl) rfl ?_
 refine TL.on rfl rfl rfl rfl (c13) ?_
 refine TL.op1 (OpR.pure rfl) rfl ?_
 refine TL.on rfl rfl rfl rfl (c13) ?_
 refine TL.op1 (OpR.pure rfl) rfl ?_
 refine TL.on rfl rfl rfl rfl (c13) ?_
 refine TL.op1 (OpR.loadPtr 1 rfl rfl rfl rfl) rfl ?_
 refine TL.on rfl rfl rfl rfl (c13) ?_
 obtain ⟨x14, hx14, ht8⟩ := bnd_some ht8
 refine TL.op1 (OpR.call0 fn29 (walk_Splice_int_c hx14) rfl) rfl ?_
 refine TL.on rfl rfl rfl rfl (c13) ?_
 refine TL.op1 (OpR.pure rfl) rfl ?_
 refine TL.on rfl rfl rfl rfl (c13) ?_
 refine TL.op1 (OpR.pure rfl) rfl ?_
 refine TL.on rfl rfl rfl rfl (c13) ?_
 refine TL.op1 (OpR.pure rfl) rfl ?_
 refine TL.on rfl rfl rfl rfl (c13) ?_
 refine TL.op1 (OpR.pure rfl) rfl ?_
 refine TL.on rfl rfl rfl rfl (c13) ?_
 obtain ⟨x15, hx15, ht8⟩ := bnd_some ht8
 refine TL.op1 (OpR.call0 fn30 (ref10_Splice_c hx15) rfl) rfl ?_
 refine TL.on rfl rfl rfl rfl (c13) ?_
 obtain ⟨x16, hx16, ht8⟩ := bnd_some ht8
 refine TL.op1 (OpR.call0 fn13 (law09_Fits_c hx16) rfl) rfl ?_
 refine TL.op1 (OpR.pickT rfl (c13) rfl) rfl ?_
 refine TL.op1 (OpR.pure rfl) rfl ?_
 rcases ite_some ht8 with ⟨c17, ht8⟩ | ⟨c17, ht8⟩
 rotate_left
 · refine TL.off rfl rfl rfl rfl (eq_false_of_ne_true c17) rfl rfl ?_
   refine TL.off rfl rfl rfl rfl (eq_false_of_ne_true c17) rfl rfl ?_
   refine TL.off rfl rfl rfl rfl (eq_false_of_ne_true c17) rfl rfl ?_
   refine TL.off rfl rfl rfl rfl (eq_false_of_ne_true c17) rfl rfl ?_
   refine TL.off rfl rfl rfl rfl (eq_false_of_ne_true c17) rfl rfl ?_
   refine TL.off rfl rfl rfl rfl (eq_false_of_ne_true c17) rfl rfl ?_
   refine TL.off rfl rfl rfl rfl (eq_false_of_ne_true c17) rfl rfl ?_
   refine TL.off rfl rfl rfl rfl (eq_false_of_ne_true c17) rfl rfl ?_
   refine TL.off rfl rfl rfl rfl (eq_false_of_ne_true c17) rfl rfl ?_
   refine TL.off rfl rfl rfl rfl (eq_false_of_ne_true c17) rfl rfl ?_
   refine TL.off rfl rfl rfl rfl (eq_false_of_ne_true c17) rfl rfl ?_
   refine TL.op1 (OpR.pickF rfl (eq_false_of_ne_true c17) rfl) rfl ?_
   refine TL.op1 (OpR.pure rfl) rfl ?_
   refine TL.off rfl rfl rfl rfl rfl rfl rfl ?_
   refine TL.off rfl rfl rfl rfl rfl rfl rfl ?_
   refine TL.off rfl rfl rfl rfl rfl rfl rfl ?_
   refine TL.op1 (OpR.pickF rfl rfl rfl) rfl ?_
   refine TL.op1 (OpR.pure rfl) rfl ?_
   refine TL.off rfl rfl rfl rfl rfl rfl rfl ?_
   refine TL.op1 (OpR.pickF rfl rfl rfl) rfl ?_
   refine TL.op1 (OpR.pure rfl) rfl ?_
   refine TL.nil ?_
   obtain rfl := Option.some.inj ht8
   exact ⟨_, Gst.trans (Gst.only [6] rfl) (Gst.pick [] rfl rfl), rfl⟩
 refine TL.on rfl rfl rfl rfl (c17) ?_
 refine TL.op1 (OpR.loadPtr 0 rfl rfl rfl rfl) rfl ?_
 refine TL.on rfl rfl rfl rfl (c17) ?_
 refine TL.op1 (OpR.pure rfl) rfl ?_
 refine TL.on rfl rfl rfl rfl (c17) ?_
 refine TL.op1 (OpR.pure rfl) rfl ?_
 refine TL.on rfl rfl rfl rfl (c17) ?_
 refine TL.op1 (OpR.pure rfl) rfl ?_
 refine TL.on rfl rfl rfl rfl (c17) ?_
 obtain ⟨x18, hx18, ht8⟩ := bnd_some ht8
 refine TL.op1 (OpR.call0 fn31 (walk_Move_int_c hx18) rfl) rfl ?_
 refine TL.on rfl rfl rfl rfl (c17) ?_
 refine TL.op1 (OpR.pure rfl) rfl ?_
 refine TL.on rfl rfl rfl rfl (c17) ?_
 refine TL.op1 (OpR.pure rfl) rfl ?_
 refine TL.on rfl rfl rfl rfl (c17) ?_
 refine TL.op1 (OpR.pure rfl) rfl ?_
 refine TL.on rfl rfl rfl rfl (c17) ?_
 refine TL.op1 (OpR.pure rfl) rfl ?_
 refine TL.on rfl rfl rfl rfl (c17) ?_
 obtain ⟨x19, hx19, ht8⟩ := bnd_some ht8
 refine TL.op1 (OpR.call0 fn32 (ref10_Move_c hx19) rfl) rfl ?_
 refine TL.on rfl rfl rfl rfl (c17) ?_
 obtain ⟨x20, hx20, ht8⟩ := bnd_some ht8
 refine TL.op1 (OpR.call0 fn13 (law09_Fits_c hx20) rfl) rfl ?_
 refine TL.op1 (OpR.pickT rfl (c17) rfl) rfl ?_
 refine TL.op1 (OpR.pure rfl) rfl ?_
 rcases ite_some ht8 with ⟨c21, ht8⟩ | ⟨c21, ht8⟩
 rotate_left
 · refine TL.off rfl rfl rfl rfl (eq_false_of_ne_true c21) rfl rfl ?_
   refine TL.off rfl rfl rfl rfl (eq_false_of_ne_true c21) rfl rfl ?_
   refine TL.off rfl rfl rfl rfl (eq_false_of_ne_true c21) rfl rfl ?_
   refine TL.op1 (OpR.pickF rfl (eq_false_of_ne_true c21) rfl) rfl ?_
   refine TL.op1 (OpR.pure rfl) rfl ?_
   refine TL.off rfl rfl rfl rfl rfl rfl rfl ?_
   refine TL.op1 (OpR.pickF rfl rfl rfl) rfl ?_
   refine TL.op1 (OpR.pure rfl) rfl ?_
   refine TL.nil ?_
   obtain rfl := Option.some.inj ht8
   exact ⟨_, Gst.trans (Gst.only [6] rfl) (Gst.pick [] rfl rfl), rfl⟩
 refine TL.on rfl rfl rfl rfl (c21) ?_
 refine TL.op1 (OpR.loadPtr 0 rfl rfl rfl rfl) rfl ?_
 refine TL.on rfl rfl rfl rfl (c21) ?_
 refine TL.op1 (OpR.pure rfl) rfl ?_
 refine TL.on rfl rfl rfl rfl (c21) ?_
 obtain ⟨x22, hx22, ht8⟩ := bnd_some ht8
 refine TL.op1 (OpR.call0 fn13 (law09_Fits_c hx22) rfl) rfl ?_
 refine TL.op1 (OpR.pickT rfl (c21) rfl) rfl ?_
 refine TL.op1 (OpR.pure rfl) rfl ?_
 rcases ite_some ht8 with ⟨c23, ht8⟩ | ⟨c23, ht8⟩
 rotate_left
 · refine TL.off rfl rfl rfl rfl (eq_false_of_ne_true c23) rfl rfl ?_
   refine TL.op1 (OpR.pickF rfl (eq_false_of_ne_true c23) rfl) rfl ?_
   refine TL.op1 (OpR.pure rfl) rfl ?_
   refine TL.nil ?_
   obtain rfl := Option.some.inj ht8
   exact ⟨_, Gst.trans (Gst.only [6] rfl) (Gst.pick [] rfl rfl), rfl⟩
 refine TL.on rfl rfl rfl rfl (c23) ?_
 obtain ⟨x24, hx24, ht8⟩ := bnd_some ht8
 refine TL.op1 (OpR.call0 fn33 (law10_awake_c hx24) rfl) rfl ?_
 refine TL.op1 (OpR.pickT rfl (c23) rfl) rfl ?_
 refine TL.op1 (OpR.pure rfl) rfl ?_
 refine TL.nil ?_
 obtain rfl := Option.some.inj ht8
 exact ⟨_, Gst.trans (Gst.only [6] rfl) (Gst.pick [] rfl rfl), rfl⟩
end Go.Proofs.Ytkmdfaodbiknlaa.S
