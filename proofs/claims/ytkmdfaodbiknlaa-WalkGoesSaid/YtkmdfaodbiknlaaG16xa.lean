/- Printed by a program of this session's own (gen.py): Lean functions for Go functions, and the proofs that the Go code comes to their answers. -/
import Derived.Test.YtkmdfaodbiknlaaG15xa
set_option linter.unusedVariables false
set_option linter.unusedSimpArgs false
set_option maxRecDepth 20000
namespace Go.Proofs.Ytkmdfaodbiknlaa.S
open Go Go.Sm
attribute [local irreducible] T TL OpR CallT iter loop
noncomputable def ref10_Slice.l1 (a0 : List Int) (x1 : Int × Int) (s5 : Int × (List Int)) : Option (Lp (Int × (List Int)) (List Int)) :=
  if s5.1 < x1.2 then
    bnd (idx a0 s5.1) fun x14 =>
    bnd (app 8 s5.2 [x14]) fun x15 =>
    some (Lp.next (w64 (s5.1 + 1), x15))
  else
    some (Lp.done s5.2)
noncomputable def ref10_Slice (a0 : List Int) (a1 : Int) (a2 : Int) : Option (List Int) :=
  bnd (ref10_Stretch a0 a1 a2) fun x1 =>
  bnd (loop (ref10_Slice.l1 a0 x1) (x1.1, []) : Option (List Int)) fun t2 =>
  some t2
set_option maxHeartbeats 4000000 in
theorem ref10_Slice_c {a0 : List Int} {a1 : Int} {a2 : Int} {res : (List Int)} (h0 : ref10_Slice a0 a1 a2 = some res) : CallF X 28 [.sl 1 (List.map (eI .i64) a0), .val (.int .i64 a1), .val (.int .i64 a2)] [] (fun x => .val (vn x 0)) (fun x => [.row (vn x 0) (List.map (eI .i64) res) 1 3]) := by
 unfold ref10_Slice at h0
 refine CallF.mkG (X := X) rfl Try.func28 rfl rfl Try.ntmps28 rfl rfl ?_
 refine T.seq ?_
 refine T.region ?_
 refine TL.op1 (OpR.pure rfl) rfl ?_
 refine TL.nil ?_
 show T X _ _ _
 refine T.seq ?_
 refine T.region ?_
 refine TL.op1 (OpR.pure rfl) rfl ?_
 refine TL.op1 (OpR.pure rfl) rfl ?_
 refine TL.op1 (OpR.pure rfl) rfl ?_
 obtain ⟨x1, hx1, h0⟩ := bnd_some h0
 refine TL.op1 (OpR.call0 fn34 (ref10_Stretch_c hx1) rfl) rfl ?_
 refine TL.op1 (OpR.pure rfl) rfl ?_
 refine TL.op1 (OpR.pure rfl) rfl ?_
 refine TL.op1 (OpR.pure rfl) rfl ?_
 refine TL.op1 (OpR.pure rfl) rfl ?_
 refine TL.op1 (OpR.pure rfl) rfl ?_
 refine TL.nil ?_
 show T X _ _ _
 refine T.seq ?_
 refine T.region ?_
 refine TL.op1 (OpR.pure rfl) rfl ?_
 refine TL.nil ?_
 show T X _ _ _
 refine T.seq ?_
 refine T.seq ?_
 refine T.region ?_
 refine TL.op1 (OpR.pure rfl) rfl ?_
 refine TL.op1 (OpR.pure rfl) rfl ?_
 refine TL.nil ?_
 show T X _ _ _
 obtain ⟨t2, ht2, h0⟩ := bnd_some h0
 refine T.cutC (fun S' => ∃ y3 : Value, S' = ⟨[(7, .val y3), (6, .val (.slice none 0 0))], [.row y3 (List.map (eI .i64) t2) 1 3], 30⟩) (fun _ h => h) ?_ ?_
 rotate_left
 · rintro _ ⟨y3, rfl⟩
   show T X _ _ _
   refine T.seq ?_
   refine T.region ?_
   refine TL.op1 (OpR.pure rfl) rfl ?_
   refine TL.op1 (OpR.pure rfl) rfl ?_
   refine TL.nil ?_
   show T X _ _ _
   refine T.ret ?_
   obtain rfl := Option.some.inj h0
   exact PostG.retP (ks := [0]) (Gst.only [6] rfl) (.tuple #[y3]) (ResL.cons (ResV.tmp rfl) ResL.nil) rfl rfl rfl rfl
 refine T.block ?_
 obtain ⟨n6, n11⟩ := loop_some ht2
 refine T.loop (fun n S' => ∃ S'', Gst S' S'' ∧ ∃ y4 : Value, ∃ s5 : Int × (List Int), S'' = ⟨[(8, .val (.int .i64 s5.1)), (7, .val y4), (6, .val (.slice none 0 0)), (2, .val (.int .i64 x1.2)), (0, .sl 1 (List.map (eI .i64) a0))], [.row y4 (List.map (eI .i64) s5.2) 1 3], 30⟩ ∧ iter (ref10_Slice.l1 a0 x1) n s5 = some t2) n6 ?_ ?_
 · exact ⟨_, Gst.trans (Gst.only [0, 2, 6, 7, 8] rfl) (Gst.nilRow (ow := []) 1 3 rfl), (.slice none 0 0), (x1.1, []), rfl, n11⟩
 rintro n6 _ ⟨_, g, y4, s5, rfl, i10⟩
 refine T.ghost g ?_
 obtain ⟨m7, q8, rfl, q9, i10⟩ := iter_succ i10
 unfold ref10_Slice.l1 at q9
 refine T.seq ?_
 refine T.seq ?_
 refine T.region ?_
 refine TL.op1 (OpR.pure rfl) rfl ?_
 refine TL.op1 (OpR.pure rfl) rfl ?_
 refine TL.op1 (OpR.pure rfl) rfl ?_
 refine TL.nil ?_
 show T X _ _ _
 rcases ite_some q9 with ⟨c13, q9⟩ | ⟨c13, q9⟩
 rotate_left
 · refine T.condF rfl (decide_eq_false c13) ?_
   refine T.exit ?_
   obtain rfl := Option.some.inj q9
   obtain rfl : _ = _ := i10
   exact ⟨_, Gst.only [6, 7] rfl, y4, rfl⟩
 refine T.condT rfl (decide_eq_true c13) ?_
 refine T.skip ?_
 show T X _ _ _
 refine T.seq ?_
 refine T.block ?_
 refine T.region ?_
 refine TL.op1 (OpR.pure rfl) rfl ?_
 refine TL.op1 (OpR.pure rfl) rfl ?_
 refine TL.op1 (OpR.pure rfl) rfl ?_
 obtain ⟨x14, hx14, q9⟩ := bnd_some q9
 refine TL.op1 (OpR.indexM (eI .i64) hx14 rfl rfl rfl rfl rfl) rfl ?_
 refine TL.op1 (OpR.pure rfl) rfl ?_
 refine TL.op1 (OpR.lit rfl rfl rfl rfl rfl rfl rfl) rfl ?_
 obtain ⟨x15, hx15, q9⟩ := bnd_some q9
 refine TL.op (OpR.appendM (m := [x14]) (eI .i64) 0 hx15 rfl rfl rfl rfl rfl rfl rfl rfl rfl (fun _ => rfl)) rfl (fun v16 => ?_)
 refine TL.op1 (OpR.pure rfl) rfl ?_
 refine TL.nil ?_
 show T X _ _ _
 refine T.region ?_
 refine TL.op1 (OpR.pure rfl) rfl ?_
 refine TL.op1 (OpR.pure rfl) rfl ?_
 refine TL.op1 (OpR.pure rfl) rfl ?_
 refine TL.nil ?_
 obtain rfl := Option.some.inj q9
 exact ⟨m7, Nat.lt_succ_self _, _, Gst.only [0, 2, 6, 7, 8] rfl, v16, (w64 (s5.1 + 1), x15), rfl, i10⟩
end Go.Proofs.Ytkmdfaodbiknlaa.S
