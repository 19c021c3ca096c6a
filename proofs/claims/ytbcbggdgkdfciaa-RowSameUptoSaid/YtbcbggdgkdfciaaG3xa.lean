/- Printed by a program of this session's own (gen.py): Lean functions for Go functions, and the proofs that the Go code comes to their answers. -/
import Derived.Test.YtbcbggdgkdfciaaG1xa
set_option linter.unusedVariables false
set_option linter.unusedSimpArgs false
set_option maxRecDepth 20000
namespace Go.Proofs.Ytbcbggdgkdfciaa.S
open Go Go.Sm
attribute [local irreducible] T TL OpR CallT iter loop
noncomputable def scan_All.l1 (a0 : List UInt8) (s5 : (List scan_Row) × Int) : Option (Lp ((List scan_Row) × Int) (List scan_Row)) :=
  bnd (scan_reader_done a0 s5.2) fun x13 =>
  if x13 = true then
    some (Lp.done s5.1)
  else
    bnd (scan_reader_row a0 s5.2) fun x15 =>
    bnd (app 32 s5.1 [x15.1]) fun x16 =>
    some (Lp.next (x16, x15.2))
noncomputable def scan_All (a0 : List UInt8) : Option (List scan_Row) :=
  bnd (loop (scan_All.l1 a0) ([], 0) : Option (List scan_Row)) fun t2 =>
  some t2
set_option maxHeartbeats 4000000 in
theorem scan_All_c {a0 : List UInt8} {res : (List scan_Row)} (h0 : scan_All a0 = some res) : CallF X 26 [.sl 1 (List.map byteD a0)] [] (fun x => .sl 2 (List.map e_scan_Row res)) (fun x => []) := by
 unfold scan_All at h0
 refine CallF.mkG (X := X) Try.func26 rfl rfl Try.ntmps26 rfl rfl ?_
 refine T.seq ?_
 refine T.region ?_
 refine TL.op1 (OpR.pure rfl) rfl ?_
 refine TL.nil ?_
 show T X _ _ _
 refine T.seq ?_
 refine T.region ?_
 refine TL.op1 (OpR.pure rfl) rfl ?_
 refine TL.nil ?_
 show T X _ _ _
 refine T.seq ?_
 refine T.seq ?_
 refine T.region ?_
 refine TL.op1 (OpR.pure rfl) rfl ?_
 refine TL.op1 (OpR.build rfl rfl rfl rfl rfl) rfl ?_
 refine TL.op (OpR.boxVar rfl rfl (fun _ => rfl)) rfl (fun p1 => ?_)
 refine TL.op1 (OpR.pure rfl) rfl ?_
 refine TL.nil ?_
 show T X _ _ _
 obtain ⟨t2, ht2, h0⟩ := bnd_some h0
 refine T.cutC (fun S' => ∃ y3 : Value, S' = ⟨[(3, .val y3), (2, .val (.slice none 0 0))], [.row y3 (List.map e_scan_Row t2) 2 54], 17⟩) (fun _ h => h) ?_ ?_
 rotate_left
 · rintro _ ⟨y3, rfl⟩
   show T X _ _ _
   refine T.seq ?_
   refine T.region ?_
   refine TL.op1 (OpR.pure rfl) rfl ?_
   refine TL.op1 (OpR.pure rfl) rfl ?_
   refine TL.nil ?_
   show T X _ _ _
   refine T.ret ?_
   obtain rfl := Option.some.inj h0
   exact PostG.retP (ks := []) (Gst.trans (Gst.only [2] rfl) (Gst.trans (Gst.freezeRow 0 rfl rfl (ReS.cons (Re.base .all) ReS.nil) (ReO.same ReO.nil)) (Gst.pick [] rfl rfl))) undef (ResL.cons (ResV.tmp rfl) ResL.nil) rfl rfl rfl rfl
 refine T.block ?_
 obtain ⟨n6, n11⟩ := loop_some ht2
 refine T.loop (fun n S' => ∃ S'', Gst S' S'' ∧ ∃ y4 : Value, ∃ s5 : (List scan_Row) × Int, S'' = ⟨[(4, .val (.pointer (some ⟨(blk p1), 0, none⟩))), (3, .val y4), (2, .val (.slice none 0 0))], [.row y4 (List.map e_scan_Row s5.1) 2 54, .var (blk p1) [.sl 1 (List.map byteD a0), .val (.int .i64 s5.2)] 145], 17⟩ ∧ iter (scan_All.l1 a0) n s5 = some t2) n6 ?_ ?_
 · exact ⟨_, Gst.trans (Gst.only [2, 3, 4] rfl) (Gst.trans (Gst.nilRow (ow := [.var (blk p1) [.sl 1 (List.map byteD a0), .val (.int .i64 0)] 145]) 2 54 rfl) (Gst.pick [1, 0] rfl rfl)), (.slice none 0 0), ([], 0), rfl, n11⟩
 rintro n6 _ ⟨_, g, y4, s5, rfl, i10⟩
 refine T.ghost g ?_
 obtain ⟨m7, q8, rfl, q9, i10⟩ := iter_succ i10
 unfold scan_All.l1 at q9
 refine T.seq ?_
 refine T.seq ?_
 refine T.region ?_
 refine TL.op1 (OpR.pure rfl) rfl ?_
 obtain ⟨x13, hx13, q9⟩ := bnd_some q9
 refine TL.op1 (OpR.call [1] fn65 (scan_reader_done_c hx13) rfl rfl rfl (fun _ => rfl)) rfl ?_
 refine TL.op1 (OpR.pure rfl) rfl ?_
 refine TL.nil ?_
 show T X _ _ _
 rcases ite_some q9 with ⟨c14, q9⟩ | ⟨c14, q9⟩
 · refine T.condF rfl (not_t (c14)) ?_
   refine T.exit ?_
   obtain rfl := Option.some.inj q9
   obtain rfl : _ = _ := i10
   exact ⟨_, Gst.trans (Gst.only [2, 3] rfl) (Gst.pick [0] rfl rfl), y4, rfl⟩
 refine T.condT rfl (not_f (eq_false_of_ne_true c14)) ?_
 refine T.skip ?_
 show T X _ _ _
 refine T.block ?_
 refine T.region ?_
 refine TL.op1 (OpR.pure rfl) rfl ?_
 refine TL.op1 (OpR.pure rfl) rfl ?_
 obtain ⟨x15, hx15, q9⟩ := bnd_some q9
 refine TL.op1 (OpR.call [1] fn66 (scan_reader_row_c hx15) rfl rfl rfl (fun _ => rfl)) rfl ?_
 refine TL.op1 (OpR.lit rfl rfl rfl rfl rfl rfl rfl) rfl ?_
 obtain ⟨x16, hx16, q9⟩ := bnd_some q9
 refine TL.op (OpR.appendM (m := [x15.1]) e_scan_Row 0 hx16 rfl rfl rfl rfl rfl rfl rfl rfl rfl (fun _ => rfl)) rfl (fun v17 => ?_)
 refine TL.op1 (OpR.pure rfl) rfl ?_
 refine TL.nil ?_
 obtain rfl := Option.some.inj q9
 exact ⟨m7, Nat.lt_succ_self _, _, Gst.only [2, 3, 4] rfl, v17, (x16, x15.2), rfl, i10⟩
end Go.Proofs.Ytbcbggdgkdfciaa.S
