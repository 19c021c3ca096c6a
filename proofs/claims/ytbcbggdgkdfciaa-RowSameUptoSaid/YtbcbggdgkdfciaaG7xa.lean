/- Printed by a program of this session's own (gen.py): Lean functions for Go functions, and the proofs that the Go code comes to their answers. -/
import Derived.Test.YtbcbggdgkdfciaaG0
set_option linter.unusedVariables false
set_option linter.unusedSimpArgs false
set_option maxRecDepth 20000
namespace Go.Proofs.Ytbcbggdgkdfciaa.S
open Go Go.Sm
attribute [local irreducible] T TL OpR CallT iter loop
noncomputable def ref08_Pad.l1 (a0 : ref08_Row) (a1 : Int) (s6 : Int × (List ref07_Cell)) : Option (Lp (Int × (List ref07_Cell)) (List ref07_Cell)) :=
  bnd (if s6.1 < (a0.fCells.length : Int) then
    some true
  else
    if s6.1 < a1 then
      some (decide (s6.1 < 40))
    else
      some false : Option Bool) fun t14 =>
  if t14 = true then
    bnd (if s6.1 < (a0.fCells.length : Int) then
      bnd (idx a0.fCells s6.1) fun x21 =>
      some (x21.fS, x21.fRaw, x21.fKept)
    else
      some ([], [], false) : Option ((List UInt8) × (List UInt8) × Bool)) fun t19 =>
    bnd (app 40 s6.2 [(⟨t19.1, t19.2.1, t19.2.2⟩ : ref07_Cell)]) fun x22 =>
    some (Lp.next (w64 (s6.1 + 1), x22))
  else
    some (Lp.done s6.2)
noncomputable def ref08_Pad (a0 : ref08_Row) (a1 : Int) : Option (Int × Bool × (List ref07_Cell)) :=
  bnd (loop (ref08_Pad.l1 a0 a1) (0, []) : Option (List ref07_Cell)) fun t3 =>
  some (a0.fEnd, a0.fHidden, t3)
set_option maxHeartbeats 4000000 in
theorem ref08_Pad_c {a0 : ref08_Row} {a1 : Int} {res : Int × Bool × (List ref07_Cell)} (h0 : ref08_Pad a0 a1 = some res) : CallF X 77 [.agg [.sl 3 (List.map e_ref07_Cell a0.fCells), .val (.int .i64 a0.fEnd), .val (.bool a0.fHidden)], .val (.int .i64 a1)] [] (fun x => .agg [.val (vn x 0), .val (.int .i64 res.1), .val (.bool res.2.1)]) (fun x => [.row (vn x 0) (List.map e_ref07_Cell res.2.2) 3 112]) := by
 unfold ref08_Pad at h0
 refine CallF.mkG (X := X) Try.func77 rfl rfl Try.ntmps77 rfl rfl ?_
 refine T.seq ?_
 refine T.region ?_
 refine TL.op1 (OpR.boxImm rfl rfl) rfl ?_
 refine TL.op (OpR.alloc rfl rfl (fun _ => rfl)) rfl (fun p1 => ?_)
 refine TL.nil ?_
 show T X _ _ _
 refine T.seq ?_
 refine T.region ?_
 refine TL.op1 (OpR.pure rfl) rfl ?_
 refine TL.op1 (OpR.pure rfl) rfl ?_
 refine TL.op1 (OpR.pure rfl) rfl ?_
 refine TL.op1 (OpR.pure rfl) rfl ?_
 refine TL.op1 (OpR.build rfl rfl rfl rfl rfl) rfl ?_
 refine TL.op (OpR.alloc rfl rfl (fun _ => rfl)) rfl (fun p2 => ?_)
 refine TL.op0 (OpR.store 1 rfl rfl rfl rfl rfl rfl rfl rfl) ?_
 refine TL.nil ?_
 show T X _ _ _
 refine T.seq ?_
 refine T.seq ?_
 refine T.region ?_
 refine TL.op1 (OpR.pure rfl) rfl ?_
 refine TL.nil ?_
 show T X _ _ _
 obtain ⟨t3, ht3, h0⟩ := bnd_some h0
 refine T.cutC (fun S' => ∃ y4 : Value, S' = ⟨[(5, .val (.pointer (some ⟨(blk p2), 0, none⟩))), (4, .val (.pointer (some ⟨(blk p1), 0, none⟩)))], [.var (blk p1) [.val (.slice none 0 0), .val (.int .i64 0), .val (.bool false)] 57, .var (blk p2) [.val y4, .val (.int .i64 a0.fEnd), .val (.bool a0.fHidden)] 57, .row y4 (List.map e_ref07_Cell t3) 3 112], 47⟩) (fun _ h => h) ?_ ?_
 rotate_left
 · rintro _ ⟨y4, rfl⟩
   show T X _ _ _
   refine T.seq ?_
   refine T.region ?_
   refine TL.op1 (OpR.loadPtr 1 rfl rfl rfl rfl) rfl ?_
   refine TL.op0 (OpR.store 0 rfl rfl rfl rfl rfl rfl rfl rfl) ?_
   refine TL.nil ?_
   show T X _ _ _
   refine T.ret ?_
   obtain rfl := Option.some.inj h0
   exact PostG.retP (ks := [1]) (Gst.trans (Gst.only [4] rfl) (Gst.pick [0, 2] rfl rfl)) (.tuple #[y4]) (ResL.cons (ResV.var 0 rfl rfl rfl rfl) ResL.nil) rfl rfl rfl rfl
 refine T.block ?_
 obtain ⟨n7, n12⟩ := loop_some ht3
 refine T.loop (fun n S' => ∃ S'', Gst S' S'' ∧ ∃ y5 : Value, ∃ s6 : Int × (List ref07_Cell), S'' = ⟨[(6, .val (.int .i64 s6.1)), (5, .val (.pointer (some ⟨(blk p2), 0, none⟩))), (4, .val (.pointer (some ⟨(blk p1), 0, none⟩))), (2, .nod [.sl 3 (List.map e_ref07_Cell a0.fCells), .val (.int .i64 a0.fEnd), .val (.bool a0.fHidden)]), (1, .val (.int .i64 a1))], [.var (blk p1) [.val (.slice none 0 0), .val (.int .i64 0), .val (.bool false)] 57, .var (blk p2) [.val y5, .val (.int .i64 a0.fEnd), .val (.bool a0.fHidden)] 57, .row y5 (List.map e_ref07_Cell s6.2) 3 112], 47⟩ ∧ iter (ref08_Pad.l1 a0 a1) n s6 = some t3) n7 ?_ ?_
 · exact ⟨_, Gst.trans (Gst.only [1, 2, 4, 5, 6] rfl) (Gst.nilRow (ow := [.var (blk p1) [.val (.slice none 0 0), .val (.int .i64 0), .val (.bool false)] 57, .var (blk p2) [.val (.slice none 0 0), .val (.int .i64 a0.fEnd), .val (.bool a0.fHidden)] 57]) 3 112 rfl), (.slice none 0 0), (0, []), rfl, n12⟩
 rintro n7 _ ⟨_, g, y5, s6, rfl, i11⟩
 refine T.ghost g ?_
 obtain ⟨m8, q9, rfl, q10, i11⟩ := iter_succ i11
 unfold ref08_Pad.l1 at q10
 refine T.seq ?_
 refine T.seq ?_
 obtain ⟨t14, ht14, q10⟩ := bnd_some q10
 refine T.cutC (fun S' => S' = ⟨[(26, .val (.bool t14)), (6, .val (.int .i64 s6.1)), (5, .val (.pointer (some ⟨(blk p2), 0, none⟩))), (4, .val (.pointer (some ⟨(blk p1), 0, none⟩))), (2, .nod [.sl 3 (List.map e_ref07_Cell a0.fCells), .val (.int .i64 a0.fEnd), .val (.bool a0.fHidden)]), (1, .val (.int .i64 a1))], [.var (blk p1) [.val (.slice none 0 0), .val (.int .i64 0), .val (.bool false)] 57, .var (blk p2) [.val y5, .val (.int .i64 a0.fEnd), .val (.bool a0.fHidden)] 57, .row y5 (List.map e_ref07_Cell s6.2) 3 112], 47⟩) (fun _ h => h) ?_ ?_
 · refine T.region ?_
   refine TL.op1 (OpR.pure rfl) rfl ?_
   refine TL.op1 (OpR.pure rfl) rfl ?_
   refine TL.op1 (OpR.pure rfl) rfl ?_
   refine TL.op1 (OpR.cast (OpR.pure rfl) (intE (lenM _ _))) rfl ?_
   refine TL.op1 (OpR.pure rfl) rfl ?_
   refine TL.op1 (OpR.pure rfl) rfl ?_
   rcases ite_some ht14 with ⟨c15, ht14⟩ | ⟨c15, ht14⟩
   · refine TL.off rfl rfl rfl rfl (decide_eq_true c15) rfl rfl ?_
     refine TL.off rfl rfl rfl rfl (decide_eq_true c15) rfl rfl ?_
     refine TL.off rfl rfl rfl rfl (decide_eq_true c15) rfl rfl ?_
     refine TL.off rfl rfl rfl rfl (decide_eq_true c15) rfl rfl ?_
     refine TL.offU rfl rfl rfl rfl rfl rfl ?_
     refine TL.offU rfl rfl rfl rfl rfl rfl ?_
     refine TL.off rfl rfl rfl rfl (decide_eq_true c15) rfl rfl ?_
     refine TL.op1 (OpR.pickT rfl (decide_eq_true c15) rfl) rfl ?_
     refine TL.nil ?_
     obtain rfl := Option.some.inj ht14
     exact ⟨_, Gst.only [1, 2, 4, 5, 6, 26] rfl, rfl⟩
   refine TL.on rfl rfl rfl rfl (decide_eq_false c15) ?_
   refine TL.op1 (OpR.pure rfl) rfl ?_
   refine TL.on rfl rfl rfl rfl (decide_eq_false c15) ?_
   refine TL.op1 (OpR.pure rfl) rfl ?_
   refine TL.on rfl rfl rfl rfl (decide_eq_false c15) ?_
   refine TL.op1 (OpR.pure rfl) rfl ?_
   refine TL.on rfl rfl rfl rfl (decide_eq_false c15) ?_
   refine TL.op1 (OpR.pure rfl) rfl ?_
   rcases ite_some ht14 with ⟨c16, ht14⟩ | ⟨c16, ht14⟩
   rotate_left
   · refine TL.off rfl rfl rfl rfl (decide_eq_false c16) rfl rfl ?_
     refine TL.off rfl rfl rfl rfl (decide_eq_false c16) rfl rfl ?_
     refine TL.on rfl rfl rfl rfl (decide_eq_false c15) ?_
     refine TL.op1 (OpR.pickF rfl (decide_eq_false c16) rfl) rfl ?_
     refine TL.op1 (OpR.pickF rfl (decide_eq_false c15) rfl) rfl ?_
     refine TL.nil ?_
     obtain rfl := Option.some.inj ht14
     exact ⟨_, Gst.only [1, 2, 4, 5, 6, 26] rfl, rfl⟩
   refine TL.on rfl rfl rfl rfl (decide_eq_true c16) ?_
   refine TL.op1 (OpR.pure rfl) rfl ?_
   refine TL.on rfl rfl rfl rfl (decide_eq_true c16) ?_
   refine TL.op1 (OpR.pure rfl) rfl ?_
   refine TL.on rfl rfl rfl rfl (decide_eq_false c15) ?_
   refine TL.op1 (OpR.pickT rfl (decide_eq_true c16) rfl) rfl ?_
   refine TL.op1 (OpR.pickF rfl (decide_eq_false c15) rfl) rfl ?_
   refine TL.nil ?_
   obtain rfl := Option.some.inj ht14
   exact ⟨_, Gst.only [1, 2, 4, 5, 6, 26] rfl, rfl⟩
 rintro _ rfl
 show T X _ _ _
 rcases ite_some q10 with ⟨c17, q10⟩ | ⟨c17, q10⟩
 rotate_left
 · refine T.condF rfl (eq_false_of_ne_true c17) ?_
   refine T.exit ?_
   obtain rfl := Option.some.inj q10
   obtain rfl : _ = _ := i11
   exact ⟨_, Gst.only [4, 5] rfl, y5, rfl⟩
 refine T.condT rfl (c17) ?_
 refine T.skip ?_
 show T X _ _ _
 refine T.seq ?_
 refine T.block ?_
 refine T.seq ?_
 refine T.region ?_
 refine TL.op1 (OpR.build rfl rfl rfl rfl rfl) rfl ?_
 refine TL.op (OpR.alloc rfl rfl (fun _ => rfl)) rfl (fun p18 => ?_)
 refine TL.op0 (OpR.store 3 rfl rfl rfl rfl rfl rfl rfl rfl) ?_
 refine TL.nil ?_
 show T X _ _ _
 refine T.seq ?_
 refine T.seq ?_
 refine T.region ?_
 refine TL.op1 (OpR.pure rfl) rfl ?_
 refine TL.op1 (OpR.pure rfl) rfl ?_
 refine TL.op1 (OpR.pure rfl) rfl ?_
 refine TL.op1 (OpR.cast (OpR.pure rfl) (intE (lenM _ _))) rfl ?_
 refine TL.op1 (OpR.pure rfl) rfl ?_
 refine TL.nil ?_
 show T X _ _ _
 obtain ⟨t19, ht19, q10⟩ := bnd_some q10
 refine T.cutC (fun S' => S' = ⟨[(7, .val (.pointer (some ⟨(blk p18), 0, none⟩))), (6, .val (.int .i64 s6.1)), (5, .val (.pointer (some ⟨(blk p2), 0, none⟩))), (4, .val (.pointer (some ⟨(blk p1), 0, none⟩))), (2, .nod [.sl 3 (List.map e_ref07_Cell a0.fCells), .val (.int .i64 a0.fEnd), .val (.bool a0.fHidden)]), (1, .val (.int .i64 a1))], [.var (blk p1) [.val (.slice none 0 0), .val (.int .i64 0), .val (.bool false)] 57, .var (blk p2) [.val y5, .val (.int .i64 a0.fEnd), .val (.bool a0.fHidden)] 57, .var (blk p18) [.val (.string (bs t19.1)), .val (.string (bs t19.2.1)), .val (.bool t19.2.2)] 112, .row y5 (List.map e_ref07_Cell s6.2) 3 112], 47⟩) (fun _ h => h) ?_ ?_
 · rcases ite_some ht19 with ⟨c20, ht19⟩ | ⟨c20, ht19⟩
   rotate_left
   · refine T.condF rfl (decide_eq_false c20) ?_
     refine T.skip ?_
     obtain rfl := Option.some.inj ht19
     exact ⟨_, Gst.trans (Gst.only [1, 2, 4, 5, 6, 7] rfl) (Gst.pick [0, 1, 3, 2] rfl rfl), rfl⟩
   refine T.condT rfl (decide_eq_true c20) ?_
   refine T.region ?_
   refine TL.op1 (OpR.pure rfl) rfl ?_
   refine TL.op1 (OpR.pure rfl) rfl ?_
   refine TL.op1 (OpR.pure rfl) rfl ?_
   obtain ⟨x21, hx21, ht19⟩ := bnd_some ht19
   refine TL.op1 (OpR.indexM e_ref07_Cell hx21 rfl rfl rfl rfl rfl) rfl ?_
   refine TL.op1 (OpR.pure rfl) rfl ?_
   refine TL.op0 (OpR.store 3 rfl rfl rfl rfl rfl rfl rfl rfl) ?_
   refine TL.nil ?_
   obtain rfl := Option.some.inj ht19
   exact ⟨_, Gst.trans (Gst.only [1, 2, 4, 5, 6, 7] rfl) (Gst.pick [0, 1, 3, 2] rfl rfl), rfl⟩
 rintro _ rfl
 show T X _ _ _
 refine T.region ?_
 refine TL.op1 (OpR.pure rfl) rfl ?_
 refine TL.op1 (OpR.loadPtr 1 rfl rfl rfl rfl) rfl ?_
 refine TL.op1 (OpR.loadPtr 2 rfl rfl rfl rfl) rfl ?_
 refine TL.op1 (OpR.lit rfl rfl rfl rfl rfl rfl rfl) rfl ?_
 obtain ⟨x22, hx22, q10⟩ := bnd_some q10
 refine TL.op (OpR.appendM (m := [(⟨t19.1, t19.2.1, t19.2.2⟩ : ref07_Cell)]) e_ref07_Cell 3 hx22 rfl rfl rfl rfl rfl rfl rfl rfl rfl (fun _ => rfl)) rfl (fun v23 => ?_)
 refine TL.op1 (OpR.pure rfl) rfl ?_
 refine TL.op0 (OpR.store 1 rfl rfl rfl rfl rfl rfl rfl rfl) ?_
 refine TL.nil ?_
 show T X _ _ _
 refine T.region ?_
 refine TL.op1 (OpR.pure rfl) rfl ?_
 refine TL.op1 (OpR.pure rfl) rfl ?_
 refine TL.op1 (OpR.pure rfl) rfl ?_
 refine TL.nil ?_
 obtain rfl := Option.some.inj q10
 exact ⟨m8, Nat.lt_succ_self _, _, Gst.trans (Gst.only [1, 2, 4, 5, 6] rfl) (Gst.pick [0, 1, 3] rfl rfl), v23, (w64 (s6.1 + 1), x22), rfl, i11⟩
noncomputable def ref08_Fresh (a0 : Int) (a1 : Int) : Option ref08_Row :=
  bnd (if a0 < 1 then
    some 1
  else
    some a0 : Option Int) fun t2 =>
  bnd (ref08_Pad (⟨[], a1, false⟩ : ref08_Row) t2) fun x4 =>
  some (⟨x4.2.2, x4.1, x4.2.1⟩ : ref08_Row)
set_option maxHeartbeats 4000000 in
theorem ref08_Fresh_c {a0 : Int} {a1 : Int} {res : ref08_Row} (h0 : ref08_Fresh a0 a1 = some res) : CallF X 38 [.val (.int .i64 a0), .val (.int .i64 a1)] [] (fun x => .agg [.sl 3 (List.map e_ref07_Cell res.fCells), .val (.int .i64 res.fEnd), .val (.bool res.fHidden)]) (fun x => []) := by
 unfold ref08_Fresh at h0
 refine CallF.mkG (X := X) Try.func38 rfl rfl Try.ntmps38 rfl rfl ?_
 refine T.seq ?_
 refine T.region ?_
 refine TL.op (OpR.alloc rfl rfl (fun _ => rfl)) rfl (fun p1 => ?_)
 refine TL.nil ?_
 show T X _ _ _
 refine T.seq ?_
 refine T.seq ?_
 refine T.region ?_
 refine TL.op1 (OpR.pure rfl) rfl ?_
 refine TL.op1 (OpR.pure rfl) rfl ?_
 refine TL.nil ?_
 show T X _ _ _
 obtain ⟨t2, ht2, h0⟩ := bnd_some h0
 refine T.cutC (fun S' => S' = ⟨[(4, .val (.pointer (some ⟨(blk p1), 0, none⟩))), (1, .val (.int .i64 a1)), (0, .val (.int .i64 t2))], [.var (blk p1) [.val (.slice none 0 0), .val (.int .i64 0), .val (.bool false)] 57], 11⟩) (fun _ h => h) ?_ ?_
 · rcases ite_some ht2 with ⟨c3, ht2⟩ | ⟨c3, ht2⟩
   rotate_left
   · refine T.condF rfl (decide_eq_false c3) ?_
     refine T.skip ?_
     obtain rfl := Option.some.inj ht2
     exact ⟨_, Gst.only [0, 1, 4] rfl, rfl⟩
   refine T.condT rfl (decide_eq_true c3) ?_
   refine T.region ?_
   refine TL.op1 (OpR.pure rfl) rfl ?_
   refine TL.nil ?_
   obtain rfl := Option.some.inj ht2
   exact ⟨_, Gst.only [0, 1, 4] rfl, rfl⟩
 rintro _ rfl
 show T X _ _ _
 refine T.seq ?_
 refine T.region ?_
 refine TL.op1 (OpR.pure rfl) rfl ?_
 refine TL.op1 (OpR.wk (d' := fun _ => .agg [.sl 3 (List.map e_ref07_Cell []), .val (.int .i64 a1), .val (.bool false)]) (OpR.build rfl rfl rfl rfl rfl) (fun _ => Re.agg (ReL.cons (Re.base .nil) (ReL.cons Re.refl (ReL.cons Re.refl ReL.nil))) (fun _ _ h => by cases h; exact ⟨_, rfl⟩))) rfl ?_
 refine TL.op1 (OpR.pure rfl) rfl ?_
 obtain ⟨x4, hx4, h0⟩ := bnd_some h0
 refine TL.op (OpR.call [] fn77 (ref08_Pad_c hx4) rfl rfl rfl (fun _ => rfl)) rfl (fun w5 => ?_)
 refine TL.op0 (OpR.store 0 rfl rfl rfl rfl rfl rfl rfl rfl) ?_
 refine TL.nil ?_
 show T X _ _ _
 refine T.ret ?_
 obtain rfl := Option.some.inj h0
 exact PostG.retP (ks := []) (Gst.trans (Gst.only [4] rfl) (Gst.trans (Gst.freezeRow 1 rfl rfl (ReS.cons Re.refl ReS.nil) (ReO.var (ReL.cons (Re.base .all) (ReL.cons Re.refl (ReL.cons Re.refl ReL.nil))) (ReO.same ReO.nil))) (Gst.pick [0] rfl rfl))) undef (ResL.cons (ResV.var 0 rfl rfl rfl rfl) ResL.nil) rfl rfl rfl rfl
end Go.Proofs.Ytbcbggdgkdfciaa.S
