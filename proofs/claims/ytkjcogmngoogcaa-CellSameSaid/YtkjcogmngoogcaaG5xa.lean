/- Printed by a program of this session's own (gen.py): Lean functions for Go functions, and the proofs that the Go code comes to their answers. -/
import Derived.Test.YtkjcogmngoogcaaG3xa
set_option linter.unusedVariables false
set_option linter.unusedSimpArgs false
set_option maxRecDepth 20000
namespace Go.Proofs.Ytkjcogmngoogcaa.S
open Go Go.Sm
attribute [local irreducible] T TL OpR CallT iter loop
noncomputable def scan_Value.l1 (a0 : List UInt8) (a1 : scan_Field) (s4 : Int × (List UInt8)) : Option (Lp (Int × (List UInt8)) (List UInt8)) :=
  if s4.1 < (a1.fParts.length : Int) then
    bnd (idx a1.fParts s4.1) fun x13 =>
    bnd (if x13.fAt ≥ 0 then
      if x13.fN ≥ 0 then
        if x13.fAt ≤ (a0.length : Int) then
          some (decide (x13.fN ≤ (w64 ((a0.length : Int) - x13.fAt))))
        else
          some false
      else
        some false
    else
      some false : Option Bool) fun t15 =>
    bnd (if t15 = true then
      bnd (cut a0 x13.fAt (w64 (x13.fAt + x13.fN))) fun x22 =>
      bnd (app 1 s4.2 x22) fun x23 =>
      some x23
    else
      some s4.2 : Option (List UInt8)) fun t19 =>
    some (Lp.next (w64 (s4.1 + 1), t19))
  else
    some (Lp.done s4.2)
noncomputable def scan_Value (a0 : List UInt8) (a1 : scan_Field) : Option (List UInt8) :=
  bnd (loop (scan_Value.l1 a0 a1) (0, []) : Option (List UInt8)) fun t1 =>
  some t1
set_option maxHeartbeats 4000000 in
theorem scan_Value_c {a0 : List UInt8} {a1 : scan_Field} {res : (List UInt8)} (h0 : scan_Value a0 a1 = some res) : CallF X 30 [.sl 1 (List.map byteD a0), .agg [.val (.int .i64 a1.fRaw.fAt), .val (.int .i64 a1.fRaw.fN), .val (.int .i64 a1.fKind), .sl 2 (List.map e_arena_Span a1.fParts)]] [] (fun x => .sl 1 (List.map byteD res)) (fun x => []) := by
 unfold scan_Value at h0
 refine CallF.mkG (X := X) Try.func30 rfl rfl Try.ntmps30 rfl rfl ?_
 refine T.seq ?_
 refine T.region ?_
 refine TL.op1 (OpR.boxImm rfl rfl) rfl ?_
 refine TL.op1 (OpR.pure rfl) rfl ?_
 refine TL.nil ?_
 show T X _ _ _
 refine T.seq ?_
 refine T.region ?_
 refine TL.op1 (OpR.pure rfl) rfl ?_
 refine TL.nil ?_
 show T X _ _ _
 refine T.seq ?_
 refine T.seq ?_
 refine T.region ?_
 refine TL.op1 (OpR.pure rfl) rfl ?_
 refine TL.op1 (OpR.pure rfl) rfl ?_
 refine TL.op1 (OpR.cast (OpR.pure rfl) (intE (lenM _ _))) rfl ?_
 refine TL.op1 (OpR.pure rfl) rfl ?_
 refine TL.nil ?_
 show T X _ _ _
 obtain ⟨t1, ht1, h0⟩ := bnd_some h0
 refine T.cutC (fun S' => ∃ y2 : Value, S' = ⟨[(5, .val y2), (4, .val (.slice none 0 0))], [.row y2 (List.map byteD t1) 1 5], 53⟩) (fun _ h => h) ?_ ?_
 rotate_left
 · rintro _ ⟨y2, rfl⟩
   show T X _ _ _
   refine T.seq ?_
   refine T.region ?_
   refine TL.op1 (OpR.pure rfl) rfl ?_
   refine TL.op1 (OpR.pure rfl) rfl ?_
   refine TL.nil ?_
   show T X _ _ _
   refine T.ret ?_
   obtain rfl := Option.some.inj h0
   exact PostG.retP (ks := []) (Gst.trans (Gst.only [4] rfl) (Gst.trans (Gst.freezeRow 0 rfl rfl (ReS.cons (Re.base .all) ReS.nil) (ReO.same ReO.nil)) (Gst.pick [] rfl rfl))) undef (ResL.cons (ResV.tmp rfl) ResL.nil) rfl rfl rfl rfl
 refine T.block ?_
 obtain ⟨n5, n10⟩ := loop_some ht1
 refine T.loop (fun n S' => ∃ S'', Gst S' S'' ∧ ∃ y3 : Value, ∃ s4 : Int × (List UInt8), S'' = ⟨[(11, .val (.int .i64 s4.1)), (10, .val (.int .i64 (a1.fParts.length : Int))), (9, .sl 2 (List.map e_arena_Span a1.fParts)), (5, .val y3), (4, .val (.slice none 0 0)), (0, .sl 1 (List.map byteD a0))], [.row y3 (List.map byteD s4.2) 1 5], 53⟩ ∧ iter (scan_Value.l1 a0 a1) n s4 = some t1) n5 ?_ ?_
 · exact ⟨_, Gst.trans (Gst.only [0, 4, 5, 9, 10, 11] rfl) (Gst.nilRow (ow := []) 1 5 rfl), (.slice none 0 0), (0, []), rfl, n10⟩
 rintro n5 _ ⟨_, g, y3, s4, rfl, i9⟩
 refine T.ghost g ?_
 obtain ⟨m6, q7, rfl, q8, i9⟩ := iter_succ i9
 unfold scan_Value.l1 at q8
 refine T.seq ?_
 refine T.region ?_
 refine TL.op1 (OpR.pure rfl) rfl ?_
 refine TL.nil ?_
 show T X _ _ _
 refine T.seq ?_
 rcases ite_some q8 with ⟨c12, q8⟩ | ⟨c12, q8⟩
 rotate_left
 · refine T.condF rfl (decide_eq_false c12) ?_
   refine T.exit ?_
   obtain rfl := Option.some.inj q8
   obtain rfl : _ = _ := i9
   exact ⟨_, Gst.only [4, 5] rfl, y3, rfl⟩
 refine T.condT rfl (decide_eq_true c12) ?_
 refine T.skip ?_
 show T X _ _ _
 refine T.seq ?_
 refine T.block ?_
 refine T.seq ?_
 refine T.region ?_
 obtain ⟨x13, hx13, q8⟩ := bnd_some q8
 refine TL.op1 (OpR.indexM e_arena_Span hx13 rfl rfl rfl rfl rfl) rfl ?_
 refine TL.op1 (OpR.pure rfl) rfl ?_
 refine TL.op (OpR.alloc rfl rfl (fun _ => rfl)) rfl (fun p14 => ?_)
 refine TL.op0 (OpR.store 1 rfl rfl rfl rfl rfl rfl rfl rfl) ?_
 refine TL.nil ?_
 show T X _ _ _
 refine T.seq ?_
 obtain ⟨t15, ht15, q8⟩ := bnd_some q8
 refine T.cutC (fun S' => S' = ⟨[(39, .val (.bool t15)), (11, .val (.int .i64 s4.1)), (10, .val (.int .i64 (a1.fParts.length : Int))), (9, .sl 2 (List.map e_arena_Span a1.fParts)), (7, .val (.pointer (some ⟨(blk p14), 0, none⟩))), (5, .val y3), (4, .val (.slice none 0 0)), (0, .sl 1 (List.map byteD a0))], [.row y3 (List.map byteD s4.2) 1 5, .var (blk p14) [.val (.int .i64 x13.fAt), .val (.int .i64 x13.fN)] 50], 53⟩) (fun _ h => h) ?_ ?_
 rotate_left
 · rintro _ rfl
   show T X _ _ _
   obtain ⟨t19, ht19, q8⟩ := bnd_some q8
   refine T.cutC (fun S' => ∃ y20 : Value, S' = ⟨[(11, .val (.int .i64 s4.1)), (10, .val (.int .i64 (a1.fParts.length : Int))), (9, .sl 2 (List.map e_arena_Span a1.fParts)), (5, .val y20), (4, .val (.slice none 0 0)), (0, .sl 1 (List.map byteD a0))], [.row y20 (List.map byteD t19) 1 5], 53⟩) (fun _ h => h) ?_ ?_
   rotate_left
   · rintro _ ⟨y20, rfl⟩
     show T X _ _ _
     refine T.region ?_
     refine TL.op1 (OpR.pure rfl) rfl ?_
     refine TL.op1 (OpR.pure rfl) rfl ?_
     refine TL.nil ?_
     obtain rfl := Option.some.inj q8
     exact ⟨m6, Nat.lt_succ_self _, _, Gst.only [0, 4, 5, 9, 10, 11] rfl, y20, (w64 (s4.1 + 1), t19), rfl, i9⟩
   rcases ite_some ht19 with ⟨c21, ht19⟩ | ⟨c21, ht19⟩
   rotate_left
   · refine T.condF rfl (eq_false_of_ne_true c21) ?_
     refine T.skip ?_
     obtain rfl := Option.some.inj ht19
     exact ⟨_, Gst.trans (Gst.only [0, 4, 5, 9, 10, 11] rfl) (Gst.pick [0] rfl rfl), y3, rfl⟩
   refine T.condT rfl (c21) ?_
   refine T.region ?_
   refine TL.op1 (OpR.pure rfl) rfl ?_
   refine TL.op1 (OpR.pure rfl) rfl ?_
   refine TL.op1 (OpR.pure rfl) rfl ?_
   refine TL.op1 (OpR.loadPtr 1 rfl rfl rfl rfl) rfl ?_
   refine TL.op1 (OpR.pure rfl) rfl ?_
   refine TL.op1 (OpR.loadPtr 1 rfl rfl rfl rfl) rfl ?_
   refine TL.op1 (OpR.pure rfl) rfl ?_
   refine TL.op1 (OpR.loadPtr 1 rfl rfl rfl rfl) rfl ?_
   refine TL.op1 (OpR.pure rfl) rfl ?_
   obtain ⟨x22, hx22, ht19⟩ := bnd_some ht19
   refine TL.op1 (OpR.sliceM (sz := 1) byteD hx22 rfl rfl rfl rfl (BdM.some rfl) (BdM.some rfl) rfl) rfl ?_
   obtain ⟨x23, hx23, ht19⟩ := bnd_some ht19
   refine TL.op (OpR.appendM (m := x22) byteD 0 hx23 rfl rfl rfl rfl rfl rfl rfl rfl rfl (fun _ => rfl)) rfl (fun v24 => ?_)
   refine TL.op1 (OpR.pure rfl) rfl ?_
   refine TL.nil ?_
   obtain rfl := Option.some.inj ht19
   exact ⟨_, Gst.trans (Gst.only [0, 4, 5, 9, 10, 11] rfl) (Gst.pick [0] rfl rfl), v24, rfl⟩
 refine T.region ?_
 refine TL.op1 (OpR.pure rfl) rfl ?_
 refine TL.op1 (OpR.loadPtr 1 rfl rfl rfl rfl) rfl ?_
 refine TL.op1 (OpR.pure rfl) rfl ?_
 refine TL.op1 (OpR.pure rfl) rfl ?_
 rcases ite_some ht15 with ⟨c16, ht15⟩ | ⟨c16, ht15⟩
 rotate_left
 · refine TL.off rfl rfl rfl rfl (decide_eq_false c16) rfl rfl ?_
   refine TL.off rfl rfl rfl rfl (decide_eq_false c16) rfl rfl ?_
   refine TL.off rfl rfl rfl rfl (decide_eq_false c16) rfl rfl ?_
   refine TL.op1 (OpR.pickF rfl (decide_eq_false c16) rfl) rfl ?_
   refine TL.op1 (OpR.pure rfl) rfl ?_
   refine TL.off rfl rfl rfl rfl rfl rfl rfl ?_
   refine TL.off rfl rfl rfl rfl rfl rfl rfl ?_
   refine TL.off rfl rfl rfl rfl rfl rfl rfl ?_
   refine TL.off rfl rfl rfl rfl rfl rfl rfl ?_
   refine TL.off rfl rfl rfl rfl rfl rfl rfl ?_
   refine TL.op1 (OpR.pickF rfl rfl rfl) rfl ?_
   refine TL.op1 (OpR.pure rfl) rfl ?_
   refine TL.off rfl rfl rfl rfl rfl rfl rfl ?_
   refine TL.off rfl rfl rfl rfl rfl rfl rfl ?_
   refine TL.off rfl rfl rfl rfl rfl rfl rfl ?_
   refine TL.off rfl rfl rfl rfl rfl rfl rfl ?_
   refine TL.off rfl rfl rfl rfl rfl rfl rfl ?_
   refine TL.off rfl rfl rfl rfl rfl rfl rfl ?_
   refine TL.off rfl rfl rfl rfl rfl rfl rfl ?_
   refine TL.off rfl rfl rfl rfl rfl rfl rfl ?_
   refine TL.op1 (OpR.pickF rfl rfl rfl) rfl ?_
   refine TL.nil ?_
   obtain rfl := Option.some.inj ht15
   exact ⟨_, Gst.only [0, 4, 5, 7, 9, 10, 11, 39] rfl, rfl⟩
 refine TL.on rfl rfl rfl rfl (decide_eq_true c16) ?_
 refine TL.op1 (OpR.pure rfl) rfl ?_
 refine TL.on rfl rfl rfl rfl (decide_eq_true c16) ?_
 refine TL.op1 (OpR.loadPtr 1 rfl rfl rfl rfl) rfl ?_
 refine TL.on rfl rfl rfl rfl (decide_eq_true c16) ?_
 refine TL.op1 (OpR.pure rfl) rfl ?_
 refine TL.op1 (OpR.pickT rfl (decide_eq_true c16) rfl) rfl ?_
 refine TL.op1 (OpR.pure rfl) rfl ?_
 rcases ite_some ht15 with ⟨c17, ht15⟩ | ⟨c17, ht15⟩
 rotate_left
 · refine TL.off rfl rfl rfl rfl (decide_eq_false c17) rfl rfl ?_
   refine TL.off rfl rfl rfl rfl (decide_eq_false c17) rfl rfl ?_
   refine TL.off rfl rfl rfl rfl (decide_eq_false c17) rfl rfl ?_
   refine TL.off rfl rfl rfl rfl (decide_eq_false c17) rfl rfl ?_
   refine TL.off rfl rfl rfl rfl (decide_eq_false c17) rfl rfl ?_
   refine TL.op1 (OpR.pickF rfl (decide_eq_false c17) rfl) rfl ?_
   refine TL.op1 (OpR.pure rfl) rfl ?_
   refine TL.off rfl rfl rfl rfl rfl rfl rfl ?_
   refine TL.off rfl rfl rfl rfl rfl rfl rfl ?_
   refine TL.off rfl rfl rfl rfl rfl rfl rfl ?_
   refine TL.off rfl rfl rfl rfl rfl rfl rfl ?_
   refine TL.off rfl rfl rfl rfl rfl rfl rfl ?_
   refine TL.off rfl rfl rfl rfl rfl rfl rfl ?_
   refine TL.off rfl rfl rfl rfl rfl rfl rfl ?_
   refine TL.off rfl rfl rfl rfl rfl rfl rfl ?_
   refine TL.op1 (OpR.pickF rfl rfl rfl) rfl ?_
   refine TL.nil ?_
   obtain rfl := Option.some.inj ht15
   exact ⟨_, Gst.only [0, 4, 5, 7, 9, 10, 11, 39] rfl, rfl⟩
 refine TL.on rfl rfl rfl rfl (decide_eq_true c17) ?_
 refine TL.op1 (OpR.pure rfl) rfl ?_
 refine TL.on rfl rfl rfl rfl (decide_eq_true c17) ?_
 refine TL.op1 (OpR.loadPtr 1 rfl rfl rfl rfl) rfl ?_
 refine TL.on rfl rfl rfl rfl (decide_eq_true c17) ?_
 refine TL.op1 (OpR.pure rfl) rfl ?_
 refine TL.on rfl rfl rfl rfl (decide_eq_true c17) ?_
 refine TL.op1 (OpR.cast (OpR.pure rfl) (intE (lenM _ _))) rfl ?_
 refine TL.on rfl rfl rfl rfl (decide_eq_true c17) ?_
 refine TL.op1 (OpR.pure rfl) rfl ?_
 refine TL.op1 (OpR.pickT rfl (decide_eq_true c17) rfl) rfl ?_
 refine TL.op1 (OpR.pure rfl) rfl ?_
 rcases ite_some ht15 with ⟨c18, ht15⟩ | ⟨c18, ht15⟩
 rotate_left
 · refine TL.off rfl rfl rfl rfl (decide_eq_false c18) rfl rfl ?_
   refine TL.off rfl rfl rfl rfl (decide_eq_false c18) rfl rfl ?_
   refine TL.off rfl rfl rfl rfl (decide_eq_false c18) rfl rfl ?_
   refine TL.off rfl rfl rfl rfl (decide_eq_false c18) rfl rfl ?_
   refine TL.off rfl rfl rfl rfl (decide_eq_false c18) rfl rfl ?_
   refine TL.off rfl rfl rfl rfl (decide_eq_false c18) rfl rfl ?_
   refine TL.off rfl rfl rfl rfl (decide_eq_false c18) rfl rfl ?_
   refine TL.off rfl rfl rfl rfl (decide_eq_false c18) rfl rfl ?_
   refine TL.op1 (OpR.pickF rfl (decide_eq_false c18) rfl) rfl ?_
   refine TL.nil ?_
   obtain rfl := Option.some.inj ht15
   exact ⟨_, Gst.only [0, 4, 5, 7, 9, 10, 11, 39] rfl, rfl⟩
 refine TL.on rfl rfl rfl rfl (decide_eq_true c18) ?_
 refine TL.op1 (OpR.pure rfl) rfl ?_
 refine TL.on rfl rfl rfl rfl (decide_eq_true c18) ?_
 refine TL.op1 (OpR.loadPtr 1 rfl rfl rfl rfl) rfl ?_
 refine TL.on rfl rfl rfl rfl (decide_eq_true c18) ?_
 refine TL.op1 (OpR.pure rfl) rfl ?_
 refine TL.on rfl rfl rfl rfl (decide_eq_true c18) ?_
 refine TL.op1 (OpR.cast (OpR.pure rfl) (intE (lenM _ _))) rfl ?_
 refine TL.on rfl rfl rfl rfl (decide_eq_true c18) ?_
 refine TL.op1 (OpR.pure rfl) rfl ?_
 refine TL.on rfl rfl rfl rfl (decide_eq_true c18) ?_
 refine TL.op1 (OpR.loadPtr 1 rfl rfl rfl rfl) rfl ?_
 refine TL.on rfl rfl rfl rfl (decide_eq_true c18) ?_
 refine TL.op1 (OpR.pure rfl) rfl ?_
 refine TL.on rfl rfl rfl rfl (decide_eq_true c18) ?_
 refine TL.op1 (OpR.pure rfl) rfl ?_
 refine TL.op1 (OpR.pickT rfl (decide_eq_true c18) rfl) rfl ?_
 refine TL.nil ?_
 obtain rfl := Option.some.inj ht15
 exact ⟨_, Gst.only [0, 4, 5, 7, 9, 10, 11, 39] rfl, rfl⟩
noncomputable def quote_Read (a0 : List UInt8) : Option ((List UInt8) × Int) :=
  bnd (scan_One a0 0) fun x1 =>
  if (x1.1.fFields.length : Int) = 0 then
    some ([], 0)
  else
    bnd (idx x1.1.fFields 0) fun x4 =>
    bnd (scan_Value a0 x4) fun x7 =>
    some (x7, x4.fKind)
set_option maxHeartbeats 4000000 in
theorem quote_Read_c {a0 : List UInt8} {res : (List UInt8) × Int} (h0 : quote_Read a0 = some res) : CallF X 21 [.sl 1 (List.map byteD a0)] [] (fun x => .tup [.sl 1 (List.map byteD res.1), .val (.int .i64 res.2)]) (fun x => []) := by
 unfold quote_Read at h0
 refine CallF.mkG (X := X) Try.func21 rfl rfl Try.ntmps21 rfl rfl ?_
 refine T.seq ?_
 refine T.region ?_
 refine TL.op1 (OpR.pure rfl) rfl ?_
 refine TL.op1 (OpR.pure rfl) rfl ?_
 refine TL.nil ?_
 show T X _ _ _
 refine T.seq ?_
 refine T.region ?_
 refine TL.op1 (OpR.pure rfl) rfl ?_
 obtain ⟨x1, hx1, h0⟩ := bnd_some h0
 refine TL.op1 (OpR.call0 fn54 (scan_One_c hx1) rfl) rfl ?_
 refine TL.op1 (OpR.pure rfl) rfl ?_
 refine TL.op1 (OpR.pure rfl) rfl ?_
 refine TL.op1 (OpR.pure rfl) rfl ?_
 refine TL.op (OpR.alloc rfl rfl (fun _ => rfl)) rfl (fun p2 => ?_)
 refine TL.op0 (OpR.store 0 rfl rfl rfl rfl rfl rfl rfl rfl) ?_
 refine TL.op1 (OpR.pure rfl) rfl ?_
 refine TL.nil ?_
 show T X _ _ _
 refine T.seq ?_
 refine T.seq ?_
 refine T.region ?_
 refine TL.op1 (OpR.pure rfl) rfl ?_
 refine TL.op1 (OpR.loadPtr 0 rfl rfl rfl rfl) rfl ?_
 refine TL.op1 (OpR.cast (OpR.pure rfl) (intE (lenM _ _))) rfl ?_
 refine TL.op1 (OpR.pure rfl) rfl ?_
 refine TL.nil ?_
 show T X _ _ _
 rcases ite_some h0 with ⟨c3, h0⟩ | ⟨c3, h0⟩
 · refine T.condT rfl (beq_iff_eq.2 c3) ?_
   refine T.seq ?_
   refine T.region ?_
   refine TL.op1 (OpR.pure rfl) rfl ?_
   refine TL.op1 (OpR.pure rfl) rfl ?_
   refine TL.nil ?_
   show T X _ _ _
   refine T.ret ?_
   obtain rfl := Option.some.inj h0
   exact PostG.retP (ks := []) (Gst.trans (Gst.only [2, 3] rfl) (Gst.trans (Gst.denil (ReS.cons Re.refl (ReS.cons (Re.base .nil) ReS.nil)) (ReO.same ReO.nil)) (Gst.pick [] rfl rfl))) undef (ResL.cons (ResV.tmp rfl) (ResL.cons (ResV.tmp rfl) ResL.nil)) rfl rfl rfl rfl
 refine T.condF rfl (beq_eq_false_iff_ne.2 c3) ?_
 refine T.skip ?_
 show T X _ _ _
 refine T.seq ?_
 refine T.region ?_
 refine TL.op1 (OpR.pure rfl) rfl ?_
 refine TL.op1 (OpR.loadPtr 0 rfl rfl rfl rfl) rfl ?_
 obtain ⟨x4, hx4, h0⟩ := bnd_some h0
 refine TL.op1 (OpR.indexM e_scan_Field hx4 rfl rfl rfl rfl rfl) rfl ?_
 refine TL.op1 (OpR.pure rfl) rfl ?_
 refine TL.op (OpR.alloc rfl rfl (fun _ => rfl)) rfl (fun p5 => ?_)
 refine TL.op0 (OpR.store 1 rfl rfl rfl rfl rfl rfl rfl rfl) ?_
 refine TL.nil ?_
 show T X _ _ _
 refine T.seq ?_
 obtain ⟨x7, hx7, h0⟩ := bnd_some h0
 refine T.drawQ drawsX [.sl 1 (List.map byteD a0), .agg [.val (.int .i64 x4.fRaw.fAt), .val (.int .i64 x4.fRaw.fN), .val (.int .i64 x4.fKind), .sl 2 (List.map e_arena_Span x4.fParts)], .sl 1 (List.map byteD x7), .val (.pointer (some ⟨(blk p5), 2, none⟩)), .val (.int .i64 x4.fKind), .sl 1 (List.map byteD x7), .val (.int .i64 x4.fKind)] [0, 2, 3, 4, 5, 6, 7, 8, 9, 10, 11, 12, 13, 14, 15, 16, 17, 18, 19, 20, 21, 22, 23, 24] (by decide +kernel) rfl ?_ rfl ?_
 rotate_left
 · show T X _ _ _
   refine T.ret ?_
   obtain rfl := Option.some.inj h0
   exact PostG.retP (ks := []) (Gst.trans (Gst.only [2, 3] rfl) (Gst.pick [] rfl rfl)) undef (ResL.cons (ResV.tmp rfl) (ResL.cons (ResV.tmp rfl) ResL.nil)) rfl rfl rfl rfl
 refine OpsQ.yes (Want.plain rfl) rfl (OpR.pure rfl) ?_
 refine OpsQ.yes (Want.plain rfl) rfl (OpR.loadPtr 1 rfl rfl rfl rfl) ?_
 refine OpsQ.yes (Want.plain rfl) rfl (OpR.call0 fn30 (scan_Value_c hx7) rfl) ?_
 refine OpsQ.yes (Want.plain rfl) rfl (OpR.pure rfl) ?_
 refine OpsQ.yes (Want.plain rfl) rfl (OpR.loadPtr 1 rfl rfl rfl rfl) ?_
 refine OpsQ.yes (Want.plain rfl) rfl (OpR.pure rfl) ?_
 refine OpsQ.yes (Want.plain rfl) rfl (OpR.pure rfl) ?_
 exact OpsQ.nil
end Go.Proofs.Ytkjcogmngoogcaa.S
