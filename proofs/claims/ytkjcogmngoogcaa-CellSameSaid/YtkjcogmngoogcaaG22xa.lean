/- Printed by a program of this session's own (gen.py): Lean functions for Go functions, and the proofs that the Go code comes to their answers. -/
import Derived.Test.YtkjcogmngoogcaaG21xa
import Derived.Test.YtkjcogmngoogcaaG17xa
import Derived.Test.YtkjcogmngoogcaaG15xa
import Derived.Test.YtkjcogmngoogcaaG23xa
set_option linter.unusedVariables false
set_option linter.unusedSimpArgs false
set_option maxRecDepth 20000
namespace Go.Proofs.Ytkjcogmngoogcaa.S
open Go Go.Sm
attribute [local irreducible] T TL OpR CallT iter loop
noncomputable def arena_Arena_Right_nil (a0 : arena_Span) : Option Bool :=
  some false
set_option maxHeartbeats 4000000 in
theorem arena_Arena_Right_nil_c {a0 : arena_Span} {res : Bool} (h0 : arena_Arena_Right_nil a0 = some res) : CallF X 96 [.val (.pointer none), .agg [.val (.int .i64 a0.fAt), .val (.int .i64 a0.fN)]] [] (fun x => .val (.bool res)) (fun x => []) := by
 unfold arena_Arena_Right_nil at h0
 refine CallF.mkG (X := X) Try.func96 rfl rfl Try.ntmps96 rfl rfl ?_
 refine T.seq ?_
 refine T.region ?_
 refine TL.op1 (OpR.boxImm rfl rfl) rfl ?_
 refine TL.op1 (OpR.pure rfl) rfl ?_
 refine TL.nil ?_
 show T X _ _ _
 refine T.seq ?_
 refine T.seq ?_
 refine T.region ?_
 refine TL.op1 (OpR.pure rfl) rfl ?_
 refine TL.op1 (OpR.ptrNil rfl rfl rfl) rfl ?_
 refine TL.nil ?_
 show T X _ _ _
 refine T.condT rfl rfl ?_
 refine T.seq ?_
 refine T.region ?_
 refine TL.op1 (OpR.pure rfl) rfl ?_
 refine TL.nil ?_
 show T X _ _ _
 refine T.ret ?_
 obtain rfl := Option.some.inj h0
 exact PostG.retP (ks := []) (Gst.only [4] rfl) undef (ResL.cons (ResV.tmp rfl) ResL.nil) rfl rfl rfl rfl
noncomputable def arena_Arena_part_nil (a0 : arena_Span) : Option (List UInt8) :=
  bnd (arena_Arena_Right_nil a0) fun x1 =>
  if x1 = true then
    none
  else
    some []
set_option maxHeartbeats 4000000 in
theorem arena_Arena_part_nil_c {a0 : arena_Span} {res : (List UInt8)} (h0 : arena_Arena_part_nil a0 = some res) : CallF X 85 [.val (.pointer none), .agg [.val (.int .i64 a0.fAt), .val (.int .i64 a0.fN)]] [] (fun x => .sl 1 (List.map byteD res)) (fun x => []) := by
 unfold arena_Arena_part_nil at h0
 refine CallF.mkG (X := X) Try.func85 rfl rfl Try.ntmps85 rfl rfl ?_
 refine T.seq ?_
 refine T.region ?_
 refine TL.op1 (OpR.boxImm rfl rfl) rfl ?_
 refine TL.op1 (OpR.pure rfl) rfl ?_
 refine TL.nil ?_
 show T X _ _ _
 refine T.seq ?_
 refine T.seq ?_
 refine T.region ?_
 refine TL.op1 (OpR.pure rfl) rfl ?_
 refine TL.op1 (OpR.pure rfl) rfl ?_
 obtain ⟨x1, hx1, h0⟩ := bnd_some h0
 refine TL.op1 (OpR.call0 fn96 (arena_Arena_Right_nil_c hx1) rfl) rfl ?_
 refine TL.op1 (OpR.pure rfl) rfl ?_
 refine TL.nil ?_
 show T X _ _ _
 rcases ite_some h0 with ⟨c2, h0⟩ | ⟨c2, h0⟩
 · refine T.condF rfl (not_t (c2)) ?_
   refine T.skip ?_
   show T X _ _ _
   refine T.seq ?_
   exact (by cases h0)
 refine T.condT rfl (not_f (eq_false_of_ne_true c2)) ?_
 refine T.seq ?_
 refine T.region ?_
 refine TL.op1 (OpR.pure rfl) rfl ?_
 refine TL.nil ?_
 show T X _ _ _
 refine T.ret ?_
 obtain rfl := Option.some.inj h0
 exact PostG.retP (ks := []) (Gst.trans (Gst.only [4] rfl) (Gst.denil (ReS.cons (Re.base .nil) ReS.nil) ReO.nil)) undef (ResL.cons (ResV.tmp rfl) ResL.nil) rfl rfl rfl rfl
noncomputable def arena_Arena_Bytes_nil (a0 : arena_Span) : Option (List UInt8) :=
  bnd (arena_Arena_part_nil a0) fun x1 =>
  bnd (mkz 1 (x1.length : Int) (0 : UInt8)) fun x2 =>
  some (over x2 x1)
set_option maxHeartbeats 4000000 in
theorem arena_Arena_Bytes_nil_c {a0 : arena_Span} {res : (List UInt8)} (h0 : arena_Arena_Bytes_nil a0 = some res) : CallF X 72 [.val (.pointer none), .agg [.val (.int .i64 a0.fAt), .val (.int .i64 a0.fN)]] [] (fun x => .sl 1 (List.map byteD res)) (fun x => []) := by
 unfold arena_Arena_Bytes_nil at h0
 refine CallF.mkG (X := X) Try.func72 rfl rfl Try.ntmps72 rfl rfl ?_
 refine T.seq ?_
 refine T.region ?_
 refine TL.op1 (OpR.boxImm rfl rfl) rfl ?_
 refine TL.op1 (OpR.pure rfl) rfl ?_
 refine TL.nil ?_
 show T X _ _ _
 refine T.seq ?_
 refine T.region ?_
 refine TL.op1 (OpR.pure rfl) rfl ?_
 refine TL.op1 (OpR.pure rfl) rfl ?_
 obtain ⟨x1, hx1, h0⟩ := bnd_some h0
 refine TL.op1 (OpR.call0 fn85 (arena_Arena_part_nil_c hx1) rfl) rfl ?_
 refine TL.op1 (OpR.pure rfl) rfl ?_
 refine TL.nil ?_
 show T X _ _ _
 refine T.seq ?_
 refine T.region ?_
 refine TL.op1 (OpR.pure rfl) rfl ?_
 refine TL.op1 (OpR.cast (OpR.pure rfl) (intE (lenM _ _))) rfl ?_
 obtain ⟨x2, hx2, h0⟩ := bnd_some h0
 refine TL.op (OpR.makeM byteD hx2 rfl rfl rfl rfl rfl rfl rfl rfl rfl rfl rfl (fun _ => rfl)) rfl (fun v3 => ?_)
 refine TL.op1 (OpR.pure rfl) rfl ?_
 refine TL.nil ?_
 show T X _ _ _
 refine T.seq ?_
 refine T.region ?_
 refine TL.op1 (OpR.pure rfl) rfl ?_
 refine TL.op1 (OpR.pure rfl) rfl ?_
 refine TL.op1 (OpR.copyM byteD 0 rfl rfl rfl rfl rfl rfl rfl rfl) rfl ?_
 refine TL.nil ?_
 show T X _ _ _
 refine T.seq ?_
 refine T.region ?_
 refine TL.op1 (OpR.pure rfl) rfl ?_
 refine TL.op1 (OpR.pure rfl) rfl ?_
 refine TL.nil ?_
 show T X _ _ _
 refine T.ret ?_
 obtain rfl := Option.some.inj h0
 exact PostG.retP (ks := []) (Gst.trans (Gst.only [4] rfl) (Gst.trans (Gst.freezeRow 0 rfl rfl (ReS.cons (Re.base .all) ReS.nil) (ReO.same ReO.nil)) (Gst.pick [] rfl rfl))) undef (ResL.cons (ResV.tmp rfl) ResL.nil) rfl rfl rfl rfl
noncomputable def piece_Text_Flat_nil.l1 (a0 : piece_Text) (s4 : Int × (List UInt8)) : Option (Lp (Int × (List UInt8)) (List UInt8)) :=
  if s4.1 < (a0.fL.length : Int) then
    bnd (idx a0.fL s4.1) fun x13 =>
    bnd (arena_Arena_Bytes_nil x13) fun x15 =>
    bnd (app 1 s4.2 x15) fun x16 =>
    some (Lp.next (w64 (s4.1 + 1), x16))
  else
    some (Lp.done s4.2)
noncomputable def piece_Text_Flat_nil (a0 : piece_Text) : Option (List UInt8) :=
  bnd (loop (piece_Text_Flat_nil.l1 a0) (0, []) : Option (List UInt8)) fun t1 =>
  some t1
set_option maxHeartbeats 4000000 in
theorem piece_Text_Flat_nil_c {a0 : piece_Text} {res : (List UInt8)} (h0 : piece_Text_Flat_nil a0 = some res) : CallF X 40 [.agg [.sl 2 (List.map e_arena_Span a0.fL), .val (.int .i64 a0.fN)], .val (.pointer none)] [] (fun x => .sl 1 (List.map byteD res)) (fun x => []) := by
 unfold piece_Text_Flat_nil at h0
 refine CallF.mkG (X := X) Try.func40 rfl rfl Try.ntmps40 rfl rfl ?_
 refine T.seq ?_
 refine T.region ?_
 refine TL.op1 (OpR.boxImm rfl rfl) rfl ?_
 refine TL.op1 (OpR.pure rfl) rfl ?_
 refine TL.nil ?_
 show T X _ _ _
 refine T.seq ?_
 refine T.region ?_
 refine TL.op1 (OpR.pure rfl) rfl ?_
 refine TL.nil ?_
 show T X _ _ _
 refine T.seq ?_
 refine T.seq ?_
 refine T.region ?_
 refine TL.op1 (OpR.pure rfl) rfl ?_
 refine TL.op1 (OpR.pure rfl) rfl ?_
 refine TL.op1 (OpR.cast (OpR.pure rfl) (intE (lenM _ _))) rfl ?_
 refine TL.op1 (OpR.pure rfl) rfl ?_
 refine TL.nil ?_
 show T X _ _ _
 obtain ⟨t1, ht1, h0⟩ := bnd_some h0
 refine T.cutC (fun S' => ∃ y2 : Value, S' = ⟨[(5, .val y2), (4, .val (.slice none 0 0))], [.row y2 (List.map byteD t1) 1 5], 22⟩) (fun _ h => h) ?_ ?_
 rotate_left
 · rintro _ ⟨y2, rfl⟩
   show T X _ _ _
   refine T.seq ?_
   refine T.region ?_
   refine TL.op1 (OpR.pure rfl) rfl ?_
   refine TL.op1 (OpR.pure rfl) rfl ?_
   refine TL.nil ?_
   show T X _ _ _
   refine T.ret ?_
   obtain rfl := Option.some.inj h0
   exact PostG.retP (ks := []) (Gst.trans (Gst.only [4] rfl) (Gst.trans (Gst.freezeRow 0 rfl rfl (ReS.cons (Re.base .all) ReS.nil) (ReO.same ReO.nil)) (Gst.pick [] rfl rfl))) undef (ResL.cons (ResV.tmp rfl) ResL.nil) rfl rfl rfl rfl
 refine T.block ?_
 obtain ⟨n5, n10⟩ := loop_some ht1
 refine T.loop (fun n S' => ∃ S'', Gst S' S'' ∧ ∃ y3 : Value, ∃ s4 : Int × (List UInt8), S'' = ⟨[(11, .val (.int .i64 s4.1)), (10, .val (.int .i64 (a0.fL.length : Int))), (9, .sl 2 (List.map e_arena_Span a0.fL)), (5, .val y3), (4, .val (.slice none 0 0)), (1, .val (.pointer none))], [.row y3 (List.map byteD s4.2) 1 5], 22⟩ ∧ iter (piece_Text_Flat_nil.l1 a0) n s4 = some t1) n5 ?_ ?_
 · exact ⟨_, Gst.trans (Gst.only [1, 4, 5, 9, 10, 11] rfl) (Gst.nilRow (ow := []) 1 5 rfl), (.slice none 0 0), (0, []), rfl, n10⟩
 rintro n5 _ ⟨_, g, y3, s4, rfl, i9⟩
 refine T.ghost g ?_
 obtain ⟨m6, q7, rfl, q8, i9⟩ := iter_succ i9
 unfold piece_Text_Flat_nil.l1 at q8
 refine T.seq ?_
 refine T.region ?_
 refine TL.op1 (OpR.pure rfl) rfl ?_
 refine TL.nil ?_
 show T X _ _ _
 refine T.seq ?_
 rcases ite_some q8 with ⟨c12, q8⟩ | ⟨c12, q8⟩
 rotate_left
 · refine T.condF rfl (decide_eq_false c12) ?_
   refine T.exit ?_
   obtain rfl := Option.some.inj q8
   obtain rfl : _ = _ := i9
   exact ⟨_, Gst.only [4, 5] rfl, y3, rfl⟩
 refine T.condT rfl (decide_eq_true c12) ?_
 refine T.skip ?_
 show T X _ _ _
 refine T.seq ?_
 refine T.block ?_
 refine T.seq ?_
 refine T.region ?_
 obtain ⟨x13, hx13, q8⟩ := bnd_some q8
 refine TL.op1 (OpR.indexM e_arena_Span hx13 rfl rfl rfl rfl rfl) rfl ?_
 refine TL.op1 (OpR.pure rfl) rfl ?_
 refine TL.op (OpR.alloc rfl rfl (fun _ => rfl)) rfl (fun p14 => ?_)
 refine TL.op0 (OpR.store 1 rfl rfl rfl rfl rfl rfl rfl rfl) ?_
 refine TL.nil ?_
 show T X _ _ _
 refine T.region ?_
 refine TL.op1 (OpR.pure rfl) rfl ?_
 refine TL.op1 (OpR.pure rfl) rfl ?_
 refine TL.op1 (OpR.loadPtr 1 rfl rfl rfl rfl) rfl ?_
 obtain ⟨x15, hx15, q8⟩ := bnd_some q8
 refine TL.op1 (OpR.call0 fn72 (arena_Arena_Bytes_nil_c hx15) rfl) rfl ?_
 obtain ⟨x16, hx16, q8⟩ := bnd_some q8
 refine TL.op (OpR.appendM (m := x15) byteD 0 hx16 rfl rfl rfl rfl rfl rfl rfl rfl rfl (fun _ => rfl)) rfl (fun v17 => ?_)
 refine TL.op1 (OpR.pure rfl) rfl ?_
 refine TL.nil ?_
 show T X _ _ _
 refine T.region ?_
 refine TL.op1 (OpR.pure rfl) rfl ?_
 refine TL.op1 (OpR.pure rfl) rfl ?_
 refine TL.nil ?_
 obtain rfl := Option.some.inj q8
 exact ⟨m6, Nat.lt_succ_self _, _, Gst.trans (Gst.only [1, 4, 5, 9, 10, 11] rfl) (Gst.pick [0] rfl rfl), v17, (w64 (s4.1 + 1), x16), rfl, i9⟩
noncomputable def cell_Cell_Bytes_nil (a0 : cell_Cell) : Option (List UInt8) :=
  bnd (piece_Text_Flat_nil a0.fText) fun x1 =>
  some x1
set_option maxHeartbeats 4000000 in
theorem cell_Cell_Bytes_nil_c {a0 : cell_Cell} {res : (List UInt8)} (h0 : cell_Cell_Bytes_nil a0 = some res) : CallF X 73 [.agg [.sl 2 (List.map e_arena_Span a0.fText.fL), .val (.int .i64 a0.fText.fN), .val (.int .i64 a0.fRaw.fAt), .val (.int .i64 a0.fRaw.fN), .val (.bool a0.fKept)], .val (.pointer none)] [] (fun x => .sl 1 (List.map byteD res)) (fun x => []) := by
 unfold cell_Cell_Bytes_nil at h0
 refine CallF.mkG (X := X) Try.func73 rfl rfl Try.ntmps73 rfl rfl ?_
 refine T.seq ?_
 refine T.region ?_
 refine TL.op1 (OpR.boxImm rfl rfl) rfl ?_
 refine TL.op1 (OpR.pure rfl) rfl ?_
 refine TL.nil ?_
 show T X _ _ _
 refine T.seq ?_
 refine T.region ?_
 refine TL.op1 (OpR.pure rfl) rfl ?_
 refine TL.op1 (OpR.pure rfl) rfl ?_
 refine TL.op1 (OpR.pure rfl) rfl ?_
 obtain ⟨x1, hx1, h0⟩ := bnd_some h0
 refine TL.op1 (OpR.call0 fn40 (piece_Text_Flat_nil_c hx1) rfl) rfl ?_
 refine TL.op1 (OpR.pure rfl) rfl ?_
 refine TL.nil ?_
 show T X _ _ _
 refine T.ret ?_
 obtain rfl := Option.some.inj h0
 exact PostG.retP (ks := []) (Gst.only [4] rfl) undef (ResL.cons (ResV.tmp rfl) ResL.nil) rfl rfl rfl rfl
noncomputable def law07_Plain_nil (a0 : cell_Cell) : Option ref07_Cell :=
  bnd (cell_Cell_Bytes_nil a0) fun x3 =>
  bnd (if a0.fKept = true then
    bnd (arena_Arena_Bytes_nil a0.fRaw) fun x6 =>
    some x6
  else
    some [] : Option (List UInt8)) fun t4 =>
  some (⟨x3, t4, a0.fKept⟩ : ref07_Cell)
set_option maxHeartbeats 4000000 in
theorem law07_Plain_nil_c {a0 : cell_Cell} {res : ref07_Cell} (h0 : law07_Plain_nil a0 = some res) : CallF X 47 [.val (.pointer none), .agg [.sl 2 (List.map e_arena_Span a0.fText.fL), .val (.int .i64 a0.fText.fN), .val (.int .i64 a0.fRaw.fAt), .val (.int .i64 a0.fRaw.fN), .val (.bool a0.fKept)]] [] (fun x => .agg [.val (.string (bs res.fS)), .val (.string (bs res.fRaw)), .val (.bool res.fKept)]) (fun x => []) := by
 unfold law07_Plain_nil at h0
 refine CallF.mkG (X := X) Try.func47 rfl rfl Try.ntmps47 rfl rfl ?_
 refine T.seq ?_
 refine T.region ?_
 refine TL.op1 (OpR.boxImm rfl rfl) rfl ?_
 refine TL.op (OpR.alloc rfl rfl (fun _ => rfl)) rfl (fun p1 => ?_)
 refine TL.nil ?_
 show T X _ _ _
 refine T.seq ?_
 obtain ⟨x3, hx3, h0⟩ := bnd_some h0
 refine T.drawS drawsX (fun env2 => [.agg [.sl 2 (List.map e_arena_Span a0.fText.fL), .val (.int .i64 a0.fText.fN), .val (.int .i64 a0.fRaw.fAt), .val (.int .i64 a0.fRaw.fN), .val (.bool a0.fKept)], .val (.pointer none), .sl 1 (List.map byteD x3), .val (.string (bs x3)), .nod [.val (.bool a0.fKept)], .val (.bool a0.fKept), .agg [.val (.string (bs x3)), .val (.string (bs [])), .val (.bool a0.fKept)], .val (.pointer (some ⟨(blk (env2 7)), 0, none⟩)), .dead]) (fun D env2 => [.var (blk p1) [.val (.string (bs [])), .val (.string (bs [])), .val (.bool false)] 87] ++ (bif D 7 then [(bif D 8 then .var (blk (env2 7)) [.val (.string (bs x3)), .val (.string (bs [])), .val (.bool a0.fKept)] 87 else .var (blk (env2 7)) [.val (.string (bs [])), .val (.string (bs [])), .val (.bool false)] 87)] else [])) [0, 0, 3, 7, 0, 16, 63, 0, 255] [0, 1, 3, 4, 5, 6, 7, 8, 9, 10, 11, 12] (fun env2 => [.var (blk p1) [.val (.string (bs [])), .val (.string (bs [])), .val (.bool false)] 87, .var (blk (env2 7)) [.val (.string (bs x3)), .val (.string (bs [])), .val (.bool a0.fKept)] 87]) (by decide +kernel) (by decide +kernel) (fun _ => rfl) (fun _ => rfl) ?_ (fun _ => rfl) (fun _ => rfl) ?_
 rotate_left
 · intro env2
   show T X _ _ _
   refine T.seq ?_
   refine T.seq ?_
   refine T.region ?_
   refine TL.op1 (OpR.pure rfl) rfl ?_
   refine TL.op1 (OpR.pure rfl) rfl ?_
   refine TL.nil ?_
   show T X _ _ _
   obtain ⟨t4, ht4, h0⟩ := bnd_some h0
   refine T.cutC (fun S' => S' = ⟨[(5, .val (.pointer (some ⟨(blk (env2 7)), 0, none⟩))), (4, .val (.pointer (some ⟨(blk p1), 0, none⟩)))], [.var (blk p1) [.val (.string (bs [])), .val (.string (bs [])), .val (.bool false)] 87, .var (blk (env2 7)) [.val (.string (bs x3)), .val (.string (bs t4)), .val (.bool a0.fKept)] 87], 22⟩) (fun _ h => h) ?_ ?_
   rotate_left
   · rintro _ rfl
     show T X _ _ _
     refine T.seq ?_
     refine T.region ?_
     refine TL.op1 (OpR.loadPtr 1 rfl rfl rfl rfl) rfl ?_
     refine TL.op0 (OpR.store 0 rfl rfl rfl rfl rfl rfl rfl rfl) ?_
     refine TL.nil ?_
     show T X _ _ _
     refine T.ret ?_
     obtain rfl := Option.some.inj h0
     exact PostG.retP (ks := []) (Gst.trans (Gst.only [4] rfl) (Gst.pick [0] rfl rfl)) undef (ResL.cons (ResV.var 0 rfl rfl rfl rfl) ResL.nil) rfl rfl rfl rfl
   rcases ite_some ht4 with ⟨c5, ht4⟩ | ⟨c5, ht4⟩
   rotate_left
   · refine T.condF rfl (eq_false_of_ne_true c5) ?_
     refine T.skip ?_
     obtain rfl := Option.some.inj ht4
     exact ⟨_, Gst.only [4, 5] rfl, rfl⟩
   refine T.condT rfl (c5) ?_
   refine T.region ?_
   refine TL.op1 (OpR.pure rfl) rfl ?_
   refine TL.op1 (OpR.pure rfl) rfl ?_
   refine TL.op1 (OpR.pure rfl) rfl ?_
   obtain ⟨x6, hx6, ht4⟩ := bnd_some ht4
   refine TL.op1 (OpR.call0 fn72 (arena_Arena_Bytes_nil_c hx6) rfl) rfl ?_
   refine TL.op1 (OpR.toStr (bs := x6) rfl rfl rfl rfl rfl rfl rfl) rfl ?_
   refine TL.op1 (OpR.pure rfl) rfl ?_
   refine TL.op0 (OpR.store 1 rfl rfl rfl rfl rfl rfl rfl rfl) ?_
   refine TL.nil ?_
   obtain rfl := Option.some.inj ht4
   exact ⟨_, Gst.only [4, 5] rfl, rfl⟩
 refine oS (d := .agg [.sl 2 (List.map e_arena_Span a0.fText.fL), .val (.int .i64 a0.fText.fN), .val (.int .i64 a0.fRaw.fAt), .val (.int .i64 a0.fRaw.fN), .val (.bool a0.fKept)]) (fun _ => Want.plain rfl) (fun _ => rfl) (fun _ _ _ => rfl) (fun _ _ => OpR.pure rfl) (fun _ _ _ _ _ _ _ => rfl) ?_
 refine oS (d := .val (.pointer none)) (fun _ => Want.plain rfl) (fun _ => rfl) (fun _ _ _ => rfl) (fun _ _ => OpR.pure rfl) (fun _ _ _ _ _ _ _ => rfl) ?_
 refine oS (d := .sl 1 (List.map byteD x3)) (fun _ => Want.plain rfl) (fun _ => rfl) (fun _ _ _ => rfl) (fun _ _ => OpR.call0 fn73 (cell_Cell_Bytes_nil_c hx3) rfl) (fun _ _ _ _ _ _ _ => rfl) ?_
 refine oS (d := .val (.string (bs x3))) (fun _ => Want.plain rfl) (fun _ => rfl) (fun _ _ _ => rfl) (fun _ _ => OpR.toStr (bs := x3) rfl rfl rfl rfl rfl rfl rfl) (fun _ _ _ _ _ _ _ => rfl) ?_
 refine oS (d := .nod [.val (.bool a0.fKept)]) (fun _ => Want.plain rfl) (fun _ => rfl) (fun _ _ _ => rfl) (fun _ _ => OpR.pure rfl) (fun _ _ _ _ _ _ _ => rfl) ?_
 refine oS (d := .val (.bool a0.fKept)) (fun _ => Want.plain rfl) (fun _ => rfl) (fun _ _ _ => rfl) (fun _ _ => OpR.pure rfl) (fun _ _ _ _ _ _ _ => rfl) ?_
 refine oS (d := .agg [.val (.string (bs x3)), .val (.string (bs [])), .val (.bool a0.fKept)]) (fun _ => Want.plain rfl) (fun _ => rfl) (fun _ _ _ => rfl) (fun _ _ => OpR.build rfl rfl rfl rfl rfl) (fun _ _ _ _ _ _ _ => rfl) ?_
 refine OpsS.cons' true ?_ (fun D hA env2 x j hj hD => match j, hj, hD with | 0, _, _ => rfl | 1, _, _ => rfl | 2, _, _ => rfl | 3, _, _ => rfl | 4, _, _ => rfl | 5, _, _ => rfl | 6, _, _ => rfl | 7, hj, _ => absurd rfl hj | 8, _, _ => rfl | _ + 9, _, _ => rfl) ?_
 · intro D env2 hA
   have e8 : D 8 = false := hA.no 8 _ rfl rfl
   exact OpS.yes (o0 := [.var (blk p1) [.val (.string (bs [])), .val (.string (bs [])), .val (.bool false)] 87]) (o1 := fun x => [.var (blk p1) [.val (.string (bs [])), .val (.string (bs [])), .val (.bool false)] 87, .var (blk x) [.val (.string (bs [])), .val (.string (bs [])), .val (.bool false)] 87]) (d := fun x => .val (.pointer (some ⟨(blk x), 0, none⟩))) (Want.plain rfl) (by first | rfl | simp only [e8, hA.me, cond_true, cond_false, List.cons_append, List.nil_append, List.append_nil]) (fun x => by first | rfl | simp only [ins_self, ins_ne D (show 7 ≠ 8 by decide), upd_self, e8, hA.me, cond_true, cond_false, List.cons_append, List.nil_append, List.append_nil]) (fun x => rfl) (OpR.alloc rfl rfl (fun _ => rfl))
 refine OpsS.cons' true ?_ (fun _ _ _ _ _ _ _ => rfl) ?_
 · intro D env2 hA
   have e7 : D 7 = true := hA.yes 7 _ rfl rfl
   exact OpS.yes (o0 := [.var (blk p1) [.val (.string (bs [])), .val (.string (bs [])), .val (.bool false)] 87, .var (blk (env2 7)) [.val (.string (bs [])), .val (.string (bs [])), .val (.bool false)] 87]) (o1 := fun x => [.var (blk p1) [.val (.string (bs [])), .val (.string (bs [])), .val (.bool false)] 87, .var (blk (env2 7)) [.val (.string (bs x3)), .val (.string (bs [])), .val (.bool a0.fKept)] 87]) (d := fun x => .dead) (Want.plain rfl) (by first | rfl | simp only [e7, hA.me, cond_true, cond_false, List.cons_append, List.nil_append, List.append_nil]) (fun x => by first | rfl | simp only [ins_self, ins_ne D (show 8 ≠ 7 by decide), upd_self, upd_ne env2 x (show 8 ≠ 7 by decide), e7, hA.me, cond_true, cond_false, List.cons_append, List.nil_append, List.append_nil]) (fun x => rfl) (OpR.store 1 rfl rfl rfl rfl rfl rfl rfl rfl)
 exact trivial
noncomputable def cell_Same_nil (a0 : cell_Cell) (a1 : cell_Cell) : Option Bool :=
  bnd (if (a0.fKept == a1.fKept) = true then
    bnd (cell_Cell_Bytes_nil a0) fun x4 =>
    bnd (cell_Cell_Bytes_nil a1) fun x5 =>
    bnd (bytes_Equal x4 x5) fun x6 =>
    some (!x6)
  else
    some true : Option Bool) fun t1 =>
  if t1 = true then
    some false
  else
    bnd (if a0.fKept = true then
      bnd (arena_Arena_Bytes_nil a0.fRaw) fun x11 =>
      bnd (arena_Arena_Bytes_nil a1.fRaw) fun x12 =>
      bnd (bytes_Equal x11 x12) fun x13 =>
      some x13
    else
      some true : Option Bool) fun t8 =>
    some t8
set_option maxHeartbeats 4000000 in
theorem cell_Same_nil_c {a0 : cell_Cell} {a1 : cell_Cell} {res : Bool} (h0 : cell_Same_nil a0 a1 = some res) : CallF X 48 [.val (.pointer none), .agg [.sl 2 (List.map e_arena_Span a0.fText.fL), .val (.int .i64 a0.fText.fN), .val (.int .i64 a0.fRaw.fAt), .val (.int .i64 a0.fRaw.fN), .val (.bool a0.fKept)], .agg [.sl 2 (List.map e_arena_Span a1.fText.fL), .val (.int .i64 a1.fText.fN), .val (.int .i64 a1.fRaw.fAt), .val (.int .i64 a1.fRaw.fN), .val (.bool a1.fKept)]] [] (fun x => .val (.bool res)) (fun x => []) := by
 unfold cell_Same_nil at h0
 refine CallF.mkG (X := X) Try.func48 rfl rfl Try.ntmps48 rfl rfl ?_
 refine T.seq ?_
 refine T.region ?_
 refine TL.op1 (OpR.boxImm rfl rfl) rfl ?_
 refine TL.op1 (OpR.boxImm rfl rfl) rfl ?_
 refine TL.op1 (OpR.pure rfl) rfl ?_
 refine TL.nil ?_
 show T X _ _ _
 refine T.seq ?_
 refine T.seq ?_
 obtain ⟨t1, ht1, h0⟩ := bnd_some h0
 refine T.cutC (fun S' => S' = ⟨[(21, .val (.bool t1)), (6, .val (.bool false)), (5, .nod [.sl 2 (List.map e_arena_Span a1.fText.fL), .val (.int .i64 a1.fText.fN), .val (.int .i64 a1.fRaw.fAt), .val (.int .i64 a1.fRaw.fN), .val (.bool a1.fKept)]), (4, .nod [.sl 2 (List.map e_arena_Span a0.fText.fL), .val (.int .i64 a0.fText.fN), .val (.int .i64 a0.fRaw.fAt), .val (.int .i64 a0.fRaw.fN), .val (.bool a0.fKept)]), (0, .val (.pointer none))], [], 36⟩) (fun _ h => h) ?_ ?_
 · rcases ite_some ht1 with ⟨c3, ht1⟩ | ⟨c3, ht1⟩
   rotate_left
   · refine T.drawQ drawsX [.nod [.val (.bool a0.fKept)], .val (.bool a0.fKept), .nod [.val (.bool a1.fKept)], .val (.bool a1.fKept), .val (.bool (!(a0.fKept == a1.fKept))), .val (.bool (!(a0.fKept == a1.fKept))), .tup [], .tup [], .tup [], .tup [], .tup [], .tup [], .tup [], .tup [], .val (.bool true)] [0, 1, 2, 4, 5, 6, 7, 8, 9, 10, 11, 12, 13, 14, 15, 16, 17, 18, 19, 20, 21] (by decide +kernel) rfl ?_ rfl ?_
     rotate_left
     · obtain rfl := Option.some.inj ht1
       exact ⟨_, Gst.only [0, 4, 5, 6, 21] rfl, rfl⟩
     refine OpsQ.yes (Want.plain rfl) rfl (OpR.pure rfl) ?_
     refine OpsQ.yes (Want.plain rfl) rfl (OpR.pure rfl) ?_
     refine OpsQ.yes (Want.plain rfl) rfl (OpR.pure rfl) ?_
     refine OpsQ.yes (Want.plain rfl) rfl (OpR.pure rfl) ?_
     refine OpsQ.yes (Want.plain rfl) rfl (OpR.neBool rfl rfl rfl rfl) ?_
     refine OpsQ.yes (Want.plain rfl) rfl (OpR.pure rfl) ?_
     refine OpsQ.no (Want.bool rfl rfl rfl rfl (by rw [(not_f (eq_false_of_ne_true c3))]; rfl)) rfl ?_
     refine OpsQ.no (Want.bool rfl rfl rfl rfl (by rw [(not_f (eq_false_of_ne_true c3))]; rfl)) rfl ?_
     refine OpsQ.no (Want.bool rfl rfl rfl rfl (by rw [(not_f (eq_false_of_ne_true c3))]; rfl)) rfl ?_
     refine OpsQ.no (Want.bool rfl rfl rfl rfl (by rw [(not_f (eq_false_of_ne_true c3))]; rfl)) rfl ?_
     refine OpsQ.no (Want.bool rfl rfl rfl rfl (by rw [(not_f (eq_false_of_ne_true c3))]; rfl)) rfl ?_
     refine OpsQ.no (Want.bool rfl rfl rfl rfl (by rw [(not_f (eq_false_of_ne_true c3))]; rfl)) rfl ?_
     refine OpsQ.no (Want.bool rfl rfl rfl rfl (by rw [(not_f (eq_false_of_ne_true c3))]; rfl)) rfl ?_
     refine OpsQ.no (Want.bool rfl rfl rfl rfl (by rw [(not_f (eq_false_of_ne_true c3))]; rfl)) rfl ?_
     refine OpsQ.yes (Want.plain rfl) rfl (OpR.pickT rfl (not_f (eq_false_of_ne_true c3)) rfl) ?_
     exact OpsQ.nil
   obtain ⟨x4, hx4, ht1⟩ := bnd_some ht1
   obtain ⟨x5, hx5, ht1⟩ := bnd_some ht1
   obtain ⟨x6, hx6, ht1⟩ := bnd_some ht1
   refine T.drawQ drawsX [.nod [.val (.bool a0.fKept)], .val (.bool a0.fKept), .nod [.val (.bool a1.fKept)], .val (.bool a1.fKept), .val (.bool (!(a0.fKept == a1.fKept))), .val (.bool (!(a0.fKept == a1.fKept))), .agg [.sl 2 (List.map e_arena_Span a0.fText.fL), .val (.int .i64 a0.fText.fN), .val (.int .i64 a0.fRaw.fAt), .val (.int .i64 a0.fRaw.fN), .val (.bool a0.fKept)], .val (.pointer none), .sl 1 (List.map byteD x4), .agg [.sl 2 (List.map e_arena_Span a1.fText.fL), .val (.int .i64 a1.fText.fN), .val (.int .i64 a1.fRaw.fAt), .val (.int .i64 a1.fRaw.fN), .val (.bool a1.fKept)], .val (.pointer none), .sl 1 (List.map byteD x5), .val (.bool x6), .val (.bool (!x6)), .val (.bool (!x6))] [0, 1, 2, 4, 5, 6, 7, 8, 9, 10, 11, 12, 13, 14, 15, 16, 17, 18, 19, 20, 21] (by decide +kernel) rfl ?_ rfl ?_
   rotate_left
   · obtain rfl := Option.some.inj ht1
     exact ⟨_, Gst.only [0, 4, 5, 6, 21] rfl, rfl⟩
   refine OpsQ.yes (Want.plain rfl) rfl (OpR.pure rfl) ?_
   refine OpsQ.yes (Want.plain rfl) rfl (OpR.pure rfl) ?_
   refine OpsQ.yes (Want.plain rfl) rfl (OpR.pure rfl) ?_
   refine OpsQ.yes (Want.plain rfl) rfl (OpR.pure rfl) ?_
   refine OpsQ.yes (Want.plain rfl) rfl (OpR.neBool rfl rfl rfl rfl) ?_
   refine OpsQ.yes (Want.plain rfl) rfl (OpR.pure rfl) ?_
   refine OpsQ.yes (Want.bool rfl rfl rfl rfl (by rw [(not_t (c3))]; rfl)) rfl (OpR.pure rfl) ?_
   refine OpsQ.yes (Want.bool rfl rfl rfl rfl (by rw [(not_t (c3))]; rfl)) rfl (OpR.pure rfl) ?_
   refine OpsQ.yes (Want.bool rfl rfl rfl rfl (by rw [(not_t (c3))]; rfl)) rfl (OpR.call0 fn73 (cell_Cell_Bytes_nil_c hx4) rfl) ?_
   refine OpsQ.yes (Want.bool rfl rfl rfl rfl (by rw [(not_t (c3))]; rfl)) rfl (OpR.pure rfl) ?_
   refine OpsQ.yes (Want.bool rfl rfl rfl rfl (by rw [(not_t (c3))]; rfl)) rfl (OpR.pure rfl) ?_
   refine OpsQ.yes (Want.bool rfl rfl rfl rfl (by rw [(not_t (c3))]; rfl)) rfl (OpR.call0 fn73 (cell_Cell_Bytes_nil_c hx5) rfl) ?_
   refine OpsQ.yes (Want.bool rfl rfl rfl rfl (by rw [(not_t (c3))]; rfl)) rfl (OpR.call0 fn74 (bytes_Equal_c hx6) rfl) ?_
   refine OpsQ.yes (Want.bool rfl rfl rfl rfl (by rw [(not_t (c3))]; rfl)) rfl (OpR.pure rfl) ?_
   refine OpsQ.yes (Want.plain rfl) rfl (OpR.pickF rfl (not_t (c3)) rfl) ?_
   exact OpsQ.nil
 rintro _ rfl
 show T X _ _ _
 rcases ite_some h0 with ⟨c7, h0⟩ | ⟨c7, h0⟩
 · refine T.condT rfl (c7) ?_
   refine T.seq ?_
   refine T.region ?_
   refine TL.op1 (OpR.pure rfl) rfl ?_
   refine TL.nil ?_
   show T X _ _ _
   refine T.ret ?_
   obtain rfl := Option.some.inj h0
   exact PostG.retP (ks := []) (Gst.only [6] rfl) undef (ResL.cons (ResV.tmp rfl) ResL.nil) rfl rfl rfl rfl
 refine T.condF rfl (eq_false_of_ne_true c7) ?_
 refine T.skip ?_
 show T X _ _ _
 refine T.seq ?_
 obtain ⟨t8, ht8, h0⟩ := bnd_some h0
 refine T.cutC (fun S' => S' = ⟨[(6, .val (.bool t8))], [], 36⟩) (fun _ h => h) ?_ ?_
 rotate_left
 · rintro _ rfl
   show T X _ _ _
   refine T.ret ?_
   obtain rfl := Option.some.inj h0
   exact PostG.retP (ks := []) (Gst.only [6] rfl) undef (ResL.cons (ResV.tmp rfl) ResL.nil) rfl rfl rfl rfl
 rcases ite_some ht8 with ⟨c10, ht8⟩ | ⟨c10, ht8⟩
 rotate_left
 · refine T.drawQ drawsX [.nod [.val (.bool a0.fKept)], .val (.bool a0.fKept), .val (.bool (!a0.fKept)), .val (.bool (!a0.fKept)), .tup [], .tup [], .tup [], .tup [], .tup [], .tup [], .tup [], .tup [], .tup [], .val (.bool true), .val (.bool true)] [0, 4, 5, 6, 21, 22, 23, 24, 25, 26, 27, 28, 29, 30, 31, 32, 33, 34, 35] (by decide +kernel) rfl ?_ rfl ?_
   rotate_left
   · obtain rfl := Option.some.inj ht8
     exact ⟨_, Gst.only [6] rfl, rfl⟩
   refine OpsQ.yes (Want.plain rfl) rfl (OpR.pure rfl) ?_
   refine OpsQ.yes (Want.plain rfl) rfl (OpR.pure rfl) ?_
   refine OpsQ.yes (Want.plain rfl) rfl (OpR.pure rfl) ?_
   refine OpsQ.yes (Want.plain rfl) rfl (OpR.pure rfl) ?_
   refine OpsQ.no (Want.bool rfl rfl rfl rfl (by rw [(not_f (eq_false_of_ne_true c10))]; rfl)) rfl ?_
   refine OpsQ.no (Want.bool rfl rfl rfl rfl (by rw [(not_f (eq_false_of_ne_true c10))]; rfl)) rfl ?_
   refine OpsQ.no (Want.bool rfl rfl rfl rfl (by rw [(not_f (eq_false_of_ne_true c10))]; rfl)) rfl ?_
   refine OpsQ.no (Want.bool rfl rfl rfl rfl (by rw [(not_f (eq_false_of_ne_true c10))]; rfl)) rfl ?_
   refine OpsQ.no (Want.bool rfl rfl rfl rfl (by rw [(not_f (eq_false_of_ne_true c10))]; rfl)) rfl ?_
   refine OpsQ.no (Want.bool rfl rfl rfl rfl (by rw [(not_f (eq_false_of_ne_true c10))]; rfl)) rfl ?_
   refine OpsQ.no (Want.bool rfl rfl rfl rfl (by rw [(not_f (eq_false_of_ne_true c10))]; rfl)) rfl ?_
   refine OpsQ.no (Want.bool rfl rfl rfl rfl (by rw [(not_f (eq_false_of_ne_true c10))]; rfl)) rfl ?_
   refine OpsQ.no (Want.bool rfl rfl rfl rfl (by rw [(not_f (eq_false_of_ne_true c10))]; rfl)) rfl ?_
   refine OpsQ.yes (Want.plain rfl) rfl (OpR.pickT rfl (not_f (eq_false_of_ne_true c10)) rfl) ?_
   refine OpsQ.yes (Want.plain rfl) rfl (OpR.pure rfl) ?_
   exact OpsQ.nil
 obtain ⟨x11, hx11, ht8⟩ := bnd_some ht8
 obtain ⟨x12, hx12, ht8⟩ := bnd_some ht8
 obtain ⟨x13, hx13, ht8⟩ := bnd_some ht8
 refine T.drawQ drawsX [.nod [.val (.bool a0.fKept)], .val (.bool a0.fKept), .val (.bool (!a0.fKept)), .val (.bool (!a0.fKept)), .val (.pointer none), .nod [.val (.int .i64 a0.fRaw.fAt), .val (.int .i64 a0.fRaw.fN), .val (.bool a0.fKept)], .agg [.val (.int .i64 a0.fRaw.fAt), .val (.int .i64 a0.fRaw.fN)], .sl 1 (List.map byteD x11), .val (.pointer none), .nod [.val (.int .i64 a1.fRaw.fAt), .val (.int .i64 a1.fRaw.fN), .val (.bool a1.fKept)], .agg [.val (.int .i64 a1.fRaw.fAt), .val (.int .i64 a1.fRaw.fN)], .sl 1 (List.map byteD x12), .val (.bool x13), .val (.bool x13), .val (.bool x13)] [0, 4, 5, 6, 21, 22, 23, 24, 25, 26, 27, 28, 29, 30, 31, 32, 33, 34, 35] (by decide +kernel) rfl ?_ rfl ?_
 rotate_left
 · obtain rfl := Option.some.inj ht8
   exact ⟨_, Gst.only [6] rfl, rfl⟩
 refine OpsQ.yes (Want.plain rfl) rfl (OpR.pure rfl) ?_
 refine OpsQ.yes (Want.plain rfl) rfl (OpR.pure rfl) ?_
 refine OpsQ.yes (Want.plain rfl) rfl (OpR.pure rfl) ?_
 refine OpsQ.yes (Want.plain rfl) rfl (OpR.pure rfl) ?_
 refine OpsQ.yes (Want.bool rfl rfl rfl rfl (by rw [(not_t (c10))]; rfl)) rfl (OpR.pure rfl) ?_
 refine OpsQ.yes (Want.bool rfl rfl rfl rfl (by rw [(not_t (c10))]; rfl)) rfl (OpR.pure rfl) ?_
 refine OpsQ.yes (Want.bool rfl rfl rfl rfl (by rw [(not_t (c10))]; rfl)) rfl (OpR.pure rfl) ?_
 refine OpsQ.yes (Want.bool rfl rfl rfl rfl (by rw [(not_t (c10))]; rfl)) rfl (OpR.call0 fn72 (arena_Arena_Bytes_nil_c hx11) rfl) ?_
 refine OpsQ.yes (Want.bool rfl rfl rfl rfl (by rw [(not_t (c10))]; rfl)) rfl (OpR.pure rfl) ?_
 refine OpsQ.yes (Want.bool rfl rfl rfl rfl (by rw [(not_t (c10))]; rfl)) rfl (OpR.pure rfl) ?_
 refine OpsQ.yes (Want.bool rfl rfl rfl rfl (by rw [(not_t (c10))]; rfl)) rfl (OpR.pure rfl) ?_
 refine OpsQ.yes (Want.bool rfl rfl rfl rfl (by rw [(not_t (c10))]; rfl)) rfl (OpR.call0 fn72 (arena_Arena_Bytes_nil_c hx12) rfl) ?_
 refine OpsQ.yes (Want.bool rfl rfl rfl rfl (by rw [(not_t (c10))]; rfl)) rfl (OpR.call0 fn74 (bytes_Equal_c hx13) rfl) ?_
 refine OpsQ.yes (Want.plain rfl) rfl (OpR.pickF rfl (not_t (c10)) rfl) ?_
 refine OpsQ.yes (Want.plain rfl) rfl (OpR.pure rfl) ?_
 exact OpsQ.nil
noncomputable def law07_CellSame.l1 (x17 : scan_Row) (s22 : Int × (List cell_Cell)) : Option (Lp (Int × (List cell_Cell)) (List cell_Cell)) :=
  if s22.1 < (x17.fFields.length : Int) then
    bnd (idx x17.fFields s22.1) fun x31 =>
    bnd (cell_Load x31) fun x33 =>
    bnd (app 56 s22.2 [x33]) fun x34 =>
    some (Lp.next (w64 (s22.1 + 1), x34))
  else
    some (Lp.done s22.2)
noncomputable def law07_CellSame.l2 (x4 : (List scan_Row)) (s8 : Int × (List cell_Cell)) : Option (Lp (Int × (List cell_Cell)) (List cell_Cell)) :=
  if s8.1 < (x4.length : Int) then
    bnd (idx x4 s8.1) fun x17 =>
    bnd (loop (law07_CellSame.l1 x17) (0, s8.2) : Option (List cell_Cell)) fun t19 =>
    some (Lp.next (w64 (s8.1 + 1), t19))
  else
    some (Lp.done s8.2)
noncomputable def law07_CellSame.l3 (a1 : UInt8 × UInt8) (a2 : Bool × Bool) (t5 : (List cell_Cell)) (s41 : Int × (List arena_Span) × Int × Int × Int × Bool × (List arena_Span) × Int × Int × Int × Bool × (List UInt8) × (List UInt8) × Bool × (List UInt8) × (List UInt8) × Bool) : Option (Lp (Int × (List arena_Span) × Int × Int × Int × Bool × (List arena_Span) × Int × Int × Int × Bool × (List UInt8) × (List UInt8) × Bool × (List UInt8) × (List UInt8) × Bool) ((List arena_Span) × Int × Int × Int × Bool × (List arena_Span) × Int × Int × Int × Bool × (List UInt8) × (List UInt8) × Bool × (List UInt8) × (List UInt8) × Bool)) :=
  if s41.1 < 2 then
    bnd (idx ([a1.1, a1.2] : List UInt8) s41.1) fun x50 =>
    bnd (rmd (x50.toNat : Int) (t5.length : Int)) fun x51 =>
    bnd (idx t5 x51) fun x52 =>
    bnd (idx ([(⟨(⟨s41.2.1, s41.2.2.1⟩ : piece_Text), (⟨s41.2.2.2.1, s41.2.2.2.2.1⟩ : arena_Span), s41.2.2.2.2.2.1⟩ : cell_Cell), (⟨(⟨s41.2.2.2.2.2.2.1, s41.2.2.2.2.2.2.2.1⟩ : piece_Text), (⟨s41.2.2.2.2.2.2.2.2.1, s41.2.2.2.2.2.2.2.2.2.1⟩ : arena_Span), s41.2.2.2.2.2.2.2.2.2.2.1⟩ : cell_Cell)] : List cell_Cell) s41.1) fun x53 =>
    bnd (idx ([a2.1, a2.2] : List Bool) s41.1) fun x54 =>
    bnd (if x54 = true then
      bnd (idx ([(⟨((if s41.1 = 0 then x52 else (⟨(⟨s41.2.1, s41.2.2.1⟩ : piece_Text), (⟨s41.2.2.2.1, s41.2.2.2.2.1⟩ : arena_Span), s41.2.2.2.2.2.1⟩ : cell_Cell)).fText), ((if s41.1 = 0 then x52 else (⟨(⟨s41.2.1, s41.2.2.1⟩ : piece_Text), (⟨s41.2.2.2.1, s41.2.2.2.2.1⟩ : arena_Span), s41.2.2.2.2.2.1⟩ : cell_Cell)).fRaw), ((if s41.1 = 0 then x52 else (⟨(⟨s41.2.1, s41.2.2.1⟩ : piece_Text), (⟨s41.2.2.2.1, s41.2.2.2.2.1⟩ : arena_Span), s41.2.2.2.2.2.1⟩ : cell_Cell)).fKept)⟩ : cell_Cell), (⟨((if s41.1 - 1 = 0 then x52 else (⟨(⟨s41.2.2.2.2.2.2.1, s41.2.2.2.2.2.2.2.1⟩ : piece_Text), (⟨s41.2.2.2.2.2.2.2.2.1, s41.2.2.2.2.2.2.2.2.2.1⟩ : arena_Span), s41.2.2.2.2.2.2.2.2.2.2.1⟩ : cell_Cell)).fText), ((if s41.1 - 1 = 0 then x52 else (⟨(⟨s41.2.2.2.2.2.2.1, s41.2.2.2.2.2.2.2.1⟩ : piece_Text), (⟨s41.2.2.2.2.2.2.2.2.1, s41.2.2.2.2.2.2.2.2.2.1⟩ : arena_Span), s41.2.2.2.2.2.2.2.2.2.2.1⟩ : cell_Cell)).fRaw), ((if s41.1 - 1 = 0 then x52 else (⟨(⟨s41.2.2.2.2.2.2.1, s41.2.2.2.2.2.2.2.1⟩ : piece_Text), (⟨s41.2.2.2.2.2.2.2.2.1, s41.2.2.2.2.2.2.2.2.2.1⟩ : arena_Span), s41.2.2.2.2.2.2.2.2.2.2.1⟩ : cell_Cell)).fKept)⟩ : cell_Cell)] : List cell_Cell) s41.1) fun x57 =>
      bnd (cell_Of x57.fText) fun x58 =>
      some (((if s41.1 = 0 then x58 else (⟨((if s41.1 = 0 then x52 else (⟨(⟨s41.2.1, s41.2.2.1⟩ : piece_Text), (⟨s41.2.2.2.1, s41.2.2.2.2.1⟩ : arena_Span), s41.2.2.2.2.2.1⟩ : cell_Cell)).fText), ((if s41.1 = 0 then x52 else (⟨(⟨s41.2.1, s41.2.2.1⟩ : piece_Text), (⟨s41.2.2.2.1, s41.2.2.2.2.1⟩ : arena_Span), s41.2.2.2.2.2.1⟩ : cell_Cell)).fRaw), ((if s41.1 = 0 then x52 else (⟨(⟨s41.2.1, s41.2.2.1⟩ : piece_Text), (⟨s41.2.2.2.1, s41.2.2.2.2.1⟩ : arena_Span), s41.2.2.2.2.2.1⟩ : cell_Cell)).fKept)⟩ : cell_Cell)).fText).fL, ((if s41.1 = 0 then x58 else (⟨((if s41.1 = 0 then x52 else (⟨(⟨s41.2.1, s41.2.2.1⟩ : piece_Text), (⟨s41.2.2.2.1, s41.2.2.2.2.1⟩ : arena_Span), s41.2.2.2.2.2.1⟩ : cell_Cell)).fText), ((if s41.1 = 0 then x52 else (⟨(⟨s41.2.1, s41.2.2.1⟩ : piece_Text), (⟨s41.2.2.2.1, s41.2.2.2.2.1⟩ : arena_Span), s41.2.2.2.2.2.1⟩ : cell_Cell)).fRaw), ((if s41.1 = 0 then x52 else (⟨(⟨s41.2.1, s41.2.2.1⟩ : piece_Text), (⟨s41.2.2.2.1, s41.2.2.2.2.1⟩ : arena_Span), s41.2.2.2.2.2.1⟩ : cell_Cell)).fKept)⟩ : cell_Cell)).fText).fN, ((if s41.1 = 0 then x58 else (⟨((if s41.1 = 0 then x52 else (⟨(⟨s41.2.1, s41.2.2.1⟩ : piece_Text), (⟨s41.2.2.2.1, s41.2.2.2.2.1⟩ : arena_Span), s41.2.2.2.2.2.1⟩ : cell_Cell)).fText), ((if s41.1 = 0 then x52 else (⟨(⟨s41.2.1, s41.2.2.1⟩ : piece_Text), (⟨s41.2.2.2.1, s41.2.2.2.2.1⟩ : arena_Span), s41.2.2.2.2.2.1⟩ : cell_Cell)).fRaw), ((if s41.1 = 0 then x52 else (⟨(⟨s41.2.1, s41.2.2.1⟩ : piece_Text), (⟨s41.2.2.2.1, s41.2.2.2.2.1⟩ : arena_Span), s41.2.2.2.2.2.1⟩ : cell_Cell)).fKept)⟩ : cell_Cell)).fRaw).fAt, ((if s41.1 = 0 then x58 else (⟨((if s41.1 = 0 then x52 else (⟨(⟨s41.2.1, s41.2.2.1⟩ : piece_Text), (⟨s41.2.2.2.1, s41.2.2.2.2.1⟩ : arena_Span), s41.2.2.2.2.2.1⟩ : cell_Cell)).fText), ((if s41.1 = 0 then x52 else (⟨(⟨s41.2.1, s41.2.2.1⟩ : piece_Text), (⟨s41.2.2.2.1, s41.2.2.2.2.1⟩ : arena_Span), s41.2.2.2.2.2.1⟩ : cell_Cell)).fRaw), ((if s41.1 = 0 then x52 else (⟨(⟨s41.2.1, s41.2.2.1⟩ : piece_Text), (⟨s41.2.2.2.1, s41.2.2.2.2.1⟩ : arena_Span), s41.2.2.2.2.2.1⟩ : cell_Cell)).fKept)⟩ : cell_Cell)).fRaw).fN, ((if s41.1 = 0 then x58 else (⟨((if s41.1 = 0 then x52 else (⟨(⟨s41.2.1, s41.2.2.1⟩ : piece_Text), (⟨s41.2.2.2.1, s41.2.2.2.2.1⟩ : arena_Span), s41.2.2.2.2.2.1⟩ : cell_Cell)).fText), ((if s41.1 = 0 then x52 else (⟨(⟨s41.2.1, s41.2.2.1⟩ : piece_Text), (⟨s41.2.2.2.1, s41.2.2.2.2.1⟩ : arena_Span), s41.2.2.2.2.2.1⟩ : cell_Cell)).fRaw), ((if s41.1 = 0 then x52 else (⟨(⟨s41.2.1, s41.2.2.1⟩ : piece_Text), (⟨s41.2.2.2.1, s41.2.2.2.2.1⟩ : arena_Span), s41.2.2.2.2.2.1⟩ : cell_Cell)).fKept)⟩ : cell_Cell)).fKept), ((if s41.1 - 1 = 0 then x58 else (⟨((if s41.1 - 1 = 0 then x52 else (⟨(⟨s41.2.2.2.2.2.2.1, s41.2.2.2.2.2.2.2.1⟩ : piece_Text), (⟨s41.2.2.2.2.2.2.2.2.1, s41.2.2.2.2.2.2.2.2.2.1⟩ : arena_Span), s41.2.2.2.2.2.2.2.2.2.2.1⟩ : cell_Cell)).fText), ((if s41.1 - 1 = 0 then x52 else (⟨(⟨s41.2.2.2.2.2.2.1, s41.2.2.2.2.2.2.2.1⟩ : piece_Text), (⟨s41.2.2.2.2.2.2.2.2.1, s41.2.2.2.2.2.2.2.2.2.1⟩ : arena_Span), s41.2.2.2.2.2.2.2.2.2.2.1⟩ : cell_Cell)).fRaw), ((if s41.1 - 1 = 0 then x52 else (⟨(⟨s41.2.2.2.2.2.2.1, s41.2.2.2.2.2.2.2.1⟩ : piece_Text), (⟨s41.2.2.2.2.2.2.2.2.1, s41.2.2.2.2.2.2.2.2.2.1⟩ : arena_Span), s41.2.2.2.2.2.2.2.2.2.2.1⟩ : cell_Cell)).fKept)⟩ : cell_Cell)).fText).fL, ((if s41.1 - 1 = 0 then x58 else (⟨((if s41.1 - 1 = 0 then x52 else (⟨(⟨s41.2.2.2.2.2.2.1, s41.2.2.2.2.2.2.2.1⟩ : piece_Text), (⟨s41.2.2.2.2.2.2.2.2.1, s41.2.2.2.2.2.2.2.2.2.1⟩ : arena_Span), s41.2.2.2.2.2.2.2.2.2.2.1⟩ : cell_Cell)).fText), ((if s41.1 - 1 = 0 then x52 else (⟨(⟨s41.2.2.2.2.2.2.1, s41.2.2.2.2.2.2.2.1⟩ : piece_Text), (⟨s41.2.2.2.2.2.2.2.2.1, s41.2.2.2.2.2.2.2.2.2.1⟩ : arena_Span), s41.2.2.2.2.2.2.2.2.2.2.1⟩ : cell_Cell)).fRaw), ((if s41.1 - 1 = 0 then x52 else (⟨(⟨s41.2.2.2.2.2.2.1, s41.2.2.2.2.2.2.2.1⟩ : piece_Text), (⟨s41.2.2.2.2.2.2.2.2.1, s41.2.2.2.2.2.2.2.2.2.1⟩ : arena_Span), s41.2.2.2.2.2.2.2.2.2.2.1⟩ : cell_Cell)).fKept)⟩ : cell_Cell)).fText).fN, ((if s41.1 - 1 = 0 then x58 else (⟨((if s41.1 - 1 = 0 then x52 else (⟨(⟨s41.2.2.2.2.2.2.1, s41.2.2.2.2.2.2.2.1⟩ : piece_Text), (⟨s41.2.2.2.2.2.2.2.2.1, s41.2.2.2.2.2.2.2.2.2.1⟩ : arena_Span), s41.2.2.2.2.2.2.2.2.2.2.1⟩ : cell_Cell)).fText), ((if s41.1 - 1 = 0 then x52 else (⟨(⟨s41.2.2.2.2.2.2.1, s41.2.2.2.2.2.2.2.1⟩ : piece_Text), (⟨s41.2.2.2.2.2.2.2.2.1, s41.2.2.2.2.2.2.2.2.2.1⟩ : arena_Span), s41.2.2.2.2.2.2.2.2.2.2.1⟩ : cell_Cell)).fRaw), ((if s41.1 - 1 = 0 then x52 else (⟨(⟨s41.2.2.2.2.2.2.1, s41.2.2.2.2.2.2.2.1⟩ : piece_Text), (⟨s41.2.2.2.2.2.2.2.2.1, s41.2.2.2.2.2.2.2.2.2.1⟩ : arena_Span), s41.2.2.2.2.2.2.2.2.2.2.1⟩ : cell_Cell)).fKept)⟩ : cell_Cell)).fRaw).fAt, ((if s41.1 - 1 = 0 then x58 else (⟨((if s41.1 - 1 = 0 then x52 else (⟨(⟨s41.2.2.2.2.2.2.1, s41.2.2.2.2.2.2.2.1⟩ : piece_Text), (⟨s41.2.2.2.2.2.2.2.2.1, s41.2.2.2.2.2.2.2.2.2.1⟩ : arena_Span), s41.2.2.2.2.2.2.2.2.2.2.1⟩ : cell_Cell)).fText), ((if s41.1 - 1 = 0 then x52 else (⟨(⟨s41.2.2.2.2.2.2.1, s41.2.2.2.2.2.2.2.1⟩ : piece_Text), (⟨s41.2.2.2.2.2.2.2.2.1, s41.2.2.2.2.2.2.2.2.2.1⟩ : arena_Span), s41.2.2.2.2.2.2.2.2.2.2.1⟩ : cell_Cell)).fRaw), ((if s41.1 - 1 = 0 then x52 else (⟨(⟨s41.2.2.2.2.2.2.1, s41.2.2.2.2.2.2.2.1⟩ : piece_Text), (⟨s41.2.2.2.2.2.2.2.2.1, s41.2.2.2.2.2.2.2.2.2.1⟩ : arena_Span), s41.2.2.2.2.2.2.2.2.2.2.1⟩ : cell_Cell)).fKept)⟩ : cell_Cell)).fRaw).fN, ((if s41.1 - 1 = 0 then x58 else (⟨((if s41.1 - 1 = 0 then x52 else (⟨(⟨s41.2.2.2.2.2.2.1, s41.2.2.2.2.2.2.2.1⟩ : piece_Text), (⟨s41.2.2.2.2.2.2.2.2.1, s41.2.2.2.2.2.2.2.2.2.1⟩ : arena_Span), s41.2.2.2.2.2.2.2.2.2.2.1⟩ : cell_Cell)).fText), ((if s41.1 - 1 = 0 then x52 else (⟨(⟨s41.2.2.2.2.2.2.1, s41.2.2.2.2.2.2.2.1⟩ : piece_Text), (⟨s41.2.2.2.2.2.2.2.2.1, s41.2.2.2.2.2.2.2.2.2.1⟩ : arena_Span), s41.2.2.2.2.2.2.2.2.2.2.1⟩ : cell_Cell)).fRaw), ((if s41.1 - 1 = 0 then x52 else (⟨(⟨s41.2.2.2.2.2.2.1, s41.2.2.2.2.2.2.2.1⟩ : piece_Text), (⟨s41.2.2.2.2.2.2.2.2.1, s41.2.2.2.2.2.2.2.2.2.1⟩ : arena_Span), s41.2.2.2.2.2.2.2.2.2.2.1⟩ : cell_Cell)).fKept)⟩ : cell_Cell)).fKept))
    else
      some (((if s41.1 = 0 then x52 else (⟨(⟨s41.2.1, s41.2.2.1⟩ : piece_Text), (⟨s41.2.2.2.1, s41.2.2.2.2.1⟩ : arena_Span), s41.2.2.2.2.2.1⟩ : cell_Cell)).fText).fL, ((if s41.1 = 0 then x52 else (⟨(⟨s41.2.1, s41.2.2.1⟩ : piece_Text), (⟨s41.2.2.2.1, s41.2.2.2.2.1⟩ : arena_Span), s41.2.2.2.2.2.1⟩ : cell_Cell)).fText).fN, ((if s41.1 = 0 then x52 else (⟨(⟨s41.2.1, s41.2.2.1⟩ : piece_Text), (⟨s41.2.2.2.1, s41.2.2.2.2.1⟩ : arena_Span), s41.2.2.2.2.2.1⟩ : cell_Cell)).fRaw).fAt, ((if s41.1 = 0 then x52 else (⟨(⟨s41.2.1, s41.2.2.1⟩ : piece_Text), (⟨s41.2.2.2.1, s41.2.2.2.2.1⟩ : arena_Span), s41.2.2.2.2.2.1⟩ : cell_Cell)).fRaw).fN, ((if s41.1 = 0 then x52 else (⟨(⟨s41.2.1, s41.2.2.1⟩ : piece_Text), (⟨s41.2.2.2.1, s41.2.2.2.2.1⟩ : arena_Span), s41.2.2.2.2.2.1⟩ : cell_Cell)).fKept), ((if s41.1 - 1 = 0 then x52 else (⟨(⟨s41.2.2.2.2.2.2.1, s41.2.2.2.2.2.2.2.1⟩ : piece_Text), (⟨s41.2.2.2.2.2.2.2.2.1, s41.2.2.2.2.2.2.2.2.2.1⟩ : arena_Span), s41.2.2.2.2.2.2.2.2.2.2.1⟩ : cell_Cell)).fText).fL, ((if s41.1 - 1 = 0 then x52 else (⟨(⟨s41.2.2.2.2.2.2.1, s41.2.2.2.2.2.2.2.1⟩ : piece_Text), (⟨s41.2.2.2.2.2.2.2.2.1, s41.2.2.2.2.2.2.2.2.2.1⟩ : arena_Span), s41.2.2.2.2.2.2.2.2.2.2.1⟩ : cell_Cell)).fText).fN, ((if s41.1 - 1 = 0 then x52 else (⟨(⟨s41.2.2.2.2.2.2.1, s41.2.2.2.2.2.2.2.1⟩ : piece_Text), (⟨s41.2.2.2.2.2.2.2.2.1, s41.2.2.2.2.2.2.2.2.2.1⟩ : arena_Span), s41.2.2.2.2.2.2.2.2.2.2.1⟩ : cell_Cell)).fRaw).fAt, ((if s41.1 - 1 = 0 then x52 else (⟨(⟨s41.2.2.2.2.2.2.1, s41.2.2.2.2.2.2.2.1⟩ : piece_Text), (⟨s41.2.2.2.2.2.2.2.2.1, s41.2.2.2.2.2.2.2.2.2.1⟩ : arena_Span), s41.2.2.2.2.2.2.2.2.2.2.1⟩ : cell_Cell)).fRaw).fN, ((if s41.1 - 1 = 0 then x52 else (⟨(⟨s41.2.2.2.2.2.2.1, s41.2.2.2.2.2.2.2.1⟩ : piece_Text), (⟨s41.2.2.2.2.2.2.2.2.1, s41.2.2.2.2.2.2.2.2.2.1⟩ : arena_Span), s41.2.2.2.2.2.2.2.2.2.2.1⟩ : cell_Cell)).fKept)) : Option ((List arena_Span) × Int × Int × Int × Bool × (List arena_Span) × Int × Int × Int × Bool)) fun t55 =>
    bnd (idx ([(⟨(⟨t55.1, t55.2.1⟩ : piece_Text), (⟨t55.2.2.1, t55.2.2.2.1⟩ : arena_Span), t55.2.2.2.2.1⟩ : cell_Cell), (⟨(⟨t55.2.2.2.2.2.1, t55.2.2.2.2.2.2.1⟩ : piece_Text), (⟨t55.2.2.2.2.2.2.2.1, t55.2.2.2.2.2.2.2.2.1⟩ : arena_Span), t55.2.2.2.2.2.2.2.2.2⟩ : cell_Cell)] : List cell_Cell) s41.1) fun x59 =>
    bnd (law07_Plain_nil x59) fun x60 =>
    bnd (idx ([(⟨s41.2.2.2.2.2.2.2.2.2.2.2.1, s41.2.2.2.2.2.2.2.2.2.2.2.2.1, s41.2.2.2.2.2.2.2.2.2.2.2.2.2.1⟩ : ref07_Cell), (⟨s41.2.2.2.2.2.2.2.2.2.2.2.2.2.2.1, s41.2.2.2.2.2.2.2.2.2.2.2.2.2.2.2.1, s41.2.2.2.2.2.2.2.2.2.2.2.2.2.2.2.2⟩ : ref07_Cell)] : List ref07_Cell) s41.1) fun x61 =>
    some (Lp.next (w64 (s41.1 + 1), t55.1, t55.2.1, t55.2.2.1, t55.2.2.2.1, t55.2.2.2.2.1, t55.2.2.2.2.2.1, t55.2.2.2.2.2.2.1, t55.2.2.2.2.2.2.2.1, t55.2.2.2.2.2.2.2.2.1, t55.2.2.2.2.2.2.2.2.2, (if s41.1 = 0 then x60 else (⟨s41.2.2.2.2.2.2.2.2.2.2.2.1, s41.2.2.2.2.2.2.2.2.2.2.2.2.1, s41.2.2.2.2.2.2.2.2.2.2.2.2.2.1⟩ : ref07_Cell)).fS, (if s41.1 = 0 then x60 else (⟨s41.2.2.2.2.2.2.2.2.2.2.2.1, s41.2.2.2.2.2.2.2.2.2.2.2.2.1, s41.2.2.2.2.2.2.2.2.2.2.2.2.2.1⟩ : ref07_Cell)).fRaw, ((if s41.1 = 0 then x60 else (⟨s41.2.2.2.2.2.2.2.2.2.2.2.1, s41.2.2.2.2.2.2.2.2.2.2.2.2.1, s41.2.2.2.2.2.2.2.2.2.2.2.2.2.1⟩ : ref07_Cell)).fKept), (if s41.1 - 1 = 0 then x60 else (⟨s41.2.2.2.2.2.2.2.2.2.2.2.2.2.2.1, s41.2.2.2.2.2.2.2.2.2.2.2.2.2.2.2.1, s41.2.2.2.2.2.2.2.2.2.2.2.2.2.2.2.2⟩ : ref07_Cell)).fS, (if s41.1 - 1 = 0 then x60 else (⟨s41.2.2.2.2.2.2.2.2.2.2.2.2.2.2.1, s41.2.2.2.2.2.2.2.2.2.2.2.2.2.2.2.1, s41.2.2.2.2.2.2.2.2.2.2.2.2.2.2.2.2⟩ : ref07_Cell)).fRaw, ((if s41.1 - 1 = 0 then x60 else (⟨s41.2.2.2.2.2.2.2.2.2.2.2.2.2.2.1, s41.2.2.2.2.2.2.2.2.2.2.2.2.2.2.2.1, s41.2.2.2.2.2.2.2.2.2.2.2.2.2.2.2.2⟩ : ref07_Cell)).fKept)))
  else
    some (Lp.done (s41.2.1, s41.2.2.1, s41.2.2.2.1, s41.2.2.2.2.1, s41.2.2.2.2.2.1, s41.2.2.2.2.2.2.1, s41.2.2.2.2.2.2.2.1, s41.2.2.2.2.2.2.2.2.1, s41.2.2.2.2.2.2.2.2.2.1, s41.2.2.2.2.2.2.2.2.2.2.1, s41.2.2.2.2.2.2.2.2.2.2.2.1, s41.2.2.2.2.2.2.2.2.2.2.2.2.1, s41.2.2.2.2.2.2.2.2.2.2.2.2.2.1, s41.2.2.2.2.2.2.2.2.2.2.2.2.2.2.1, s41.2.2.2.2.2.2.2.2.2.2.2.2.2.2.2.1, s41.2.2.2.2.2.2.2.2.2.2.2.2.2.2.2.2))
noncomputable def law07_CellSame.l4 (x82 : scan_Row) (s87 : Int × (List cell_Cell)) : Option (Lp (Int × (List cell_Cell)) (List cell_Cell)) :=
  if s87.1 < (x82.fFields.length : Int) then
    bnd (idx x82.fFields s87.1) fun x96 =>
    bnd (cell_Load x96) fun x98 =>
    bnd (app 56 s87.2 [x98]) fun x99 =>
    some (Lp.next (w64 (s87.1 + 1), x99))
  else
    some (Lp.done s87.2)
noncomputable def law07_CellSame.l5 (x69 : (List scan_Row)) (s73 : Int × (List cell_Cell)) : Option (Lp (Int × (List cell_Cell)) (List cell_Cell)) :=
  if s73.1 < (x69.length : Int) then
    bnd (idx x69 s73.1) fun x82 =>
    bnd (loop (law07_CellSame.l4 x82) (0, s73.2) : Option (List cell_Cell)) fun t84 =>
    some (Lp.next (w64 (s73.1 + 1), t84))
  else
    some (Lp.done s73.2)
noncomputable def law07_CellSame.l6 (a1 : UInt8 × UInt8) (a2 : Bool × Bool) (x2 : Int × (List UInt8)) (t70 : (List cell_Cell)) (s106 : Int × (List arena_Span) × Int × Int × Int × Bool × (List arena_Span) × Int × Int × Int × Bool × (List UInt8) × (List UInt8) × Bool × (List UInt8) × (List UInt8) × Bool) : Option (Lp (Int × (List arena_Span) × Int × Int × Int × Bool × (List arena_Span) × Int × Int × Int × Bool × (List UInt8) × (List UInt8) × Bool × (List UInt8) × (List UInt8) × Bool) ((List arena_Span) × Int × Int × Int × Bool × (List arena_Span) × Int × Int × Int × Bool × (List UInt8) × (List UInt8) × Bool × (List UInt8) × (List UInt8) × Bool)) :=
  if s106.1 < 2 then
    bnd (idx ([a1.1, a1.2] : List UInt8) s106.1) fun x115 =>
    bnd (rmd (x115.toNat : Int) (t70.length : Int)) fun x116 =>
    bnd (idx t70 x116) fun x117 =>
    bnd (idx ([(⟨(⟨s106.2.1, s106.2.2.1⟩ : piece_Text), (⟨s106.2.2.2.1, s106.2.2.2.2.1⟩ : arena_Span), s106.2.2.2.2.2.1⟩ : cell_Cell), (⟨(⟨s106.2.2.2.2.2.2.1, s106.2.2.2.2.2.2.2.1⟩ : piece_Text), (⟨s106.2.2.2.2.2.2.2.2.1, s106.2.2.2.2.2.2.2.2.2.1⟩ : arena_Span), s106.2.2.2.2.2.2.2.2.2.2.1⟩ : cell_Cell)] : List cell_Cell) s106.1) fun x118 =>
    bnd (idx ([a2.1, a2.2] : List Bool) s106.1) fun x119 =>
    bnd (if x119 = true then
      bnd (idx ([(⟨((if s106.1 = 0 then x117 else (⟨(⟨s106.2.1, s106.2.2.1⟩ : piece_Text), (⟨s106.2.2.2.1, s106.2.2.2.2.1⟩ : arena_Span), s106.2.2.2.2.2.1⟩ : cell_Cell)).fText), ((if s106.1 = 0 then x117 else (⟨(⟨s106.2.1, s106.2.2.1⟩ : piece_Text), (⟨s106.2.2.2.1, s106.2.2.2.2.1⟩ : arena_Span), s106.2.2.2.2.2.1⟩ : cell_Cell)).fRaw), ((if s106.1 = 0 then x117 else (⟨(⟨s106.2.1, s106.2.2.1⟩ : piece_Text), (⟨s106.2.2.2.1, s106.2.2.2.2.1⟩ : arena_Span), s106.2.2.2.2.2.1⟩ : cell_Cell)).fKept)⟩ : cell_Cell), (⟨((if s106.1 - 1 = 0 then x117 else (⟨(⟨s106.2.2.2.2.2.2.1, s106.2.2.2.2.2.2.2.1⟩ : piece_Text), (⟨s106.2.2.2.2.2.2.2.2.1, s106.2.2.2.2.2.2.2.2.2.1⟩ : arena_Span), s106.2.2.2.2.2.2.2.2.2.2.1⟩ : cell_Cell)).fText), ((if s106.1 - 1 = 0 then x117 else (⟨(⟨s106.2.2.2.2.2.2.1, s106.2.2.2.2.2.2.2.1⟩ : piece_Text), (⟨s106.2.2.2.2.2.2.2.2.1, s106.2.2.2.2.2.2.2.2.2.1⟩ : arena_Span), s106.2.2.2.2.2.2.2.2.2.2.1⟩ : cell_Cell)).fRaw), ((if s106.1 - 1 = 0 then x117 else (⟨(⟨s106.2.2.2.2.2.2.1, s106.2.2.2.2.2.2.2.1⟩ : piece_Text), (⟨s106.2.2.2.2.2.2.2.2.1, s106.2.2.2.2.2.2.2.2.2.1⟩ : arena_Span), s106.2.2.2.2.2.2.2.2.2.2.1⟩ : cell_Cell)).fKept)⟩ : cell_Cell)] : List cell_Cell) s106.1) fun x122 =>
      bnd (cell_Of x122.fText) fun x123 =>
      some (((if s106.1 = 0 then x123 else (⟨((if s106.1 = 0 then x117 else (⟨(⟨s106.2.1, s106.2.2.1⟩ : piece_Text), (⟨s106.2.2.2.1, s106.2.2.2.2.1⟩ : arena_Span), s106.2.2.2.2.2.1⟩ : cell_Cell)).fText), ((if s106.1 = 0 then x117 else (⟨(⟨s106.2.1, s106.2.2.1⟩ : piece_Text), (⟨s106.2.2.2.1, s106.2.2.2.2.1⟩ : arena_Span), s106.2.2.2.2.2.1⟩ : cell_Cell)).fRaw), ((if s106.1 = 0 then x117 else (⟨(⟨s106.2.1, s106.2.2.1⟩ : piece_Text), (⟨s106.2.2.2.1, s106.2.2.2.2.1⟩ : arena_Span), s106.2.2.2.2.2.1⟩ : cell_Cell)).fKept)⟩ : cell_Cell)).fText).fL, ((if s106.1 = 0 then x123 else (⟨((if s106.1 = 0 then x117 else (⟨(⟨s106.2.1, s106.2.2.1⟩ : piece_Text), (⟨s106.2.2.2.1, s106.2.2.2.2.1⟩ : arena_Span), s106.2.2.2.2.2.1⟩ : cell_Cell)).fText), ((if s106.1 = 0 then x117 else (⟨(⟨s106.2.1, s106.2.2.1⟩ : piece_Text), (⟨s106.2.2.2.1, s106.2.2.2.2.1⟩ : arena_Span), s106.2.2.2.2.2.1⟩ : cell_Cell)).fRaw), ((if s106.1 = 0 then x117 else (⟨(⟨s106.2.1, s106.2.2.1⟩ : piece_Text), (⟨s106.2.2.2.1, s106.2.2.2.2.1⟩ : arena_Span), s106.2.2.2.2.2.1⟩ : cell_Cell)).fKept)⟩ : cell_Cell)).fText).fN, ((if s106.1 = 0 then x123 else (⟨((if s106.1 = 0 then x117 else (⟨(⟨s106.2.1, s106.2.2.1⟩ : piece_Text), (⟨s106.2.2.2.1, s106.2.2.2.2.1⟩ : arena_Span), s106.2.2.2.2.2.1⟩ : cell_Cell)).fText), ((if s106.1 = 0 then x117 else (⟨(⟨s106.2.1, s106.2.2.1⟩ : piece_Text), (⟨s106.2.2.2.1, s106.2.2.2.2.1⟩ : arena_Span), s106.2.2.2.2.2.1⟩ : cell_Cell)).fRaw), ((if s106.1 = 0 then x117 else (⟨(⟨s106.2.1, s106.2.2.1⟩ : piece_Text), (⟨s106.2.2.2.1, s106.2.2.2.2.1⟩ : arena_Span), s106.2.2.2.2.2.1⟩ : cell_Cell)).fKept)⟩ : cell_Cell)).fRaw).fAt, ((if s106.1 = 0 then x123 else (⟨((if s106.1 = 0 then x117 else (⟨(⟨s106.2.1, s106.2.2.1⟩ : piece_Text), (⟨s106.2.2.2.1, s106.2.2.2.2.1⟩ : arena_Span), s106.2.2.2.2.2.1⟩ : cell_Cell)).fText), ((if s106.1 = 0 then x117 else (⟨(⟨s106.2.1, s106.2.2.1⟩ : piece_Text), (⟨s106.2.2.2.1, s106.2.2.2.2.1⟩ : arena_Span), s106.2.2.2.2.2.1⟩ : cell_Cell)).fRaw), ((if s106.1 = 0 then x117 else (⟨(⟨s106.2.1, s106.2.2.1⟩ : piece_Text), (⟨s106.2.2.2.1, s106.2.2.2.2.1⟩ : arena_Span), s106.2.2.2.2.2.1⟩ : cell_Cell)).fKept)⟩ : cell_Cell)).fRaw).fN, ((if s106.1 = 0 then x123 else (⟨((if s106.1 = 0 then x117 else (⟨(⟨s106.2.1, s106.2.2.1⟩ : piece_Text), (⟨s106.2.2.2.1, s106.2.2.2.2.1⟩ : arena_Span), s106.2.2.2.2.2.1⟩ : cell_Cell)).fText), ((if s106.1 = 0 then x117 else (⟨(⟨s106.2.1, s106.2.2.1⟩ : piece_Text), (⟨s106.2.2.2.1, s106.2.2.2.2.1⟩ : arena_Span), s106.2.2.2.2.2.1⟩ : cell_Cell)).fRaw), ((if s106.1 = 0 then x117 else (⟨(⟨s106.2.1, s106.2.2.1⟩ : piece_Text), (⟨s106.2.2.2.1, s106.2.2.2.2.1⟩ : arena_Span), s106.2.2.2.2.2.1⟩ : cell_Cell)).fKept)⟩ : cell_Cell)).fKept), ((if s106.1 - 1 = 0 then x123 else (⟨((if s106.1 - 1 = 0 then x117 else (⟨(⟨s106.2.2.2.2.2.2.1, s106.2.2.2.2.2.2.2.1⟩ : piece_Text), (⟨s106.2.2.2.2.2.2.2.2.1, s106.2.2.2.2.2.2.2.2.2.1⟩ : arena_Span), s106.2.2.2.2.2.2.2.2.2.2.1⟩ : cell_Cell)).fText), ((if s106.1 - 1 = 0 then x117 else (⟨(⟨s106.2.2.2.2.2.2.1, s106.2.2.2.2.2.2.2.1⟩ : piece_Text), (⟨s106.2.2.2.2.2.2.2.2.1, s106.2.2.2.2.2.2.2.2.2.1⟩ : arena_Span), s106.2.2.2.2.2.2.2.2.2.2.1⟩ : cell_Cell)).fRaw), ((if s106.1 - 1 = 0 then x117 else (⟨(⟨s106.2.2.2.2.2.2.1, s106.2.2.2.2.2.2.2.1⟩ : piece_Text), (⟨s106.2.2.2.2.2.2.2.2.1, s106.2.2.2.2.2.2.2.2.2.1⟩ : arena_Span), s106.2.2.2.2.2.2.2.2.2.2.1⟩ : cell_Cell)).fKept)⟩ : cell_Cell)).fText).fL, ((if s106.1 - 1 = 0 then x123 else (⟨((if s106.1 - 1 = 0 then x117 else (⟨(⟨s106.2.2.2.2.2.2.1, s106.2.2.2.2.2.2.2.1⟩ : piece_Text), (⟨s106.2.2.2.2.2.2.2.2.1, s106.2.2.2.2.2.2.2.2.2.1⟩ : arena_Span), s106.2.2.2.2.2.2.2.2.2.2.1⟩ : cell_Cell)).fText), ((if s106.1 - 1 = 0 then x117 else (⟨(⟨s106.2.2.2.2.2.2.1, s106.2.2.2.2.2.2.2.1⟩ : piece_Text), (⟨s106.2.2.2.2.2.2.2.2.1, s106.2.2.2.2.2.2.2.2.2.1⟩ : arena_Span), s106.2.2.2.2.2.2.2.2.2.2.1⟩ : cell_Cell)).fRaw), ((if s106.1 - 1 = 0 then x117 else (⟨(⟨s106.2.2.2.2.2.2.1, s106.2.2.2.2.2.2.2.1⟩ : piece_Text), (⟨s106.2.2.2.2.2.2.2.2.1, s106.2.2.2.2.2.2.2.2.2.1⟩ : arena_Span), s106.2.2.2.2.2.2.2.2.2.2.1⟩ : cell_Cell)).fKept)⟩ : cell_Cell)).fText).fN, ((if s106.1 - 1 = 0 then x123 else (⟨((if s106.1 - 1 = 0 then x117 else (⟨(⟨s106.2.2.2.2.2.2.1, s106.2.2.2.2.2.2.2.1⟩ : piece_Text), (⟨s106.2.2.2.2.2.2.2.2.1, s106.2.2.2.2.2.2.2.2.2.1⟩ : arena_Span), s106.2.2.2.2.2.2.2.2.2.2.1⟩ : cell_Cell)).fText), ((if s106.1 - 1 = 0 then x117 else (⟨(⟨s106.2.2.2.2.2.2.1, s106.2.2.2.2.2.2.2.1⟩ : piece_Text), (⟨s106.2.2.2.2.2.2.2.2.1, s106.2.2.2.2.2.2.2.2.2.1⟩ : arena_Span), s106.2.2.2.2.2.2.2.2.2.2.1⟩ : cell_Cell)).fRaw), ((if s106.1 - 1 = 0 then x117 else (⟨(⟨s106.2.2.2.2.2.2.1, s106.2.2.2.2.2.2.2.1⟩ : piece_Text), (⟨s106.2.2.2.2.2.2.2.2.1, s106.2.2.2.2.2.2.2.2.2.1⟩ : arena_Span), s106.2.2.2.2.2.2.2.2.2.2.1⟩ : cell_Cell)).fKept)⟩ : cell_Cell)).fRaw).fAt, ((if s106.1 - 1 = 0 then x123 else (⟨((if s106.1 - 1 = 0 then x117 else (⟨(⟨s106.2.2.2.2.2.2.1, s106.2.2.2.2.2.2.2.1⟩ : piece_Text), (⟨s106.2.2.2.2.2.2.2.2.1, s106.2.2.2.2.2.2.2.2.2.1⟩ : arena_Span), s106.2.2.2.2.2.2.2.2.2.2.1⟩ : cell_Cell)).fText), ((if s106.1 - 1 = 0 then x117 else (⟨(⟨s106.2.2.2.2.2.2.1, s106.2.2.2.2.2.2.2.1⟩ : piece_Text), (⟨s106.2.2.2.2.2.2.2.2.1, s106.2.2.2.2.2.2.2.2.2.1⟩ : arena_Span), s106.2.2.2.2.2.2.2.2.2.2.1⟩ : cell_Cell)).fRaw), ((if s106.1 - 1 = 0 then x117 else (⟨(⟨s106.2.2.2.2.2.2.1, s106.2.2.2.2.2.2.2.1⟩ : piece_Text), (⟨s106.2.2.2.2.2.2.2.2.1, s106.2.2.2.2.2.2.2.2.2.1⟩ : arena_Span), s106.2.2.2.2.2.2.2.2.2.2.1⟩ : cell_Cell)).fKept)⟩ : cell_Cell)).fRaw).fN, ((if s106.1 - 1 = 0 then x123 else (⟨((if s106.1 - 1 = 0 then x117 else (⟨(⟨s106.2.2.2.2.2.2.1, s106.2.2.2.2.2.2.2.1⟩ : piece_Text), (⟨s106.2.2.2.2.2.2.2.2.1, s106.2.2.2.2.2.2.2.2.2.1⟩ : arena_Span), s106.2.2.2.2.2.2.2.2.2.2.1⟩ : cell_Cell)).fText), ((if s106.1 - 1 = 0 then x117 else (⟨(⟨s106.2.2.2.2.2.2.1, s106.2.2.2.2.2.2.2.1⟩ : piece_Text), (⟨s106.2.2.2.2.2.2.2.2.1, s106.2.2.2.2.2.2.2.2.2.1⟩ : arena_Span), s106.2.2.2.2.2.2.2.2.2.2.1⟩ : cell_Cell)).fRaw), ((if s106.1 - 1 = 0 then x117 else (⟨(⟨s106.2.2.2.2.2.2.1, s106.2.2.2.2.2.2.2.1⟩ : piece_Text), (⟨s106.2.2.2.2.2.2.2.2.1, s106.2.2.2.2.2.2.2.2.2.1⟩ : arena_Span), s106.2.2.2.2.2.2.2.2.2.2.1⟩ : cell_Cell)).fKept)⟩ : cell_Cell)).fKept))
    else
      some (((if s106.1 = 0 then x117 else (⟨(⟨s106.2.1, s106.2.2.1⟩ : piece_Text), (⟨s106.2.2.2.1, s106.2.2.2.2.1⟩ : arena_Span), s106.2.2.2.2.2.1⟩ : cell_Cell)).fText).fL, ((if s106.1 = 0 then x117 else (⟨(⟨s106.2.1, s106.2.2.1⟩ : piece_Text), (⟨s106.2.2.2.1, s106.2.2.2.2.1⟩ : arena_Span), s106.2.2.2.2.2.1⟩ : cell_Cell)).fText).fN, ((if s106.1 = 0 then x117 else (⟨(⟨s106.2.1, s106.2.2.1⟩ : piece_Text), (⟨s106.2.2.2.1, s106.2.2.2.2.1⟩ : arena_Span), s106.2.2.2.2.2.1⟩ : cell_Cell)).fRaw).fAt, ((if s106.1 = 0 then x117 else (⟨(⟨s106.2.1, s106.2.2.1⟩ : piece_Text), (⟨s106.2.2.2.1, s106.2.2.2.2.1⟩ : arena_Span), s106.2.2.2.2.2.1⟩ : cell_Cell)).fRaw).fN, ((if s106.1 = 0 then x117 else (⟨(⟨s106.2.1, s106.2.2.1⟩ : piece_Text), (⟨s106.2.2.2.1, s106.2.2.2.2.1⟩ : arena_Span), s106.2.2.2.2.2.1⟩ : cell_Cell)).fKept), ((if s106.1 - 1 = 0 then x117 else (⟨(⟨s106.2.2.2.2.2.2.1, s106.2.2.2.2.2.2.2.1⟩ : piece_Text), (⟨s106.2.2.2.2.2.2.2.2.1, s106.2.2.2.2.2.2.2.2.2.1⟩ : arena_Span), s106.2.2.2.2.2.2.2.2.2.2.1⟩ : cell_Cell)).fText).fL, ((if s106.1 - 1 = 0 then x117 else (⟨(⟨s106.2.2.2.2.2.2.1, s106.2.2.2.2.2.2.2.1⟩ : piece_Text), (⟨s106.2.2.2.2.2.2.2.2.1, s106.2.2.2.2.2.2.2.2.2.1⟩ : arena_Span), s106.2.2.2.2.2.2.2.2.2.2.1⟩ : cell_Cell)).fText).fN, ((if s106.1 - 1 = 0 then x117 else (⟨(⟨s106.2.2.2.2.2.2.1, s106.2.2.2.2.2.2.2.1⟩ : piece_Text), (⟨s106.2.2.2.2.2.2.2.2.1, s106.2.2.2.2.2.2.2.2.2.1⟩ : arena_Span), s106.2.2.2.2.2.2.2.2.2.2.1⟩ : cell_Cell)).fRaw).fAt, ((if s106.1 - 1 = 0 then x117 else (⟨(⟨s106.2.2.2.2.2.2.1, s106.2.2.2.2.2.2.2.1⟩ : piece_Text), (⟨s106.2.2.2.2.2.2.2.2.1, s106.2.2.2.2.2.2.2.2.2.1⟩ : arena_Span), s106.2.2.2.2.2.2.2.2.2.2.1⟩ : cell_Cell)).fRaw).fN, ((if s106.1 - 1 = 0 then x117 else (⟨(⟨s106.2.2.2.2.2.2.1, s106.2.2.2.2.2.2.2.1⟩ : piece_Text), (⟨s106.2.2.2.2.2.2.2.2.1, s106.2.2.2.2.2.2.2.2.2.1⟩ : arena_Span), s106.2.2.2.2.2.2.2.2.2.2.1⟩ : cell_Cell)).fKept)) : Option ((List arena_Span) × Int × Int × Int × Bool × (List arena_Span) × Int × Int × Int × Bool)) fun t120 =>
    bnd (idx ([(⟨(⟨t120.1, t120.2.1⟩ : piece_Text), (⟨t120.2.2.1, t120.2.2.2.1⟩ : arena_Span), t120.2.2.2.2.1⟩ : cell_Cell), (⟨(⟨t120.2.2.2.2.2.1, t120.2.2.2.2.2.2.1⟩ : piece_Text), (⟨t120.2.2.2.2.2.2.2.1, t120.2.2.2.2.2.2.2.2.1⟩ : arena_Span), t120.2.2.2.2.2.2.2.2.2⟩ : cell_Cell)] : List cell_Cell) s106.1) fun x124 =>
    bnd (law07_Plain x124 x2.2) fun x125 =>
    bnd (idx ([(⟨s106.2.2.2.2.2.2.2.2.2.2.2.1, s106.2.2.2.2.2.2.2.2.2.2.2.2.1, s106.2.2.2.2.2.2.2.2.2.2.2.2.2.1⟩ : ref07_Cell), (⟨s106.2.2.2.2.2.2.2.2.2.2.2.2.2.2.1, s106.2.2.2.2.2.2.2.2.2.2.2.2.2.2.2.1, s106.2.2.2.2.2.2.2.2.2.2.2.2.2.2.2.2⟩ : ref07_Cell)] : List ref07_Cell) s106.1) fun x126 =>
    some (Lp.next (w64 (s106.1 + 1), t120.1, t120.2.1, t120.2.2.1, t120.2.2.2.1, t120.2.2.2.2.1, t120.2.2.2.2.2.1, t120.2.2.2.2.2.2.1, t120.2.2.2.2.2.2.2.1, t120.2.2.2.2.2.2.2.2.1, t120.2.2.2.2.2.2.2.2.2, (if s106.1 = 0 then x125 else (⟨s106.2.2.2.2.2.2.2.2.2.2.2.1, s106.2.2.2.2.2.2.2.2.2.2.2.2.1, s106.2.2.2.2.2.2.2.2.2.2.2.2.2.1⟩ : ref07_Cell)).fS, (if s106.1 = 0 then x125 else (⟨s106.2.2.2.2.2.2.2.2.2.2.2.1, s106.2.2.2.2.2.2.2.2.2.2.2.2.1, s106.2.2.2.2.2.2.2.2.2.2.2.2.2.1⟩ : ref07_Cell)).fRaw, ((if s106.1 = 0 then x125 else (⟨s106.2.2.2.2.2.2.2.2.2.2.2.1, s106.2.2.2.2.2.2.2.2.2.2.2.2.1, s106.2.2.2.2.2.2.2.2.2.2.2.2.2.1⟩ : ref07_Cell)).fKept), (if s106.1 - 1 = 0 then x125 else (⟨s106.2.2.2.2.2.2.2.2.2.2.2.2.2.2.1, s106.2.2.2.2.2.2.2.2.2.2.2.2.2.2.2.1, s106.2.2.2.2.2.2.2.2.2.2.2.2.2.2.2.2⟩ : ref07_Cell)).fS, (if s106.1 - 1 = 0 then x125 else (⟨s106.2.2.2.2.2.2.2.2.2.2.2.2.2.2.1, s106.2.2.2.2.2.2.2.2.2.2.2.2.2.2.2.1, s106.2.2.2.2.2.2.2.2.2.2.2.2.2.2.2.2⟩ : ref07_Cell)).fRaw, ((if s106.1 - 1 = 0 then x125 else (⟨s106.2.2.2.2.2.2.2.2.2.2.2.2.2.2.1, s106.2.2.2.2.2.2.2.2.2.2.2.2.2.2.2.1, s106.2.2.2.2.2.2.2.2.2.2.2.2.2.2.2.2⟩ : ref07_Cell)).fKept)))
  else
    some (Lp.done (s106.2.1, s106.2.2.1, s106.2.2.2.1, s106.2.2.2.2.1, s106.2.2.2.2.2.1, s106.2.2.2.2.2.2.1, s106.2.2.2.2.2.2.2.1, s106.2.2.2.2.2.2.2.2.1, s106.2.2.2.2.2.2.2.2.2.1, s106.2.2.2.2.2.2.2.2.2.2.1, s106.2.2.2.2.2.2.2.2.2.2.2.1, s106.2.2.2.2.2.2.2.2.2.2.2.2.1, s106.2.2.2.2.2.2.2.2.2.2.2.2.2.1, s106.2.2.2.2.2.2.2.2.2.2.2.2.2.2.1, s106.2.2.2.2.2.2.2.2.2.2.2.2.2.2.2.1, s106.2.2.2.2.2.2.2.2.2.2.2.2.2.2.2.2))
noncomputable def law07_CellSame (a0 : List UInt8) (a1 : UInt8 × UInt8) (a2 : Bool × Bool) : Option Bool :=
  bnd (law07_cut a0 300) fun x1 =>
  bnd (arena_New x1) fun x2 =>
  match x2 with
  | .inl x2 =>
      bnd (scan_All x1) fun x4 =>
      bnd (loop (law07_CellSame.l2 x4) (0, []) : Option (List cell_Cell)) fun t5 =>
      if (t5.length : Int) = 0 then
        bnd (law07_awake) fun x37 =>
        some x37
      else
        bnd (loop (law07_CellSame.l3 a1 a2 t5) (0, [], 0, 0, 0, false, [], 0, 0, 0, false, [], [], false, [], [], false) : Option ((List arena_Span) × Int × Int × Int × Bool × (List arena_Span) × Int × Int × Int × Bool × (List UInt8) × (List UInt8) × Bool × (List UInt8) × (List UInt8) × Bool)) fun t40 =>
        bnd (bnd (cell_Same_nil (⟨(⟨t40.1, t40.2.1⟩ : piece_Text), (⟨t40.2.2.1, t40.2.2.2.1⟩ : arena_Span), t40.2.2.2.2.1⟩ : cell_Cell) (⟨(⟨t40.2.2.2.2.2.1, t40.2.2.2.2.2.2.1⟩ : piece_Text), (⟨t40.2.2.2.2.2.2.2.1, t40.2.2.2.2.2.2.2.2.1⟩ : arena_Span), t40.2.2.2.2.2.2.2.2.2.1⟩ : cell_Cell)) fun x64 =>
        if (x64 == ((⟨t40.2.2.2.2.2.2.2.2.2.2.1, t40.2.2.2.2.2.2.2.2.2.2.2.1, t40.2.2.2.2.2.2.2.2.2.2.2.2.1⟩ : ref07_Cell) == (⟨t40.2.2.2.2.2.2.2.2.2.2.2.2.2.1, t40.2.2.2.2.2.2.2.2.2.2.2.2.2.2.1, t40.2.2.2.2.2.2.2.2.2.2.2.2.2.2.2⟩ : ref07_Cell))) = true then
          bnd (cell_Same_nil (⟨(⟨t40.1, t40.2.1⟩ : piece_Text), (⟨t40.2.2.1, t40.2.2.2.1⟩ : arena_Span), t40.2.2.2.2.1⟩ : cell_Cell) (⟨(⟨t40.1, t40.2.1⟩ : piece_Text), (⟨t40.2.2.1, t40.2.2.2.1⟩ : arena_Span), t40.2.2.2.2.1⟩ : cell_Cell)) fun x66 =>
          if x66 = true then
            bnd (law07_awake) fun x68 =>
            some x68
          else
            some false
        else
          some false : Option Bool) fun t62 =>
        some t62
  | .inr x2 =>
      bnd (scan_All x1) fun x69 =>
      bnd (loop (law07_CellSame.l5 x69) (0, []) : Option (List cell_Cell)) fun t70 =>
      if (t70.length : Int) = 0 then
        bnd (law07_awake) fun x102 =>
        some x102
      else
        bnd (loop (law07_CellSame.l6 a1 a2 x2 t70) (0, [], 0, 0, 0, false, [], 0, 0, 0, false, [], [], false, [], [], false) : Option ((List arena_Span) × Int × Int × Int × Bool × (List arena_Span) × Int × Int × Int × Bool × (List UInt8) × (List UInt8) × Bool × (List UInt8) × (List UInt8) × Bool)) fun t105 =>
        bnd (bnd (cell_Same (⟨(⟨t105.1, t105.2.1⟩ : piece_Text), (⟨t105.2.2.1, t105.2.2.2.1⟩ : arena_Span), t105.2.2.2.2.1⟩ : cell_Cell) (⟨(⟨t105.2.2.2.2.2.1, t105.2.2.2.2.2.2.1⟩ : piece_Text), (⟨t105.2.2.2.2.2.2.2.1, t105.2.2.2.2.2.2.2.2.1⟩ : arena_Span), t105.2.2.2.2.2.2.2.2.2.1⟩ : cell_Cell) x2.2) fun x129 =>
        if (x129 == ((⟨t105.2.2.2.2.2.2.2.2.2.2.1, t105.2.2.2.2.2.2.2.2.2.2.2.1, t105.2.2.2.2.2.2.2.2.2.2.2.2.1⟩ : ref07_Cell) == (⟨t105.2.2.2.2.2.2.2.2.2.2.2.2.2.1, t105.2.2.2.2.2.2.2.2.2.2.2.2.2.2.1, t105.2.2.2.2.2.2.2.2.2.2.2.2.2.2.2⟩ : ref07_Cell))) = true then
          bnd (cell_Same (⟨(⟨t105.1, t105.2.1⟩ : piece_Text), (⟨t105.2.2.1, t105.2.2.2.1⟩ : arena_Span), t105.2.2.2.2.1⟩ : cell_Cell) (⟨(⟨t105.1, t105.2.1⟩ : piece_Text), (⟨t105.2.2.1, t105.2.2.2.1⟩ : arena_Span), t105.2.2.2.2.1⟩ : cell_Cell) x2.2) fun x131 =>
          if x131 = true then
            bnd (law07_awake) fun x133 =>
            some x133
          else
            some false
        else
          some false : Option Bool) fun t127 =>
        some t127
set_option maxHeartbeats 4000000 in
theorem law07_CellSame_c {a0 : List UInt8} {a1 : UInt8 × UInt8} {a2 : Bool × Bool} {res : Bool} (h0 : law07_CellSame a0 a1 a2 = some res) : CallF X 9 [.val (.string (bs a0)), .agg [.val (.int .u8 (a1.1.toNat : Int)), .val (.int .u8 (a1.2.toNat : Int))], .agg [.val (.bool a2.1), .val (.bool a2.2)]] [] (fun x => .val (.bool res)) (fun x => []) := by
 unfold law07_CellSame at h0
 refine CallF.mkG (X := X) Try.func9 rfl rfl Try.ntmps9 rfl rfl ?_
 refine T.seq ?_
 refine T.region ?_
 refine TL.op1 (OpR.boxImm rfl rfl) rfl ?_
 refine TL.op1 (OpR.boxImm rfl rfl) rfl ?_
 refine TL.op1 (OpR.pure rfl) rfl ?_
 refine TL.nil ?_
 show T X _ _ _
 refine T.seq ?_
 refine T.region ?_
 refine TL.op1 (OpR.pure rfl) rfl ?_
 obtain ⟨x1, hx1, h0⟩ := bnd_some h0
 refine TL.op1 (OpR.call0 fn42 (law07_cut_c hx1) rfl) rfl ?_
 refine TL.op1 (OpR.pure rfl) rfl ?_
 refine TL.nil ?_
 show T X _ _ _
 refine T.seq ?_
 refine T.region ?_
 refine TL.op1 (OpR.pure rfl) rfl ?_
 refine TL.op1 (OpR.toBytesM rfl rfl rfl rfl rfl rfl rfl) rfl ?_
 obtain ⟨x2, hx2, h0⟩ := bnd_some h0
 rcases x2 with x2 | x2
 · dsimp only at h0
   refine TL.op1 (OpR.call0 fn43 (arena_New_cx1 hx2) rfl) rfl ?_
   refine TL.op1 (OpR.pure rfl) rfl ?_
   refine TL.op1 (OpR.pure rfl) rfl ?_
   refine TL.op1 (OpR.pure rfl) rfl ?_
   refine TL.op1 (OpR.pure rfl) rfl ?_
   refine TL.op1 (OpR.pure rfl) rfl ?_
   refine TL.nil ?_
   show T X _ _ _
   refine T.seq ?_
   refine T.region ?_
   refine TL.op1 (OpR.pure rfl) rfl ?_
   refine TL.nil ?_
   show T X _ _ _
   refine T.seq ?_
   refine T.seq ?_
   refine T.region ?_
   refine TL.op1 (OpR.pure rfl) rfl ?_
   refine TL.op1 (OpR.toBytesM rfl rfl rfl rfl rfl rfl rfl) rfl ?_
   obtain ⟨x4, hx4, h0⟩ := bnd_some h0
   refine TL.op1 (OpR.call0 fn29 (scan_All_c hx4) rfl) rfl ?_
   refine TL.op1 (OpR.cast (OpR.pure rfl) (intE (lenM _ _))) rfl ?_
   refine TL.op1 (OpR.pure rfl) rfl ?_
   refine TL.nil ?_
   show T X _ _ _
   obtain ⟨t5, ht5, h0⟩ := bnd_some h0
   refine T.cutC (fun S' => ∃ y6 : Value, S' = ⟨[(9, .val y6), (7, .val (.pointer none)), (6, .val (.bool false)), (5, .nod [.val (.bool a2.1), .val (.bool a2.2)]), (4, .nod [.val (.int .u8 (a1.1.toNat : Int)), .val (.int .u8 (a1.2.toNat : Int))])], [.row y6 (List.map e_cell_Cell t5) 5 83], 107⟩) (fun _ h => h) ?_ ?_
   · refine T.block ?_
     obtain ⟨n9, n14⟩ := loop_some ht5
     refine T.loop (fun n S' => ∃ S'', Gst S' S'' ∧ ∃ y7 : Value, ∃ s8 : Int × (List cell_Cell), S'' = ⟨[(29, .val (.int .i64 s8.1)), (28, .val (.int .i64 (x4.length : Int))), (27, .sl 2 (List.map e_scan_Row x4)), (9, .val y7), (7, .val (.pointer none)), (6, .val (.bool false)), (5, .nod [.val (.bool a2.1), .val (.bool a2.2)]), (4, .nod [.val (.int .u8 (a1.1.toNat : Int)), .val (.int .u8 (a1.2.toNat : Int))])], [.row y7 (List.map e_cell_Cell s8.2) 5 83], 107⟩ ∧ iter (law07_CellSame.l2 x4) n s8 = some t5) n9 ?_ ?_
     · exact ⟨_, Gst.trans (Gst.only [4, 5, 6, 7, 9, 27, 28, 29] rfl) (Gst.nilRow (ow := []) 5 83 rfl), (.slice none 0 0), (0, []), rfl, n14⟩
     rintro n9 _ ⟨_, g, y7, s8, rfl, i13⟩
     refine T.ghost g ?_
     obtain ⟨m10, q11, rfl, q12, i13⟩ := iter_succ i13
     unfold law07_CellSame.l2 at q12
     refine T.seq ?_
     refine T.region ?_
     refine TL.op1 (OpR.pure rfl) rfl ?_
     refine TL.nil ?_
     show T X _ _ _
     refine T.seq ?_
     rcases ite_some q12 with ⟨c16, q12⟩ | ⟨c16, q12⟩
     rotate_left
     · refine T.condF rfl (decide_eq_false c16) ?_
       refine T.exit ?_
       obtain rfl := Option.some.inj q12
       obtain rfl : _ = _ := i13
       exact ⟨_, Gst.only [4, 5, 6, 7, 9] rfl, y7, rfl⟩
     refine T.condT rfl (decide_eq_true c16) ?_
     refine T.skip ?_
     show T X _ _ _
     refine T.seq ?_
     refine T.block ?_
     refine T.seq ?_
     refine T.region ?_
     obtain ⟨x17, hx17, q12⟩ := bnd_some q12
     refine TL.op1 (OpR.indexM e_scan_Row hx17 rfl rfl rfl rfl rfl) rfl ?_
     refine TL.op1 (OpR.pure rfl) rfl ?_
     refine TL.op (OpR.alloc rfl rfl (fun _ => rfl)) rfl (fun p18 => ?_)
     refine TL.op0 (OpR.store 1 rfl rfl rfl rfl rfl rfl rfl rfl) ?_
     refine TL.nil ?_
     show T X _ _ _
     refine T.seq ?_
     refine T.region ?_
     refine TL.op1 (OpR.pure rfl) rfl ?_
     refine TL.op1 (OpR.loadPtr 1 rfl rfl rfl rfl) rfl ?_
     refine TL.op1 (OpR.cast (OpR.pure rfl) (intE (lenM _ _))) rfl ?_
     refine TL.op1 (OpR.pure rfl) rfl ?_
     refine TL.nil ?_
     show T X _ _ _
     obtain ⟨t19, ht19, q12⟩ := bnd_some q12
     refine T.cutC (fun S' => ∃ y20 : Value, S' = ⟨[(29, .val (.int .i64 s8.1)), (28, .val (.int .i64 (x4.length : Int))), (27, .sl 2 (List.map e_scan_Row x4)), (9, .val y20), (7, .val (.pointer none)), (6, .val (.bool false)), (5, .nod [.val (.bool a2.1), .val (.bool a2.2)]), (4, .nod [.val (.int .u8 (a1.1.toNat : Int)), .val (.int .u8 (a1.2.toNat : Int))])], [.row y20 (List.map e_cell_Cell t19) 5 83], 107⟩) (fun _ h => h) ?_ ?_
     rotate_left
     · rintro _ ⟨y20, rfl⟩
       show T X _ _ _
       refine T.region ?_
       refine TL.op1 (OpR.pure rfl) rfl ?_
       refine TL.op1 (OpR.pure rfl) rfl ?_
       refine TL.nil ?_
       obtain rfl := Option.some.inj q12
       exact ⟨m10, Nat.lt_succ_self _, _, Gst.only [4, 5, 6, 7, 9, 27, 28, 29] rfl, y20, (w64 (s8.1 + 1), t19), rfl, i13⟩
     refine T.block ?_
     obtain ⟨n23, n28⟩ := loop_some ht19
     refine T.loop (fun n S' => ∃ S'', Gst S' S'' ∧ ∃ y21 : Value, ∃ s22 : Int × (List cell_Cell), S'' = ⟨[(36, .val (.int .i64 s22.1)), (35, .val (.int .i64 (x17.fFields.length : Int))), (34, .sl 4 (List.map e_scan_Field x17.fFields)), (29, .val (.int .i64 s8.1)), (28, .val (.int .i64 (x4.length : Int))), (27, .sl 2 (List.map e_scan_Row x4)), (9, .val y21), (7, .val (.pointer none)), (6, .val (.bool false)), (5, .nod [.val (.bool a2.1), .val (.bool a2.2)]), (4, .nod [.val (.int .u8 (a1.1.toNat : Int)), .val (.int .u8 (a1.2.toNat : Int))])], [.row y21 (List.map e_cell_Cell s22.2) 5 83], 107⟩ ∧ iter (law07_CellSame.l1 x17) n s22 = some t19) n23 ?_ ?_
     · exact ⟨_, Gst.trans (Gst.only [4, 5, 6, 7, 9, 27, 28, 29, 34, 35, 36] rfl) (Gst.pick [0] rfl rfl), y7, (0, s8.2), rfl, n28⟩
     rintro n23 _ ⟨_, g, y21, s22, rfl, i27⟩
     refine T.ghost g ?_
     obtain ⟨m24, q25, rfl, q26, i27⟩ := iter_succ i27
     unfold law07_CellSame.l1 at q26
     refine T.seq ?_
     refine T.region ?_
     refine TL.op1 (OpR.pure rfl) rfl ?_
     refine TL.nil ?_
     show T X _ _ _
     refine T.seq ?_
     rcases ite_some q26 with ⟨c30, q26⟩ | ⟨c30, q26⟩
     rotate_left
     · refine T.condF rfl (decide_eq_false c30) ?_
       refine T.exit ?_
       obtain rfl := Option.some.inj q26
       obtain rfl : _ = _ := i27
       exact ⟨_, Gst.only [4, 5, 6, 7, 9, 27, 28, 29] rfl, y21, rfl⟩
     refine T.condT rfl (decide_eq_true c30) ?_
     refine T.skip ?_
     show T X _ _ _
     refine T.seq ?_
     refine T.block ?_
     refine T.seq ?_
     refine T.region ?_
     obtain ⟨x31, hx31, q26⟩ := bnd_some q26
     refine TL.op1 (OpR.indexM e_scan_Field hx31 rfl rfl rfl rfl rfl) rfl ?_
     refine TL.op1 (OpR.pure rfl) rfl ?_
     refine TL.op (OpR.alloc rfl rfl (fun _ => rfl)) rfl (fun p32 => ?_)
     refine TL.op0 (OpR.store 1 rfl rfl rfl rfl rfl rfl rfl rfl) ?_
     refine TL.nil ?_
     show T X _ _ _
     refine T.region ?_
     refine TL.op1 (OpR.pure rfl) rfl ?_
     refine TL.op1 (OpR.loadPtr 1 rfl rfl rfl rfl) rfl ?_
     obtain ⟨x33, hx33, q26⟩ := bnd_some q26
     refine TL.op1 (OpR.call0 fn44 (cell_Load_c hx33) rfl) rfl ?_
     refine TL.op1 (OpR.lit rfl rfl rfl rfl rfl rfl rfl) rfl ?_
     obtain ⟨x34, hx34, q26⟩ := bnd_some q26
     refine TL.op (OpR.appendM (m := [x33]) e_cell_Cell 0 hx34 rfl rfl rfl rfl rfl rfl rfl rfl rfl (fun _ => rfl)) rfl (fun v35 => ?_)
     refine TL.op1 (OpR.pure rfl) rfl ?_
     refine TL.nil ?_
     show T X _ _ _
     refine T.region ?_
     refine TL.op1 (OpR.pure rfl) rfl ?_
     refine TL.op1 (OpR.pure rfl) rfl ?_
     refine TL.nil ?_
     obtain rfl := Option.some.inj q26
     exact ⟨m24, Nat.lt_succ_self _, _, Gst.trans (Gst.only [4, 5, 6, 7, 9, 27, 28, 29, 34, 35, 36] rfl) (Gst.pick [0] rfl rfl), v35, (w64 (s22.1 + 1), x34), rfl, i27⟩
   rintro _ ⟨y6, rfl⟩
   show T X _ _ _
   refine T.seq ?_
   refine T.seq ?_
   refine T.region ?_
   refine TL.op1 (OpR.pure rfl) rfl ?_
   refine TL.op1 (OpR.rowLenM e_cell_Cell 0 rfl rfl rfl rfl) rfl ?_
   refine TL.op1 (OpR.pure rfl) rfl ?_
   refine TL.nil ?_
   show T X _ _ _
   rcases ite_some h0 with ⟨c36, h0⟩ | ⟨c36, h0⟩
   · refine T.condT rfl (beq_iff_eq.2 c36) ?_
     refine T.seq ?_
     refine T.region ?_
     obtain ⟨x37, hx37, h0⟩ := bnd_some h0
     refine TL.op1 (OpR.call0 fn45 (law07_awake_c hx37) rfl) rfl ?_
     refine TL.op1 (OpR.pure rfl) rfl ?_
     refine TL.nil ?_
     show T X _ _ _
     refine T.ret ?_
     obtain rfl := Option.some.inj h0
     exact PostG.retP (ks := []) (Gst.trans (Gst.only [6] rfl) (Gst.pick [] rfl rfl)) undef (ResL.cons (ResV.tmp rfl) ResL.nil) rfl rfl rfl rfl
   refine T.condF rfl (beq_eq_false_iff_ne.2 c36) ?_
   refine T.skip ?_
   show T X _ _ _
   refine T.seq ?_
   refine T.region ?_
   refine TL.op (OpR.alloc rfl rfl (fun _ => rfl)) rfl (fun p38 => ?_)
   refine TL.nil ?_
   show T X _ _ _
   refine T.seq ?_
   refine T.region ?_
   refine TL.op (OpR.alloc rfl rfl (fun _ => rfl)) rfl (fun p39 => ?_)
   refine TL.nil ?_
   show T X _ _ _
   refine T.seq ?_
   refine T.seq ?_
   refine T.region ?_
   refine TL.op1 (OpR.pure rfl) rfl ?_
   refine TL.nil ?_
   show T X _ _ _
   obtain ⟨t40, ht40, h0⟩ := bnd_some h0
   refine T.cutC (fun S' => S' = ⟨[(15, .val (.pointer (some ⟨(blk p39), 0, none⟩))), (14, .val (.pointer (some ⟨(blk p38), 0, none⟩))), (7, .val (.pointer none)), (6, .val (.bool false))], [.var (blk p38) [.sl 2 (List.map e_arena_Span t40.1), .val (.int .i64 t40.2.1), .val (.int .i64 t40.2.2.1), .val (.int .i64 t40.2.2.2.1), .val (.bool t40.2.2.2.2.1), .sl 2 (List.map e_arena_Span t40.2.2.2.2.2.1), .val (.int .i64 t40.2.2.2.2.2.2.1), .val (.int .i64 t40.2.2.2.2.2.2.2.1), .val (.int .i64 t40.2.2.2.2.2.2.2.2.1), .val (.bool t40.2.2.2.2.2.2.2.2.2.1)] 85, .var (blk p39) [.val (.string (bs t40.2.2.2.2.2.2.2.2.2.2.1)), .val (.string (bs t40.2.2.2.2.2.2.2.2.2.2.2.1)), .val (.bool t40.2.2.2.2.2.2.2.2.2.2.2.2.1), .val (.string (bs t40.2.2.2.2.2.2.2.2.2.2.2.2.2.1)), .val (.string (bs t40.2.2.2.2.2.2.2.2.2.2.2.2.2.2.1)), .val (.bool t40.2.2.2.2.2.2.2.2.2.2.2.2.2.2.2)] 88], 107⟩) (fun _ h => h) ?_ ?_
   · refine T.block ?_
     obtain ⟨n42, n47⟩ := loop_some ht40
     refine T.loop (fun n S' => ∃ S'', Gst S' S'' ∧ ∃ s41 : Int × (List arena_Span) × Int × Int × Int × Bool × (List arena_Span) × Int × Int × Int × Bool × (List UInt8) × (List UInt8) × Bool × (List UInt8) × (List UInt8) × Bool, S'' = ⟨[(16, .val (.int .i64 s41.1)), (15, .val (.pointer (some ⟨(blk p39), 0, none⟩))), (14, .val (.pointer (some ⟨(blk p38), 0, none⟩))), (9, .val y6), (7, .val (.pointer none)), (6, .val (.bool false)), (5, .nod [.val (.bool a2.1), .val (.bool a2.2)]), (4, .nod [.val (.int .u8 (a1.1.toNat : Int)), .val (.int .u8 (a1.2.toNat : Int))])], [.row y6 (List.map e_cell_Cell t5) 5 83, .var (blk p38) [.sl 2 (List.map e_arena_Span s41.2.1), .val (.int .i64 s41.2.2.1), .val (.int .i64 s41.2.2.2.1), .val (.int .i64 s41.2.2.2.2.1), .val (.bool s41.2.2.2.2.2.1), .sl 2 (List.map e_arena_Span s41.2.2.2.2.2.2.1), .val (.int .i64 s41.2.2.2.2.2.2.2.1), .val (.int .i64 s41.2.2.2.2.2.2.2.2.1), .val (.int .i64 s41.2.2.2.2.2.2.2.2.2.1), .val (.bool s41.2.2.2.2.2.2.2.2.2.2.1)] 85, .var (blk p39) [.val (.string (bs s41.2.2.2.2.2.2.2.2.2.2.2.1)), .val (.string (bs s41.2.2.2.2.2.2.2.2.2.2.2.2.1)), .val (.bool s41.2.2.2.2.2.2.2.2.2.2.2.2.2.1), .val (.string (bs s41.2.2.2.2.2.2.2.2.2.2.2.2.2.2.1)), .val (.string (bs s41.2.2.2.2.2.2.2.2.2.2.2.2.2.2.2.1)), .val (.bool s41.2.2.2.2.2.2.2.2.2.2.2.2.2.2.2.2)] 88], 107⟩ ∧ iter (law07_CellSame.l3 a1 a2 t5) n s41 = some t40) n42 ?_ ?_
     · exact ⟨_, Gst.trans (Gst.only [4, 5, 6, 7, 9, 14, 15, 16] rfl) (Gst.denil (ReS.cons Re.refl (ReS.cons Re.refl (ReS.cons Re.refl (ReS.cons Re.refl (ReS.cons Re.refl (ReS.cons Re.refl (ReS.cons Re.refl (ReS.cons Re.refl ReS.nil)))))))) (ReO.same (ReO.var (ReL.cons (Re.base .nil) (ReL.cons Re.refl (ReL.cons Re.refl (ReL.cons Re.refl (ReL.cons Re.refl (ReL.cons (Re.base .nil) (ReL.cons Re.refl (ReL.cons Re.refl (ReL.cons Re.refl (ReL.cons Re.refl ReL.nil)))))))))) (ReO.var (ReL.cons Re.refl (ReL.cons Re.refl (ReL.cons Re.refl (ReL.cons Re.refl (ReL.cons Re.refl (ReL.cons Re.refl ReL.nil)))))) ReO.nil)))), (0, [], 0, 0, 0, false, [], 0, 0, 0, false, [], [], false, [], [], false), rfl, n47⟩
     rintro n42 _ ⟨_, g, s41, rfl, i46⟩
     refine T.ghost g ?_
     obtain ⟨m43, q44, rfl, q45, i46⟩ := iter_succ i46
     unfold law07_CellSame.l3 at q45
     refine T.seq ?_
     refine T.seq ?_
     refine T.region ?_
     refine TL.op1 (OpR.pure rfl) rfl ?_
     refine TL.op1 (OpR.pure rfl) rfl ?_
     refine TL.nil ?_
     show T X _ _ _
     rcases ite_some q45 with ⟨c49, q45⟩ | ⟨c49, q45⟩
     rotate_left
     · refine T.condF rfl (decide_eq_false c49) ?_
       refine T.exit ?_
       obtain rfl := Option.some.inj q45
       obtain rfl : _ = _ := i46
       exact ⟨_, Gst.trans (Gst.only [6, 7, 14, 15] rfl) (Gst.pick [1, 2] rfl rfl), rfl⟩
     refine T.condT rfl (decide_eq_true c49) ?_
     refine T.skip ?_
     show T X _ _ _
     refine T.seq ?_
     refine T.block ?_
     refine T.seq ?_
     refine T.region ?_
     refine TL.op1 (OpR.pure rfl) rfl ?_
     refine TL.op1 (OpR.pure rfl) rfl ?_
     refine TL.op1 (OpR.pure rfl) rfl ?_
     obtain ⟨x50, hx50, q45⟩ := bnd_some q45
     refine TL.op1 (OpR.indexNodM byteD (l := ([a1.1, a1.2] : List UInt8)) (rest := []) hx50 rfl rfl rfl rfl rfl rfl rfl (fun _ => rfl) rfl) rfl ?_
     refine TL.op1 (OpR.pure rfl) rfl ?_
     refine TL.op1 (OpR.cast (OpR.pure rfl) (intE (w64_u8 _))) rfl ?_
     refine TL.op1 (OpR.pure rfl) rfl ?_
     refine TL.op1 (OpR.rowLenM e_cell_Cell 0 rfl rfl rfl rfl) rfl ?_
     obtain ⟨x51, hx51, q45⟩ := bnd_some q45
     refine TL.op1 (OpR.rmdM hx51 rfl rfl rfl) rfl ?_
     obtain ⟨x52, hx52, q45⟩ := bnd_some q45
     refine TL.op1 (OpR.rowIndexM e_cell_Cell 0 hx52 rfl rfl rfl rfl rfl rfl rfl) rfl ?_
     refine TL.op1 (OpR.rowLoad0M (j := x51) e_cell_Cell 0 hx52 rfl rfl rfl rfl) rfl ?_
     obtain ⟨x53, hx53, q45⟩ := bnd_some q45
     refine TL.op1 (OpR.indexVarM (l := ([(⟨(⟨s41.2.1, s41.2.2.1⟩ : piece_Text), (⟨s41.2.2.2.1, s41.2.2.2.2.1⟩ : arena_Span), s41.2.2.2.2.2.1⟩ : cell_Cell), (⟨(⟨s41.2.2.2.2.2.2.1, s41.2.2.2.2.2.2.2.1⟩ : piece_Text), (⟨s41.2.2.2.2.2.2.2.2.1, s41.2.2.2.2.2.2.2.2.2.1⟩ : arena_Span), s41.2.2.2.2.2.2.2.2.2.2.1⟩ : cell_Cell)] : List cell_Cell)) hx53 rfl rfl rfl rfl rfl rfl rfl) rfl ?_
     refine TL.op0 (OpR.arrStoreN (off := 0) (sz := 5) (j := s41.1) (a' := x52) (l := ([(⟨(⟨s41.2.1, s41.2.2.1⟩ : piece_Text), (⟨s41.2.2.2.1, s41.2.2.2.2.1⟩ : arena_Span), s41.2.2.2.2.2.1⟩ : cell_Cell), (⟨(⟨s41.2.2.2.2.2.2.1, s41.2.2.2.2.2.2.2.1⟩ : piece_Text), (⟨s41.2.2.2.2.2.2.2.2.1, s41.2.2.2.2.2.2.2.2.2.1⟩ : arena_Span), s41.2.2.2.2.2.2.2.2.2.2.1⟩ : cell_Cell)] : List cell_Cell)) (pre := []) (rest := []) e_cell_Cell 1 hx53 rfl rfl rfl rfl rfl rfl (fun _ => rfl) rfl rfl rfl rfl) ?_
     refine TL.nil ?_
     show T X _ _ _
     refine T.seq ?_
     refine T.seq ?_
     refine T.region ?_
     refine TL.op1 (OpR.pure rfl) rfl ?_
     obtain ⟨x54, hx54, q45⟩ := bnd_some q45
     refine TL.op1 (OpR.indexNodM eB (l := ([a2.1, a2.2] : List Bool)) (rest := []) hx54 rfl rfl rfl rfl rfl rfl rfl (fun _ => rfl) rfl) rfl ?_
     refine TL.op1 (OpR.pure rfl) rfl ?_
     refine TL.nil ?_
     show T X _ _ _
     obtain ⟨t55, ht55, q45⟩ := bnd_some q45
     refine T.cutC (fun S' => S' = ⟨[(16, .val (.int .i64 s41.1)), (15, .val (.pointer (some ⟨(blk p39), 0, none⟩))), (14, .val (.pointer (some ⟨(blk p38), 0, none⟩))), (9, .val y6), (7, .val (.pointer none)), (6, .val (.bool false)), (5, .nod [.val (.bool a2.1), .val (.bool a2.2)]), (4, .nod [.val (.int .u8 (a1.1.toNat : Int)), .val (.int .u8 (a1.2.toNat : Int))])], [.row y6 (List.map e_cell_Cell t5) 5 83, .var (blk p38) [.sl 2 (List.map e_arena_Span t55.1), .val (.int .i64 t55.2.1), .val (.int .i64 t55.2.2.1), .val (.int .i64 t55.2.2.2.1), .val (.bool t55.2.2.2.2.1), .sl 2 (List.map e_arena_Span t55.2.2.2.2.2.1), .val (.int .i64 t55.2.2.2.2.2.2.1), .val (.int .i64 t55.2.2.2.2.2.2.2.1), .val (.int .i64 t55.2.2.2.2.2.2.2.2.1), .val (.bool t55.2.2.2.2.2.2.2.2.2)] 85, .var (blk p39) [.val (.string (bs s41.2.2.2.2.2.2.2.2.2.2.2.1)), .val (.string (bs s41.2.2.2.2.2.2.2.2.2.2.2.2.1)), .val (.bool s41.2.2.2.2.2.2.2.2.2.2.2.2.2.1), .val (.string (bs s41.2.2.2.2.2.2.2.2.2.2.2.2.2.2.1)), .val (.string (bs s41.2.2.2.2.2.2.2.2.2.2.2.2.2.2.2.1)), .val (.bool s41.2.2.2.2.2.2.2.2.2.2.2.2.2.2.2.2)] 88], 107⟩) (fun _ h => h) ?_ ?_
     rotate_left
     · rintro _ rfl
       show T X _ _ _
       refine T.region ?_
       refine TL.op1 (OpR.pure rfl) rfl ?_
       refine TL.op1 (OpR.pure rfl) rfl ?_
       refine TL.op1 (OpR.pure rfl) rfl ?_
       obtain ⟨x59, hx59, q45⟩ := bnd_some q45
       refine TL.op1 (OpR.indexVarM (l := ([(⟨(⟨t55.1, t55.2.1⟩ : piece_Text), (⟨t55.2.2.1, t55.2.2.2.1⟩ : arena_Span), t55.2.2.2.2.1⟩ : cell_Cell), (⟨(⟨t55.2.2.2.2.2.1, t55.2.2.2.2.2.2.1⟩ : piece_Text), (⟨t55.2.2.2.2.2.2.2.1, t55.2.2.2.2.2.2.2.2.1⟩ : arena_Span), t55.2.2.2.2.2.2.2.2.2⟩ : cell_Cell)] : List cell_Cell)) hx59 rfl rfl rfl rfl rfl rfl rfl) rfl ?_
       refine TL.op1 (OpR.arrLoadM (off := 0) (sz := 5) (j := s41.1) (rest := []) e_cell_Cell 1 hx59 rfl rfl rfl (fun _ => rfl) rfl rfl) rfl ?_
       obtain ⟨x60, hx60, q45⟩ := bnd_some q45
       refine TL.op1 (OpR.call0 fn47 (law07_Plain_nil_c hx60) rfl) rfl ?_
       obtain ⟨x61, hx61, q45⟩ := bnd_some q45
       refine TL.op1 (OpR.indexVarM (l := ([(⟨s41.2.2.2.2.2.2.2.2.2.2.2.1, s41.2.2.2.2.2.2.2.2.2.2.2.2.1, s41.2.2.2.2.2.2.2.2.2.2.2.2.2.1⟩ : ref07_Cell), (⟨s41.2.2.2.2.2.2.2.2.2.2.2.2.2.2.1, s41.2.2.2.2.2.2.2.2.2.2.2.2.2.2.2.1, s41.2.2.2.2.2.2.2.2.2.2.2.2.2.2.2.2⟩ : ref07_Cell)] : List ref07_Cell)) hx61 rfl rfl rfl rfl rfl rfl rfl) rfl ?_
       refine TL.op0 (OpR.arrStoreN (off := 0) (sz := 3) (j := s41.1) (a' := x60) (l := ([(⟨s41.2.2.2.2.2.2.2.2.2.2.2.1, s41.2.2.2.2.2.2.2.2.2.2.2.2.1, s41.2.2.2.2.2.2.2.2.2.2.2.2.2.1⟩ : ref07_Cell), (⟨s41.2.2.2.2.2.2.2.2.2.2.2.2.2.2.1, s41.2.2.2.2.2.2.2.2.2.2.2.2.2.2.2.1, s41.2.2.2.2.2.2.2.2.2.2.2.2.2.2.2.2⟩ : ref07_Cell)] : List ref07_Cell)) (pre := []) (rest := []) e_ref07_Cell 2 hx61 rfl rfl rfl rfl rfl rfl (fun _ => rfl) rfl rfl rfl rfl) ?_
       refine TL.nil ?_
       show T X _ _ _
       refine T.region ?_
       refine TL.op1 (OpR.pure rfl) rfl ?_
       refine TL.op1 (OpR.pure rfl) rfl ?_
       refine TL.op1 (OpR.pure rfl) rfl ?_
       refine TL.nil ?_
       obtain rfl := Option.some.inj q45
       exact ⟨m43, Nat.lt_succ_self _, _, Gst.only [4, 5, 6, 7, 9, 14, 15, 16] rfl, (w64 (s41.1 + 1), t55.1, t55.2.1, t55.2.2.1, t55.2.2.2.1, t55.2.2.2.2.1, t55.2.2.2.2.2.1, t55.2.2.2.2.2.2.1, t55.2.2.2.2.2.2.2.1, t55.2.2.2.2.2.2.2.2.1, t55.2.2.2.2.2.2.2.2.2, (if s41.1 = 0 then x60 else (⟨s41.2.2.2.2.2.2.2.2.2.2.2.1, s41.2.2.2.2.2.2.2.2.2.2.2.2.1, s41.2.2.2.2.2.2.2.2.2.2.2.2.2.1⟩ : ref07_Cell)).fS, (if s41.1 = 0 then x60 else (⟨s41.2.2.2.2.2.2.2.2.2.2.2.1, s41.2.2.2.2.2.2.2.2.2.2.2.2.1, s41.2.2.2.2.2.2.2.2.2.2.2.2.2.1⟩ : ref07_Cell)).fRaw, ((if s41.1 = 0 then x60 else (⟨s41.2.2.2.2.2.2.2.2.2.2.2.1, s41.2.2.2.2.2.2.2.2.2.2.2.2.1, s41.2.2.2.2.2.2.2.2.2.2.2.2.2.1⟩ : ref07_Cell)).fKept), (if s41.1 - 1 = 0 then x60 else (⟨s41.2.2.2.2.2.2.2.2.2.2.2.2.2.2.1, s41.2.2.2.2.2.2.2.2.2.2.2.2.2.2.2.1, s41.2.2.2.2.2.2.2.2.2.2.2.2.2.2.2.2⟩ : ref07_Cell)).fS, (if s41.1 - 1 = 0 then x60 else (⟨s41.2.2.2.2.2.2.2.2.2.2.2.2.2.2.1, s41.2.2.2.2.2.2.2.2.2.2.2.2.2.2.2.1, s41.2.2.2.2.2.2.2.2.2.2.2.2.2.2.2.2⟩ : ref07_Cell)).fRaw, ((if s41.1 - 1 = 0 then x60 else (⟨s41.2.2.2.2.2.2.2.2.2.2.2.2.2.2.1, s41.2.2.2.2.2.2.2.2.2.2.2.2.2.2.2.1, s41.2.2.2.2.2.2.2.2.2.2.2.2.2.2.2.2⟩ : ref07_Cell)).fKept)), rfl, i46⟩
     rcases ite_some ht55 with ⟨c56, ht55⟩ | ⟨c56, ht55⟩
     rotate_left
     · refine T.condF rfl (eq_false_of_ne_true c56) ?_
       refine T.skip ?_
       obtain rfl := Option.some.inj ht55
       exact ⟨_, Gst.only [4, 5, 6, 7, 9, 14, 15, 16] rfl, rfl⟩
     refine T.condT rfl (c56) ?_
     refine T.region ?_
     refine TL.op1 (OpR.pure rfl) rfl ?_
     refine TL.op1 (OpR.pure rfl) rfl ?_
     obtain ⟨x57, hx57, ht55⟩ := bnd_some ht55
     refine TL.op1 (OpR.indexVarM (l := ([(⟨((if s41.1 = 0 then x52 else (⟨(⟨s41.2.1, s41.2.2.1⟩ : piece_Text), (⟨s41.2.2.2.1, s41.2.2.2.2.1⟩ : arena_Span), s41.2.2.2.2.2.1⟩ : cell_Cell)).fText), ((if s41.1 = 0 then x52 else (⟨(⟨s41.2.1, s41.2.2.1⟩ : piece_Text), (⟨s41.2.2.2.1, s41.2.2.2.2.1⟩ : arena_Span), s41.2.2.2.2.2.1⟩ : cell_Cell)).fRaw), ((if s41.1 = 0 then x52 else (⟨(⟨s41.2.1, s41.2.2.1⟩ : piece_Text), (⟨s41.2.2.2.1, s41.2.2.2.2.1⟩ : arena_Span), s41.2.2.2.2.2.1⟩ : cell_Cell)).fKept)⟩ : cell_Cell), (⟨((if s41.1 - 1 = 0 then x52 else (⟨(⟨s41.2.2.2.2.2.2.1, s41.2.2.2.2.2.2.2.1⟩ : piece_Text), (⟨s41.2.2.2.2.2.2.2.2.1, s41.2.2.2.2.2.2.2.2.2.1⟩ : arena_Span), s41.2.2.2.2.2.2.2.2.2.2.1⟩ : cell_Cell)).fText), ((if s41.1 - 1 = 0 then x52 else (⟨(⟨s41.2.2.2.2.2.2.1, s41.2.2.2.2.2.2.2.1⟩ : piece_Text), (⟨s41.2.2.2.2.2.2.2.2.1, s41.2.2.2.2.2.2.2.2.2.1⟩ : arena_Span), s41.2.2.2.2.2.2.2.2.2.2.1⟩ : cell_Cell)).fRaw), ((if s41.1 - 1 = 0 then x52 else (⟨(⟨s41.2.2.2.2.2.2.1, s41.2.2.2.2.2.2.2.1⟩ : piece_Text), (⟨s41.2.2.2.2.2.2.2.2.1, s41.2.2.2.2.2.2.2.2.2.1⟩ : arena_Span), s41.2.2.2.2.2.2.2.2.2.2.1⟩ : cell_Cell)).fKept)⟩ : cell_Cell)] : List cell_Cell)) hx57 rfl rfl rfl rfl rfl rfl rfl) rfl ?_
     refine TL.op1 (OpR.pure rfl) rfl ?_
     refine TL.op1 (OpR.arrLoadM (off := 0) (sz := 5) (j := s41.1) (rest := []) e_cell_Cell 1 hx57 rfl rfl rfl (fun _ => rfl) rfl rfl) rfl ?_
     obtain ⟨x58, hx58, ht55⟩ := bnd_some ht55
     refine TL.op1 (OpR.call0 fn46 (cell_Of_c hx58) rfl) rfl ?_
     refine TL.op1 (OpR.indexVarM (l := ([(⟨((if s41.1 = 0 then x52 else (⟨(⟨s41.2.1, s41.2.2.1⟩ : piece_Text), (⟨s41.2.2.2.1, s41.2.2.2.2.1⟩ : arena_Span), s41.2.2.2.2.2.1⟩ : cell_Cell)).fText), ((if s41.1 = 0 then x52 else (⟨(⟨s41.2.1, s41.2.2.1⟩ : piece_Text), (⟨s41.2.2.2.1, s41.2.2.2.2.1⟩ : arena_Span), s41.2.2.2.2.2.1⟩ : cell_Cell)).fRaw), ((if s41.1 = 0 then x52 else (⟨(⟨s41.2.1, s41.2.2.1⟩ : piece_Text), (⟨s41.2.2.2.1, s41.2.2.2.2.1⟩ : arena_Span), s41.2.2.2.2.2.1⟩ : cell_Cell)).fKept)⟩ : cell_Cell), (⟨((if s41.1 - 1 = 0 then x52 else (⟨(⟨s41.2.2.2.2.2.2.1, s41.2.2.2.2.2.2.2.1⟩ : piece_Text), (⟨s41.2.2.2.2.2.2.2.2.1, s41.2.2.2.2.2.2.2.2.2.1⟩ : arena_Span), s41.2.2.2.2.2.2.2.2.2.2.1⟩ : cell_Cell)).fText), ((if s41.1 - 1 = 0 then x52 else (⟨(⟨s41.2.2.2.2.2.2.1, s41.2.2.2.2.2.2.2.1⟩ : piece_Text), (⟨s41.2.2.2.2.2.2.2.2.1, s41.2.2.2.2.2.2.2.2.2.1⟩ : arena_Span), s41.2.2.2.2.2.2.2.2.2.2.1⟩ : cell_Cell)).fRaw), ((if s41.1 - 1 = 0 then x52 else (⟨(⟨s41.2.2.2.2.2.2.1, s41.2.2.2.2.2.2.2.1⟩ : piece_Text), (⟨s41.2.2.2.2.2.2.2.2.1, s41.2.2.2.2.2.2.2.2.2.1⟩ : arena_Span), s41.2.2.2.2.2.2.2.2.2.2.1⟩ : cell_Cell)).fKept)⟩ : cell_Cell)] : List cell_Cell)) hx57 rfl rfl rfl rfl rfl rfl rfl) rfl ?_
     refine TL.op0 (OpR.arrStoreN (off := 0) (sz := 5) (j := s41.1) (a' := x58) (l := ([(⟨((if s41.1 = 0 then x52 else (⟨(⟨s41.2.1, s41.2.2.1⟩ : piece_Text), (⟨s41.2.2.2.1, s41.2.2.2.2.1⟩ : arena_Span), s41.2.2.2.2.2.1⟩ : cell_Cell)).fText), ((if s41.1 = 0 then x52 else (⟨(⟨s41.2.1, s41.2.2.1⟩ : piece_Text), (⟨s41.2.2.2.1, s41.2.2.2.2.1⟩ : arena_Span), s41.2.2.2.2.2.1⟩ : cell_Cell)).fRaw), ((if s41.1 = 0 then x52 else (⟨(⟨s41.2.1, s41.2.2.1⟩ : piece_Text), (⟨s41.2.2.2.1, s41.2.2.2.2.1⟩ : arena_Span), s41.2.2.2.2.2.1⟩ : cell_Cell)).fKept)⟩ : cell_Cell), (⟨((if s41.1 - 1 = 0 then x52 else (⟨(⟨s41.2.2.2.2.2.2.1, s41.2.2.2.2.2.2.2.1⟩ : piece_Text), (⟨s41.2.2.2.2.2.2.2.2.1, s41.2.2.2.2.2.2.2.2.2.1⟩ : arena_Span), s41.2.2.2.2.2.2.2.2.2.2.1⟩ : cell_Cell)).fText), ((if s41.1 - 1 = 0 then x52 else (⟨(⟨s41.2.2.2.2.2.2.1, s41.2.2.2.2.2.2.2.1⟩ : piece_Text), (⟨s41.2.2.2.2.2.2.2.2.1, s41.2.2.2.2.2.2.2.2.2.1⟩ : arena_Span), s41.2.2.2.2.2.2.2.2.2.2.1⟩ : cell_Cell)).fRaw), ((if s41.1 - 1 = 0 then x52 else (⟨(⟨s41.2.2.2.2.2.2.1, s41.2.2.2.2.2.2.2.1⟩ : piece_Text), (⟨s41.2.2.2.2.2.2.2.2.1, s41.2.2.2.2.2.2.2.2.2.1⟩ : arena_Span), s41.2.2.2.2.2.2.2.2.2.2.1⟩ : cell_Cell)).fKept)⟩ : cell_Cell)] : List cell_Cell)) (pre := []) (rest := []) e_cell_Cell 1 hx57 rfl rfl rfl rfl rfl rfl (fun _ => rfl) rfl rfl rfl rfl) ?_
     refine TL.nil ?_
     obtain rfl := Option.some.inj ht55
     exact ⟨_, Gst.only [4, 5, 6, 7, 9, 14, 15, 16] rfl, rfl⟩
   rintro _ rfl
   show T X _ _ _
   refine T.seq ?_
   obtain ⟨t62, ht62, h0⟩ := bnd_some h0
   refine T.cutC (fun S' => S' = ⟨[(6, .val (.bool t62))], [], 107⟩) (fun _ h => h) ?_ ?_
   rotate_left
   · rintro _ rfl
     show T X _ _ _
     refine T.ret ?_
     obtain rfl := Option.some.inj h0
     exact PostG.retP (ks := []) (Gst.only [6] rfl) undef (ResL.cons (ResV.tmp rfl) ResL.nil) rfl rfl rfl rfl
   obtain ⟨x64, hx64, ht62⟩ := bnd_some ht62
   rcases ite_some ht62 with ⟨c65, ht62⟩ | ⟨c65, ht62⟩
   rotate_left
   · refine T.drawQ drawsX [.val (.pointer none), .val (.pointer (some ⟨(blk p38), 0, none⟩)), .agg [.sl 2 (List.map e_arena_Span t40.1), .val (.int .i64 t40.2.1), .val (.int .i64 t40.2.2.1), .val (.int .i64 t40.2.2.2.1), .val (.bool t40.2.2.2.2.1)], .val (.pointer (some ⟨(blk p38), 5, none⟩)), .agg [.sl 2 (List.map e_arena_Span t40.2.2.2.2.2.1), .val (.int .i64 t40.2.2.2.2.2.2.1), .val (.int .i64 t40.2.2.2.2.2.2.2.1), .val (.int .i64 t40.2.2.2.2.2.2.2.2.1), .val (.bool t40.2.2.2.2.2.2.2.2.2.1)], .val (.bool x64), .val (.pointer (some ⟨(blk p39), 0, none⟩)), .agg [.val (.string (bs t40.2.2.2.2.2.2.2.2.2.2.1)), .val (.string (bs t40.2.2.2.2.2.2.2.2.2.2.2.1)), .val (.bool t40.2.2.2.2.2.2.2.2.2.2.2.2.1)], .val (.pointer (some ⟨(blk p39), 3, none⟩)), .agg [.val (.string (bs t40.2.2.2.2.2.2.2.2.2.2.2.2.2.1)), .val (.string (bs t40.2.2.2.2.2.2.2.2.2.2.2.2.2.2.1)), .val (.bool t40.2.2.2.2.2.2.2.2.2.2.2.2.2.2.2)], .val (.bool ((⟨t40.2.2.2.2.2.2.2.2.2.2.1, t40.2.2.2.2.2.2.2.2.2.2.2.1, t40.2.2.2.2.2.2.2.2.2.2.2.2.1⟩ : ref07_Cell) == (⟨t40.2.2.2.2.2.2.2.2.2.2.2.2.2.1, t40.2.2.2.2.2.2.2.2.2.2.2.2.2.2.1, t40.2.2.2.2.2.2.2.2.2.2.2.2.2.2.2⟩ : ref07_Cell))), .val (.bool (x64 == ((⟨t40.2.2.2.2.2.2.2.2.2.2.1, t40.2.2.2.2.2.2.2.2.2.2.2.1, t40.2.2.2.2.2.2.2.2.2.2.2.2.1⟩ : ref07_Cell) == (⟨t40.2.2.2.2.2.2.2.2.2.2.2.2.2.1, t40.2.2.2.2.2.2.2.2.2.2.2.2.2.2.1, t40.2.2.2.2.2.2.2.2.2.2.2.2.2.2.2⟩ : ref07_Cell)))), .val (.bool (x64 == ((⟨t40.2.2.2.2.2.2.2.2.2.2.1, t40.2.2.2.2.2.2.2.2.2.2.2.1, t40.2.2.2.2.2.2.2.2.2.2.2.2.1⟩ : ref07_Cell) == (⟨t40.2.2.2.2.2.2.2.2.2.2.2.2.2.1, t40.2.2.2.2.2.2.2.2.2.2.2.2.2.2.1, t40.2.2.2.2.2.2.2.2.2.2.2.2.2.2.2⟩ : ref07_Cell)))), .tup [], .tup [], .tup [], .tup [], .tup [], .tup [], .val (.bool false), .val (.bool false), .tup [], .val (.bool false), .val (.bool false)] [6, 7, 14, 15, 84, 85, 86, 87, 88, 89, 90, 91, 92, 93, 94, 95, 96, 97, 98, 99, 100, 101, 102, 103, 104, 105, 106] (by decide +kernel) rfl ?_ rfl ?_
     rotate_left
     · obtain rfl := Option.some.inj ht62
       exact ⟨_, Gst.trans (Gst.only [6] rfl) (Gst.pick [] rfl rfl), rfl⟩
     refine OpsQ.yes (Want.plain rfl) rfl (OpR.pure rfl) ?_
     refine OpsQ.yes (Want.plain rfl) rfl (OpR.indexVarE 0 rfl rfl rfl rfl rfl rfl rfl) ?_
     refine OpsQ.yes (Want.plain rfl) rfl (OpR.loadPtr 0 rfl rfl rfl rfl) ?_
     refine OpsQ.yes (Want.plain rfl) rfl (OpR.indexVarE 1 rfl rfl rfl rfl rfl rfl rfl) ?_
     refine OpsQ.yes (Want.plain rfl) rfl (OpR.loadPtr 0 rfl rfl rfl rfl) ?_
     refine OpsQ.yes (Want.plain rfl) rfl (OpR.call0 fn48 (cell_Same_nil_c hx64) rfl) ?_
     refine OpsQ.yes (Want.plain rfl) rfl (OpR.indexVarE 0 rfl rfl rfl rfl rfl rfl rfl) ?_
     refine OpsQ.yes (Want.plain rfl) rfl (OpR.loadPtr 1 rfl rfl rfl rfl) ?_
     refine OpsQ.yes (Want.plain rfl) rfl (OpR.indexVarE 1 rfl rfl rfl rfl rfl rfl rfl) ?_
     refine OpsQ.yes (Want.plain rfl) rfl (OpR.loadPtr 1 rfl rfl rfl rfl) ?_
     refine OpsQ.yes (Want.plain rfl) rfl (OpR.cast (OpR.eqStruct rfl rfl rfl rfl rfl (by kernel_rfl) (by kernel_rfl)) (boolE (beq_ref07_Cell (⟨t40.2.2.2.2.2.2.2.2.2.2.1, t40.2.2.2.2.2.2.2.2.2.2.2.1, t40.2.2.2.2.2.2.2.2.2.2.2.2.1⟩ : ref07_Cell) (⟨t40.2.2.2.2.2.2.2.2.2.2.2.2.2.1, t40.2.2.2.2.2.2.2.2.2.2.2.2.2.2.1, t40.2.2.2.2.2.2.2.2.2.2.2.2.2.2.2⟩ : ref07_Cell)))) ?_
     refine OpsQ.yes (Want.plain rfl) rfl (OpR.eqBool rfl rfl rfl rfl) ?_
     refine OpsQ.yes (Want.plain rfl) rfl (OpR.pure rfl) ?_
     refine OpsQ.no (Want.bool rfl rfl rfl rfl (by rw [(eq_false_of_ne_true c65)]; rfl)) rfl ?_
     refine OpsQ.no (Want.bool rfl rfl rfl rfl (by rw [(eq_false_of_ne_true c65)]; rfl)) rfl ?_
     refine OpsQ.no (Want.bool rfl rfl rfl rfl (by rw [(eq_false_of_ne_true c65)]; rfl)) rfl ?_
     refine OpsQ.no (Want.bool rfl rfl rfl rfl (by rw [(eq_false_of_ne_true c65)]; rfl)) rfl ?_
     refine OpsQ.no (Want.bool rfl rfl rfl rfl (by rw [(eq_false_of_ne_true c65)]; rfl)) rfl ?_
     refine OpsQ.no (Want.bool rfl rfl rfl rfl (by rw [(eq_false_of_ne_true c65)]; rfl)) rfl ?_
     refine OpsQ.yes (Want.plain rfl) rfl (OpR.pickF rfl (eq_false_of_ne_true c65) rfl) ?_
     refine OpsQ.yes (Want.plain rfl) rfl (OpR.pure rfl) ?_
     refine OpsQ.no (Want.bool rfl rfl rfl rfl rfl) rfl ?_
     refine OpsQ.yes (Want.plain rfl) rfl (OpR.pickF rfl rfl rfl) ?_
     refine OpsQ.yes (Want.plain rfl) rfl (OpR.pure rfl) ?_
     exact OpsQ.nil
   obtain ⟨x66, hx66, ht62⟩ := bnd_some ht62
   rcases ite_some ht62 with ⟨c67, ht62⟩ | ⟨c67, ht62⟩
   rotate_left
   · refine T.drawQ drawsX [.val (.pointer none), .val (.pointer (some ⟨(blk p38), 0, none⟩)), .agg [.sl 2 (List.map e_arena_Span t40.1), .val (.int .i64 t40.2.1), .val (.int .i64 t40.2.2.1), .val (.int .i64 t40.2.2.2.1), .val (.bool t40.2.2.2.2.1)], .val (.pointer (some ⟨(blk p38), 5, none⟩)), .agg [.sl 2 (List.map e_arena_Span t40.2.2.2.2.2.1), .val (.int .i64 t40.2.2.2.2.2.2.1), .val (.int .i64 t40.2.2.2.2.2.2.2.1), .val (.int .i64 t40.2.2.2.2.2.2.2.2.1), .val (.bool t40.2.2.2.2.2.2.2.2.2.1)], .val (.bool x64), .val (.pointer (some ⟨(blk p39), 0, none⟩)), .agg [.val (.string (bs t40.2.2.2.2.2.2.2.2.2.2.1)), .val (.string (bs t40.2.2.2.2.2.2.2.2.2.2.2.1)), .val (.bool t40.2.2.2.2.2.2.2.2.2.2.2.2.1)], .val (.pointer (some ⟨(blk p39), 3, none⟩)), .agg [.val (.string (bs t40.2.2.2.2.2.2.2.2.2.2.2.2.2.1)), .val (.string (bs t40.2.2.2.2.2.2.2.2.2.2.2.2.2.2.1)), .val (.bool t40.2.2.2.2.2.2.2.2.2.2.2.2.2.2.2)], .val (.bool ((⟨t40.2.2.2.2.2.2.2.2.2.2.1, t40.2.2.2.2.2.2.2.2.2.2.2.1, t40.2.2.2.2.2.2.2.2.2.2.2.2.1⟩ : ref07_Cell) == (⟨t40.2.2.2.2.2.2.2.2.2.2.2.2.2.1, t40.2.2.2.2.2.2.2.2.2.2.2.2.2.2.1, t40.2.2.2.2.2.2.2.2.2.2.2.2.2.2.2⟩ : ref07_Cell))), .val (.bool (x64 == ((⟨t40.2.2.2.2.2.2.2.2.2.2.1, t40.2.2.2.2.2.2.2.2.2.2.2.1, t40.2.2.2.2.2.2.2.2.2.2.2.2.1⟩ : ref07_Cell) == (⟨t40.2.2.2.2.2.2.2.2.2.2.2.2.2.1, t40.2.2.2.2.2.2.2.2.2.2.2.2.2.2.1, t40.2.2.2.2.2.2.2.2.2.2.2.2.2.2.2⟩ : ref07_Cell)))), .val (.bool (x64 == ((⟨t40.2.2.2.2.2.2.2.2.2.2.1, t40.2.2.2.2.2.2.2.2.2.2.2.1, t40.2.2.2.2.2.2.2.2.2.2.2.2.1⟩ : ref07_Cell) == (⟨t40.2.2.2.2.2.2.2.2.2.2.2.2.2.1, t40.2.2.2.2.2.2.2.2.2.2.2.2.2.2.1, t40.2.2.2.2.2.2.2.2.2.2.2.2.2.2.2⟩ : ref07_Cell)))), .val (.pointer none), .val (.pointer (some ⟨(blk p38), 0, none⟩)), .agg [.sl 2 (List.map e_arena_Span t40.1), .val (.int .i64 t40.2.1), .val (.int .i64 t40.2.2.1), .val (.int .i64 t40.2.2.2.1), .val (.bool t40.2.2.2.2.1)], .val (.pointer (some ⟨(blk p38), 0, none⟩)), .agg [.sl 2 (List.map e_arena_Span t40.1), .val (.int .i64 t40.2.1), .val (.int .i64 t40.2.2.1), .val (.int .i64 t40.2.2.2.1), .val (.bool t40.2.2.2.2.1)], .val (.bool x66), .val (.bool x66), .val (.bool x66), .tup [], .val (.bool false), .val (.bool false)] [6, 7, 14, 15, 84, 85, 86, 87, 88, 89, 90, 91, 92, 93, 94, 95, 96, 97, 98, 99, 100, 101, 102, 103, 104, 105, 106] (by decide +kernel) rfl ?_ rfl ?_
     rotate_left
     · obtain rfl := Option.some.inj ht62
       exact ⟨_, Gst.trans (Gst.only [6] rfl) (Gst.pick [] rfl rfl), rfl⟩
     refine OpsQ.yes (Want.plain rfl) rfl (OpR.pure rfl) ?_
     refine OpsQ.yes (Want.plain rfl) rfl (OpR.indexVarE 0 rfl rfl rfl rfl rfl rfl rfl) ?_
     refine OpsQ.yes (Want.plain rfl) rfl (OpR.loadPtr 0 rfl rfl rfl rfl) ?_
     refine OpsQ.yes (Want.plain rfl) rfl (OpR.indexVarE 1 rfl rfl rfl rfl rfl rfl rfl) ?_
     refine OpsQ.yes (Want.plain rfl) rfl (OpR.loadPtr 0 rfl rfl rfl rfl) ?_
     refine OpsQ.yes (Want.plain rfl) rfl (OpR.call0 fn48 (cell_Same_nil_c hx64) rfl) ?_
     refine OpsQ.yes (Want.plain rfl) rfl (OpR.indexVarE 0 rfl rfl rfl rfl rfl rfl rfl) ?_
     refine OpsQ.yes (Want.plain rfl) rfl (OpR.loadPtr 1 rfl rfl rfl rfl) ?_
     refine OpsQ.yes (Want.plain rfl) rfl (OpR.indexVarE 1 rfl rfl rfl rfl rfl rfl rfl) ?_
     refine OpsQ.yes (Want.plain rfl) rfl (OpR.loadPtr 1 rfl rfl rfl rfl) ?_
     refine OpsQ.yes (Want.plain rfl) rfl (OpR.cast (OpR.eqStruct rfl rfl rfl rfl rfl (by kernel_rfl) (by kernel_rfl)) (boolE (beq_ref07_Cell (⟨t40.2.2.2.2.2.2.2.2.2.2.1, t40.2.2.2.2.2.2.2.2.2.2.2.1, t40.2.2.2.2.2.2.2.2.2.2.2.2.1⟩ : ref07_Cell) (⟨t40.2.2.2.2.2.2.2.2.2.2.2.2.2.1, t40.2.2.2.2.2.2.2.2.2.2.2.2.2.2.1, t40.2.2.2.2.2.2.2.2.2.2.2.2.2.2.2⟩ : ref07_Cell)))) ?_
     refine OpsQ.yes (Want.plain rfl) rfl (OpR.eqBool rfl rfl rfl rfl) ?_
     refine OpsQ.yes (Want.plain rfl) rfl (OpR.pure rfl) ?_
     refine OpsQ.yes (Want.bool rfl rfl rfl rfl (by rw [(c65)]; rfl)) rfl (OpR.pure rfl) ?_
     refine OpsQ.yes (Want.bool rfl rfl rfl rfl (by rw [(c65)]; rfl)) rfl (OpR.indexVarE 0 rfl rfl rfl rfl rfl rfl rfl) ?_
     refine OpsQ.yes (Want.bool rfl rfl rfl rfl (by rw [(c65)]; rfl)) rfl (OpR.loadPtr 0 rfl rfl rfl rfl) ?_
     refine OpsQ.yes (Want.bool rfl rfl rfl rfl (by rw [(c65)]; rfl)) rfl (OpR.indexVarE 0 rfl rfl rfl rfl rfl rfl rfl) ?_
     refine OpsQ.yes (Want.bool rfl rfl rfl rfl (by rw [(c65)]; rfl)) rfl (OpR.loadPtr 0 rfl rfl rfl rfl) ?_
     refine OpsQ.yes (Want.bool rfl rfl rfl rfl (by rw [(c65)]; rfl)) rfl (OpR.call0 fn48 (cell_Same_nil_c hx66) rfl) ?_
     refine OpsQ.yes (Want.plain rfl) rfl (OpR.pickT rfl (c65) rfl) ?_
     refine OpsQ.yes (Want.plain rfl) rfl (OpR.pure rfl) ?_
     refine OpsQ.no (Want.bool rfl rfl rfl rfl (by rw [(eq_false_of_ne_true c67)]; rfl)) rfl ?_
     refine OpsQ.yes (Want.plain rfl) rfl (OpR.pickF rfl (eq_false_of_ne_true c67) rfl) ?_
     refine OpsQ.yes (Want.plain rfl) rfl (OpR.pure rfl) ?_
     exact OpsQ.nil
   obtain ⟨x68, hx68, ht62⟩ := bnd_some ht62
   refine T.drawQ drawsX [.val (.pointer none), .val (.pointer (some ⟨(blk p38), 0, none⟩)), .agg [.sl 2 (List.map e_arena_Span t40.1), .val (.int .i64 t40.2.1), .val (.int .i64 t40.2.2.1), .val (.int .i64 t40.2.2.2.1), .val (.bool t40.2.2.2.2.1)], .val (.pointer (some ⟨(blk p38), 5, none⟩)), .agg [.sl 2 (List.map e_arena_Span t40.2.2.2.2.2.1), .val (.int .i64 t40.2.2.2.2.2.2.1), .val (.int .i64 t40.2.2.2.2.2.2.2.1), .val (.int .i64 t40.2.2.2.2.2.2.2.2.1), .val (.bool t40.2.2.2.2.2.2.2.2.2.1)], .val (.bool x64), .val (.pointer (some ⟨(blk p39), 0, none⟩)), .agg [.val (.string (bs t40.2.2.2.2.2.2.2.2.2.2.1)), .val (.string (bs t40.2.2.2.2.2.2.2.2.2.2.2.1)), .val (.bool t40.2.2.2.2.2.2.2.2.2.2.2.2.1)], .val (.pointer (some ⟨(blk p39), 3, none⟩)), .agg [.val (.string (bs t40.2.2.2.2.2.2.2.2.2.2.2.2.2.1)), .val (.string (bs t40.2.2.2.2.2.2.2.2.2.2.2.2.2.2.1)), .val (.bool t40.2.2.2.2.2.2.2.2.2.2.2.2.2.2.2)], .val (.bool ((⟨t40.2.2.2.2.2.2.2.2.2.2.1, t40.2.2.2.2.2.2.2.2.2.2.2.1, t40.2.2.2.2.2.2.2.2.2.2.2.2.1⟩ : ref07_Cell) == (⟨t40.2.2.2.2.2.2.2.2.2.2.2.2.2.1, t40.2.2.2.2.2.2.2.2.2.2.2.2.2.2.1, t40.2.2.2.2.2.2.2.2.2.2.2.2.2.2.2⟩ : ref07_Cell))), .val (.bool (x64 == ((⟨t40.2.2.2.2.2.2.2.2.2.2.1, t40.2.2.2.2.2.2.2.2.2.2.2.1, t40.2.2.2.2.2.2.2.2.2.2.2.2.1⟩ : ref07_Cell) == (⟨t40.2.2.2.2.2.2.2.2.2.2.2.2.2.1, t40.2.2.2.2.2.2.2.2.2.2.2.2.2.2.1, t40.2.2.2.2.2.2.2.2.2.2.2.2.2.2.2⟩ : ref07_Cell)))), .val (.bool (x64 == ((⟨t40.2.2.2.2.2.2.2.2.2.2.1, t40.2.2.2.2.2.2.2.2.2.2.2.1, t40.2.2.2.2.2.2.2.2.2.2.2.2.1⟩ : ref07_Cell) == (⟨t40.2.2.2.2.2.2.2.2.2.2.2.2.2.1, t40.2.2.2.2.2.2.2.2.2.2.2.2.2.2.1, t40.2.2.2.2.2.2.2.2.2.2.2.2.2.2.2⟩ : ref07_Cell)))), .val (.pointer none), .val (.pointer (some ⟨(blk p38), 0, none⟩)), .agg [.sl 2 (List.map e_arena_Span t40.1), .val (.int .i64 t40.2.1), .val (.int .i64 t40.2.2.1), .val (.int .i64 t40.2.2.2.1), .val (.bool t40.2.2.2.2.1)], .val (.pointer (some ⟨(blk p38), 0, none⟩)), .agg [.sl 2 (List.map e_arena_Span t40.1), .val (.int .i64 t40.2.1), .val (.int .i64 t40.2.2.1), .val (.int .i64 t40.2.2.2.1), .val (.bool t40.2.2.2.2.1)], .val (.bool x66), .val (.bool x66), .val (.bool x66), .val (.bool x68), .val (.bool x68), .val (.bool x68)] [6, 7, 14, 15, 84, 85, 86, 87, 88, 89, 90, 91, 92, 93, 94, 95, 96, 97, 98, 99, 100, 101, 102, 103, 104, 105, 106] (by decide +kernel) rfl ?_ rfl ?_
   rotate_left
   · obtain rfl := Option.some.inj ht62
     exact ⟨_, Gst.trans (Gst.only [6] rfl) (Gst.pick [] rfl rfl), rfl⟩
   refine OpsQ.yes (Want.plain rfl) rfl (OpR.pure rfl) ?_
   refine OpsQ.yes (Want.plain rfl) rfl (OpR.indexVarE 0 rfl rfl rfl rfl rfl rfl rfl) ?_
   refine OpsQ.yes (Want.plain rfl) rfl (OpR.loadPtr 0 rfl rfl rfl rfl) ?_
   refine OpsQ.yes (Want.plain rfl) rfl (OpR.indexVarE 1 rfl rfl rfl rfl rfl rfl rfl) ?_
   refine OpsQ.yes (Want.plain rfl) rfl (OpR.loadPtr 0 rfl rfl rfl rfl) ?_
   refine OpsQ.yes (Want.plain rfl) rfl (OpR.call0 fn48 (cell_Same_nil_c hx64) rfl) ?_
   refine OpsQ.yes (Want.plain rfl) rfl (OpR.indexVarE 0 rfl rfl rfl rfl rfl rfl rfl) ?_
   refine OpsQ.yes (Want.plain rfl) rfl (OpR.loadPtr 1 rfl rfl rfl rfl) ?_
   refine OpsQ.yes (Want.plain rfl) rfl (OpR.indexVarE 1 rfl rfl rfl rfl rfl rfl rfl) ?_
   refine OpsQ.yes (Want.plain rfl) rfl (OpR.loadPtr 1 rfl rfl rfl rfl) ?_
   refine OpsQ.yes (Want.plain rfl) rfl (OpR.cast (OpR.eqStruct rfl rfl rfl rfl rfl (by kernel_rfl) (by kernel_rfl)) (boolE (beq_ref07_Cell (⟨t40.2.2.2.2.2.2.2.2.2.2.1, t40.2.2.2.2.2.2.2.2.2.2.2.1, t40.2.2.2.2.2.2.2.2.2.2.2.2.1⟩ : ref07_Cell) (⟨t40.2.2.2.2.2.2.2.2.2.2.2.2.2.1, t40.2.2.2.2.2.2.2.2.2.2.2.2.2.2.1, t40.2.2.2.2.2.2.2.2.2.2.2.2.2.2.2⟩ : ref07_Cell)))) ?_
   refine OpsQ.yes (Want.plain rfl) rfl (OpR.eqBool rfl rfl rfl rfl) ?_
   refine OpsQ.yes (Want.plain rfl) rfl (OpR.pure rfl) ?_
   refine OpsQ.yes (Want.bool rfl rfl rfl rfl (by rw [(c65)]; rfl)) rfl (OpR.pure rfl) ?_
   refine OpsQ.yes (Want.bool rfl rfl rfl rfl (by rw [(c65)]; rfl)) rfl (OpR.indexVarE 0 rfl rfl rfl rfl rfl rfl rfl) ?_
   refine OpsQ.yes (Want.bool rfl rfl rfl rfl (by rw [(c65)]; rfl)) rfl (OpR.loadPtr 0 rfl rfl rfl rfl) ?_
   refine OpsQ.yes (Want.bool rfl rfl rfl rfl (by rw [(c65)]; rfl)) rfl (OpR.indexVarE 0 rfl rfl rfl rfl rfl rfl rfl) ?_
   refine OpsQ.yes (Want.bool rfl rfl rfl rfl (by rw [(c65)]; rfl)) rfl (OpR.loadPtr 0 rfl rfl rfl rfl) ?_
   refine OpsQ.yes (Want.bool rfl rfl rfl rfl (by rw [(c65)]; rfl)) rfl (OpR.call0 fn48 (cell_Same_nil_c hx66) rfl) ?_
   refine OpsQ.yes (Want.plain rfl) rfl (OpR.pickT rfl (c65) rfl) ?_
   refine OpsQ.yes (Want.plain rfl) rfl (OpR.pure rfl) ?_
   refine OpsQ.yes (Want.bool rfl rfl rfl rfl (by rw [(c67)]; rfl)) rfl (OpR.call0 fn45 (law07_awake_c hx68) rfl) ?_
   refine OpsQ.yes (Want.plain rfl) rfl (OpR.pickT rfl (c67) rfl) ?_
   refine OpsQ.yes (Want.plain rfl) rfl (OpR.pure rfl) ?_
   exact OpsQ.nil
 dsimp only at h0
 refine TL.op (OpR.call [] fn43 (arena_New_cx2 hx2) rfl rfl rfl (fun _ => rfl)) rfl (fun w3 => ?_)
 refine TL.op1 (OpR.pure rfl) rfl ?_
 refine TL.op1 (OpR.pure rfl) rfl ?_
 refine TL.op1 (OpR.pure rfl) rfl ?_
 refine TL.op1 (OpR.pure rfl) rfl ?_
 refine TL.op1 (OpR.pure rfl) rfl ?_
 refine TL.nil ?_
 show T X _ _ _
 refine T.seq ?_
 refine T.region ?_
 refine TL.op1 (OpR.pure rfl) rfl ?_
 refine TL.nil ?_
 show T X _ _ _
 refine T.seq ?_
 refine T.seq ?_
 refine T.region ?_
 refine TL.op1 (OpR.pure rfl) rfl ?_
 refine TL.op1 (OpR.toBytesM rfl rfl rfl rfl rfl rfl rfl) rfl ?_
 obtain ⟨x69, hx69, h0⟩ := bnd_some h0
 refine TL.op1 (OpR.call0 fn29 (scan_All_c hx69) rfl) rfl ?_
 refine TL.op1 (OpR.cast (OpR.pure rfl) (intE (lenM _ _))) rfl ?_
 refine TL.op1 (OpR.pure rfl) rfl ?_
 refine TL.nil ?_
 show T X _ _ _
 obtain ⟨t70, ht70, h0⟩ := bnd_some h0
 refine T.cutC (fun S' => ∃ y71 : Value, S' = ⟨[(9, .val y71), (7, .val (.pointer (some ⟨(blk (vn w3 0)), 0, none⟩))), (6, .val (.bool false)), (5, .nod [.val (.bool a2.1), .val (.bool a2.2)]), (4, .nod [.val (.int .u8 (a1.1.toNat : Int)), .val (.int .u8 (a1.2.toNat : Int))])], [.var (blk (vn w3 0)) [.val (vn w3 1)] 127, .row y71 (List.map e_cell_Cell t70) 5 83, .row (vn w3 1) (List.map byteD x2.2) 1 5], 107⟩) (fun _ h => h) ?_ ?_
 · refine T.block ?_
   obtain ⟨n74, n79⟩ := loop_some ht70
   refine T.loop (fun n S' => ∃ S'', Gst S' S'' ∧ ∃ y72 : Value, ∃ s73 : Int × (List cell_Cell), S'' = ⟨[(29, .val (.int .i64 s73.1)), (28, .val (.int .i64 (x69.length : Int))), (27, .sl 2 (List.map e_scan_Row x69)), (9, .val y72), (7, .val (.pointer (some ⟨(blk (vn w3 0)), 0, none⟩))), (6, .val (.bool false)), (5, .nod [.val (.bool a2.1), .val (.bool a2.2)]), (4, .nod [.val (.int .u8 (a1.1.toNat : Int)), .val (.int .u8 (a1.2.toNat : Int))])], [.var (blk (vn w3 0)) [.val (vn w3 1)] 127, .row y72 (List.map e_cell_Cell s73.2) 5 83, .row (vn w3 1) (List.map byteD x2.2) 1 5], 107⟩ ∧ iter (law07_CellSame.l5 x69) n s73 = some t70) n74 ?_ ?_
   · exact ⟨_, Gst.trans (Gst.only [4, 5, 6, 7, 9, 27, 28, 29] rfl) (Gst.trans (Gst.nilRow (ow := [.var (blk (vn w3 0)) [.val (vn w3 1)] 127, .row (vn w3 1) (List.map byteD x2.2) 1 5]) 5 83 rfl) (Gst.pick [0, 2, 1] rfl rfl)), (.slice none 0 0), (0, []), rfl, n79⟩
   rintro n74 _ ⟨_, g, y72, s73, rfl, i78⟩
   refine T.ghost g ?_
   obtain ⟨m75, q76, rfl, q77, i78⟩ := iter_succ i78
   unfold law07_CellSame.l5 at q77
   refine T.seq ?_
   refine T.region ?_
   refine TL.op1 (OpR.pure rfl) rfl ?_
   refine TL.nil ?_
   show T X _ _ _
   refine T.seq ?_
   rcases ite_some q77 with ⟨c81, q77⟩ | ⟨c81, q77⟩
   rotate_left
   · refine T.condF rfl (decide_eq_false c81) ?_
     refine T.exit ?_
     obtain rfl := Option.some.inj q77
     obtain rfl : _ = _ := i78
     exact ⟨_, Gst.only [4, 5, 6, 7, 9] rfl, y72, rfl⟩
   refine T.condT rfl (decide_eq_true c81) ?_
   refine T.skip ?_
   show T X _ _ _
   refine T.seq ?_
   refine T.block ?_
   refine T.seq ?_
   refine T.region ?_
   obtain ⟨x82, hx82, q77⟩ := bnd_some q77
   refine TL.op1 (OpR.indexM e_scan_Row hx82 rfl rfl rfl rfl rfl) rfl ?_
   refine TL.op1 (OpR.pure rfl) rfl ?_
   refine TL.op (OpR.alloc rfl rfl (fun _ => rfl)) rfl (fun p83 => ?_)
   refine TL.op0 (OpR.store 3 rfl rfl rfl rfl rfl rfl rfl rfl) ?_
   refine TL.nil ?_
   show T X _ _ _
   refine T.seq ?_
   refine T.region ?_
   refine TL.op1 (OpR.pure rfl) rfl ?_
   refine TL.op1 (OpR.loadPtr 3 rfl rfl rfl rfl) rfl ?_
   refine TL.op1 (OpR.cast (OpR.pure rfl) (intE (lenM _ _))) rfl ?_
   refine TL.op1 (OpR.pure rfl) rfl ?_
   refine TL.nil ?_
   show T X _ _ _
   obtain ⟨t84, ht84, q77⟩ := bnd_some q77
   refine T.cutC (fun S' => ∃ y85 : Value, S' = ⟨[(29, .val (.int .i64 s73.1)), (28, .val (.int .i64 (x69.length : Int))), (27, .sl 2 (List.map e_scan_Row x69)), (9, .val y85), (7, .val (.pointer (some ⟨(blk (vn w3 0)), 0, none⟩))), (6, .val (.bool false)), (5, .nod [.val (.bool a2.1), .val (.bool a2.2)]), (4, .nod [.val (.int .u8 (a1.1.toNat : Int)), .val (.int .u8 (a1.2.toNat : Int))])], [.var (blk (vn w3 0)) [.val (vn w3 1)] 127, .row y85 (List.map e_cell_Cell t84) 5 83, .row (vn w3 1) (List.map byteD x2.2) 1 5], 107⟩) (fun _ h => h) ?_ ?_
   rotate_left
   · rintro _ ⟨y85, rfl⟩
     show T X _ _ _
     refine T.region ?_
     refine TL.op1 (OpR.pure rfl) rfl ?_
     refine TL.op1 (OpR.pure rfl) rfl ?_
     refine TL.nil ?_
     obtain rfl := Option.some.inj q77
     exact ⟨m75, Nat.lt_succ_self _, _, Gst.only [4, 5, 6, 7, 9, 27, 28, 29] rfl, y85, (w64 (s73.1 + 1), t84), rfl, i78⟩
   refine T.block ?_
   obtain ⟨n88, n93⟩ := loop_some ht84
   refine T.loop (fun n S' => ∃ S'', Gst S' S'' ∧ ∃ y86 : Value, ∃ s87 : Int × (List cell_Cell), S'' = ⟨[(36, .val (.int .i64 s87.1)), (35, .val (.int .i64 (x82.fFields.length : Int))), (34, .sl 4 (List.map e_scan_Field x82.fFields)), (29, .val (.int .i64 s73.1)), (28, .val (.int .i64 (x69.length : Int))), (27, .sl 2 (List.map e_scan_Row x69)), (9, .val y86), (7, .val (.pointer (some ⟨(blk (vn w3 0)), 0, none⟩))), (6, .val (.bool false)), (5, .nod [.val (.bool a2.1), .val (.bool a2.2)]), (4, .nod [.val (.int .u8 (a1.1.toNat : Int)), .val (.int .u8 (a1.2.toNat : Int))])], [.var (blk (vn w3 0)) [.val (vn w3 1)] 127, .row y86 (List.map e_cell_Cell s87.2) 5 83, .row (vn w3 1) (List.map byteD x2.2) 1 5], 107⟩ ∧ iter (law07_CellSame.l4 x82) n s87 = some t84) n88 ?_ ?_
   · exact ⟨_, Gst.trans (Gst.only [4, 5, 6, 7, 9, 27, 28, 29, 34, 35, 36] rfl) (Gst.pick [0, 1, 2] rfl rfl), y72, (0, s73.2), rfl, n93⟩
   rintro n88 _ ⟨_, g, y86, s87, rfl, i92⟩
   refine T.ghost g ?_
   obtain ⟨m89, q90, rfl, q91, i92⟩ := iter_succ i92
   unfold law07_CellSame.l4 at q91
   refine T.seq ?_
   refine T.region ?_
   refine TL.op1 (OpR.pure rfl) rfl ?_
   refine TL.nil ?_
   show T X _ _ _
   refine T.seq ?_
   rcases ite_some q91 with ⟨c95, q91⟩ | ⟨c95, q91⟩
   rotate_left
   · refine T.condF rfl (decide_eq_false c95) ?_
     refine T.exit ?_
     obtain rfl := Option.some.inj q91
     obtain rfl : _ = _ := i92
     exact ⟨_, Gst.only [4, 5, 6, 7, 9, 27, 28, 29] rfl, y86, rfl⟩
   refine T.condT rfl (decide_eq_true c95) ?_
   refine T.skip ?_
   show T X _ _ _
   refine T.seq ?_
   refine T.block ?_
   refine T.seq ?_
   refine T.region ?_
   obtain ⟨x96, hx96, q91⟩ := bnd_some q91
   refine TL.op1 (OpR.indexM e_scan_Field hx96 rfl rfl rfl rfl rfl) rfl ?_
   refine TL.op1 (OpR.pure rfl) rfl ?_
   refine TL.op (OpR.alloc rfl rfl (fun _ => rfl)) rfl (fun p97 => ?_)
   refine TL.op0 (OpR.store 3 rfl rfl rfl rfl rfl rfl rfl rfl) ?_
   refine TL.nil ?_
   show T X _ _ _
   refine T.region ?_
   refine TL.op1 (OpR.pure rfl) rfl ?_
   refine TL.op1 (OpR.loadPtr 3 rfl rfl rfl rfl) rfl ?_
   obtain ⟨x98, hx98, q91⟩ := bnd_some q91
   refine TL.op1 (OpR.call0 fn44 (cell_Load_c hx98) rfl) rfl ?_
   refine TL.op1 (OpR.lit rfl rfl rfl rfl rfl rfl rfl) rfl ?_
   obtain ⟨x99, hx99, q91⟩ := bnd_some q91
   refine TL.op (OpR.appendM (m := [x98]) e_cell_Cell 1 hx99 rfl rfl rfl rfl rfl rfl rfl rfl rfl (fun _ => rfl)) rfl (fun v100 => ?_)
   refine TL.op1 (OpR.pure rfl) rfl ?_
   refine TL.nil ?_
   show T X _ _ _
   refine T.region ?_
   refine TL.op1 (OpR.pure rfl) rfl ?_
   refine TL.op1 (OpR.pure rfl) rfl ?_
   refine TL.nil ?_
   obtain rfl := Option.some.inj q91
   exact ⟨m89, Nat.lt_succ_self _, _, Gst.trans (Gst.only [4, 5, 6, 7, 9, 27, 28, 29, 34, 35, 36] rfl) (Gst.pick [0, 1, 2] rfl rfl), v100, (w64 (s87.1 + 1), x99), rfl, i92⟩
 rintro _ ⟨y71, rfl⟩
 show T X _ _ _
 refine T.seq ?_
 refine T.seq ?_
 refine T.region ?_
 refine TL.op1 (OpR.pure rfl) rfl ?_
 refine TL.op1 (OpR.rowLenM e_cell_Cell 1 rfl rfl rfl rfl) rfl ?_
 refine TL.op1 (OpR.pure rfl) rfl ?_
 refine TL.nil ?_
 show T X _ _ _
 rcases ite_some h0 with ⟨c101, h0⟩ | ⟨c101, h0⟩
 · refine T.condT rfl (beq_iff_eq.2 c101) ?_
   refine T.seq ?_
   refine T.region ?_
   obtain ⟨x102, hx102, h0⟩ := bnd_some h0
   refine TL.op1 (OpR.call0 fn45 (law07_awake_c hx102) rfl) rfl ?_
   refine TL.op1 (OpR.pure rfl) rfl ?_
   refine TL.nil ?_
   show T X _ _ _
   refine T.ret ?_
   obtain rfl := Option.some.inj h0
   exact PostG.retP (ks := []) (Gst.trans (Gst.only [6] rfl) (Gst.pick [] rfl rfl)) undef (ResL.cons (ResV.tmp rfl) ResL.nil) rfl rfl rfl rfl
 refine T.condF rfl (beq_eq_false_iff_ne.2 c101) ?_
 refine T.skip ?_
 show T X _ _ _
 refine T.seq ?_
 refine T.region ?_
 refine TL.op (OpR.alloc rfl rfl (fun _ => rfl)) rfl (fun p103 => ?_)
 refine TL.nil ?_
 show T X _ _ _
 refine T.seq ?_
 refine T.region ?_
 refine TL.op (OpR.alloc rfl rfl (fun _ => rfl)) rfl (fun p104 => ?_)
 refine TL.nil ?_
 show T X _ _ _
 refine T.seq ?_
 refine T.seq ?_
 refine T.region ?_
 refine TL.op1 (OpR.pure rfl) rfl ?_
 refine TL.nil ?_
 show T X _ _ _
 obtain ⟨t105, ht105, h0⟩ := bnd_some h0
 refine T.cutC (fun S' => S' = ⟨[(15, .val (.pointer (some ⟨(blk p104), 0, none⟩))), (14, .val (.pointer (some ⟨(blk p103), 0, none⟩))), (7, .val (.pointer (some ⟨(blk (vn w3 0)), 0, none⟩))), (6, .val (.bool false))], [.var (blk (vn w3 0)) [.val (vn w3 1)] 127, .var (blk p103) [.sl 2 (List.map e_arena_Span t105.1), .val (.int .i64 t105.2.1), .val (.int .i64 t105.2.2.1), .val (.int .i64 t105.2.2.2.1), .val (.bool t105.2.2.2.2.1), .sl 2 (List.map e_arena_Span t105.2.2.2.2.2.1), .val (.int .i64 t105.2.2.2.2.2.2.1), .val (.int .i64 t105.2.2.2.2.2.2.2.1), .val (.int .i64 t105.2.2.2.2.2.2.2.2.1), .val (.bool t105.2.2.2.2.2.2.2.2.2.1)] 85, .var (blk p104) [.val (.string (bs t105.2.2.2.2.2.2.2.2.2.2.1)), .val (.string (bs t105.2.2.2.2.2.2.2.2.2.2.2.1)), .val (.bool t105.2.2.2.2.2.2.2.2.2.2.2.2.1), .val (.string (bs t105.2.2.2.2.2.2.2.2.2.2.2.2.2.1)), .val (.string (bs t105.2.2.2.2.2.2.2.2.2.2.2.2.2.2.1)), .val (.bool t105.2.2.2.2.2.2.2.2.2.2.2.2.2.2.2)] 88, .row (vn w3 1) (List.map byteD x2.2) 1 5], 107⟩) (fun _ h => h) ?_ ?_
 · refine T.block ?_
   obtain ⟨n107, n112⟩ := loop_some ht105
   refine T.loop (fun n S' => ∃ S'', Gst S' S'' ∧ ∃ s106 : Int × (List arena_Span) × Int × Int × Int × Bool × (List arena_Span) × Int × Int × Int × Bool × (List UInt8) × (List UInt8) × Bool × (List UInt8) × (List UInt8) × Bool, S'' = ⟨[(16, .val (.int .i64 s106.1)), (15, .val (.pointer (some ⟨(blk p104), 0, none⟩))), (14, .val (.pointer (some ⟨(blk p103), 0, none⟩))), (9, .val y71), (7, .val (.pointer (some ⟨(blk (vn w3 0)), 0, none⟩))), (6, .val (.bool false)), (5, .nod [.val (.bool a2.1), .val (.bool a2.2)]), (4, .nod [.val (.int .u8 (a1.1.toNat : Int)), .val (.int .u8 (a1.2.toNat : Int))])], [.var (blk (vn w3 0)) [.val (vn w3 1)] 127, .row y71 (List.map e_cell_Cell t70) 5 83, .var (blk p103) [.sl 2 (List.map e_arena_Span s106.2.1), .val (.int .i64 s106.2.2.1), .val (.int .i64 s106.2.2.2.1), .val (.int .i64 s106.2.2.2.2.1), .val (.bool s106.2.2.2.2.2.1), .sl 2 (List.map e_arena_Span s106.2.2.2.2.2.2.1), .val (.int .i64 s106.2.2.2.2.2.2.2.1), .val (.int .i64 s106.2.2.2.2.2.2.2.2.1), .val (.int .i64 s106.2.2.2.2.2.2.2.2.2.1), .val (.bool s106.2.2.2.2.2.2.2.2.2.2.1)] 85, .var (blk p104) [.val (.string (bs s106.2.2.2.2.2.2.2.2.2.2.2.1)), .val (.string (bs s106.2.2.2.2.2.2.2.2.2.2.2.2.1)), .val (.bool s106.2.2.2.2.2.2.2.2.2.2.2.2.2.1), .val (.string (bs s106.2.2.2.2.2.2.2.2.2.2.2.2.2.2.1)), .val (.string (bs s106.2.2.2.2.2.2.2.2.2.2.2.2.2.2.2.1)), .val (.bool s106.2.2.2.2.2.2.2.2.2.2.2.2.2.2.2.2)] 88, .row (vn w3 1) (List.map byteD x2.2) 1 5], 107⟩ ∧ iter (law07_CellSame.l6 a1 a2 x2 t70) n s106 = some t105) n107 ?_ ?_
   · exact ⟨_, Gst.trans (Gst.only [4, 5, 6, 7, 9, 14, 15, 16] rfl) (Gst.trans (Gst.denil (ReS.cons Re.refl (ReS.cons Re.refl (ReS.cons Re.refl (ReS.cons Re.refl (ReS.cons Re.refl (ReS.cons Re.refl (ReS.cons Re.refl (ReS.cons Re.refl ReS.nil)))))))) (ReO.var (ReL.cons Re.refl ReL.nil) (ReO.same (ReO.same (ReO.var (ReL.cons (Re.base .nil) (ReL.cons Re.refl (ReL.cons Re.refl (ReL.cons Re.refl (ReL.cons Re.refl (ReL.cons (Re.base .nil) (ReL.cons Re.refl (ReL.cons Re.refl (ReL.cons Re.refl (ReL.cons Re.refl ReL.nil)))))))))) (ReO.var (ReL.cons Re.refl (ReL.cons Re.refl (ReL.cons Re.refl (ReL.cons Re.refl (ReL.cons Re.refl (ReL.cons Re.refl ReL.nil)))))) ReO.nil)))))) (Gst.pick [0, 1, 3, 4, 2] rfl rfl)), (0, [], 0, 0, 0, false, [], 0, 0, 0, false, [], [], false, [], [], false), rfl, n112⟩
   rintro n107 _ ⟨_, g, s106, rfl, i111⟩
   refine T.ghost g ?_
   obtain ⟨m108, q109, rfl, q110, i111⟩ := iter_succ i111
   unfold law07_CellSame.l6 at q110
   refine T.seq ?_
   refine T.seq ?_
   refine T.region ?_
   refine TL.op1 (OpR.pure rfl) rfl ?_
   refine TL.op1 (OpR.pure rfl) rfl ?_
   refine TL.nil ?_
   show T X _ _ _
   rcases ite_some q110 with ⟨c114, q110⟩ | ⟨c114, q110⟩
   rotate_left
   · refine T.condF rfl (decide_eq_false c114) ?_
     refine T.exit ?_
     obtain rfl := Option.some.inj q110
     obtain rfl : _ = _ := i111
     exact ⟨_, Gst.trans (Gst.only [6, 7, 14, 15] rfl) (Gst.pick [0, 2, 3, 4] rfl rfl), rfl⟩
   refine T.condT rfl (decide_eq_true c114) ?_
   refine T.skip ?_
   show T X _ _ _
   refine T.seq ?_
   refine T.block ?_
   refine T.seq ?_
   refine T.region ?_
   refine TL.op1 (OpR.pure rfl) rfl ?_
   refine TL.op1 (OpR.pure rfl) rfl ?_
   refine TL.op1 (OpR.pure rfl) rfl ?_
   obtain ⟨x115, hx115, q110⟩ := bnd_some q110
   refine TL.op1 (OpR.indexNodM byteD (l := ([a1.1, a1.2] : List UInt8)) (rest := []) hx115 rfl rfl rfl rfl rfl rfl rfl (fun _ => rfl) rfl) rfl ?_
   refine TL.op1 (OpR.pure rfl) rfl ?_
   refine TL.op1 (OpR.cast (OpR.pure rfl) (intE (w64_u8 _))) rfl ?_
   refine TL.op1 (OpR.pure rfl) rfl ?_
   refine TL.op1 (OpR.rowLenM e_cell_Cell 1 rfl rfl rfl rfl) rfl ?_
   obtain ⟨x116, hx116, q110⟩ := bnd_some q110
   refine TL.op1 (OpR.rmdM hx116 rfl rfl rfl) rfl ?_
   obtain ⟨x117, hx117, q110⟩ := bnd_some q110
   refine TL.op1 (OpR.rowIndexM e_cell_Cell 1 hx117 rfl rfl rfl rfl rfl rfl rfl) rfl ?_
   refine TL.op1 (OpR.rowLoad0M (j := x116) e_cell_Cell 1 hx117 rfl rfl rfl rfl) rfl ?_
   obtain ⟨x118, hx118, q110⟩ := bnd_some q110
   refine TL.op1 (OpR.indexVarM (l := ([(⟨(⟨s106.2.1, s106.2.2.1⟩ : piece_Text), (⟨s106.2.2.2.1, s106.2.2.2.2.1⟩ : arena_Span), s106.2.2.2.2.2.1⟩ : cell_Cell), (⟨(⟨s106.2.2.2.2.2.2.1, s106.2.2.2.2.2.2.2.1⟩ : piece_Text), (⟨s106.2.2.2.2.2.2.2.2.1, s106.2.2.2.2.2.2.2.2.2.1⟩ : arena_Span), s106.2.2.2.2.2.2.2.2.2.2.1⟩ : cell_Cell)] : List cell_Cell)) hx118 rfl rfl rfl rfl rfl rfl rfl) rfl ?_
   refine TL.op0 (OpR.arrStoreN (off := 0) (sz := 5) (j := s106.1) (a' := x117) (l := ([(⟨(⟨s106.2.1, s106.2.2.1⟩ : piece_Text), (⟨s106.2.2.2.1, s106.2.2.2.2.1⟩ : arena_Span), s106.2.2.2.2.2.1⟩ : cell_Cell), (⟨(⟨s106.2.2.2.2.2.2.1, s106.2.2.2.2.2.2.2.1⟩ : piece_Text), (⟨s106.2.2.2.2.2.2.2.2.1, s106.2.2.2.2.2.2.2.2.2.1⟩ : arena_Span), s106.2.2.2.2.2.2.2.2.2.2.1⟩ : cell_Cell)] : List cell_Cell)) (pre := []) (rest := []) e_cell_Cell 2 hx118 rfl rfl rfl rfl rfl rfl (fun _ => rfl) rfl rfl rfl rfl) ?_
   refine TL.nil ?_
   show T X _ _ _
   refine T.seq ?_
   refine T.seq ?_
   refine T.region ?_
   refine TL.op1 (OpR.pure rfl) rfl ?_
   obtain ⟨x119, hx119, q110⟩ := bnd_some q110
   refine TL.op1 (OpR.indexNodM eB (l := ([a2.1, a2.2] : List Bool)) (rest := []) hx119 rfl rfl rfl rfl rfl rfl rfl (fun _ => rfl) rfl) rfl ?_
   refine TL.op1 (OpR.pure rfl) rfl ?_
   refine TL.nil ?_
   show T X _ _ _
   obtain ⟨t120, ht120, q110⟩ := bnd_some q110
   refine T.cutC (fun S' => S' = ⟨[(16, .val (.int .i64 s106.1)), (15, .val (.pointer (some ⟨(blk p104), 0, none⟩))), (14, .val (.pointer (some ⟨(blk p103), 0, none⟩))), (9, .val y71), (7, .val (.pointer (some ⟨(blk (vn w3 0)), 0, none⟩))), (6, .val (.bool false)), (5, .nod [.val (.bool a2.1), .val (.bool a2.2)]), (4, .nod [.val (.int .u8 (a1.1.toNat : Int)), .val (.int .u8 (a1.2.toNat : Int))])], [.var (blk (vn w3 0)) [.val (vn w3 1)] 127, .row y71 (List.map e_cell_Cell t70) 5 83, .var (blk p103) [.sl 2 (List.map e_arena_Span t120.1), .val (.int .i64 t120.2.1), .val (.int .i64 t120.2.2.1), .val (.int .i64 t120.2.2.2.1), .val (.bool t120.2.2.2.2.1), .sl 2 (List.map e_arena_Span t120.2.2.2.2.2.1), .val (.int .i64 t120.2.2.2.2.2.2.1), .val (.int .i64 t120.2.2.2.2.2.2.2.1), .val (.int .i64 t120.2.2.2.2.2.2.2.2.1), .val (.bool t120.2.2.2.2.2.2.2.2.2)] 85, .var (blk p104) [.val (.string (bs s106.2.2.2.2.2.2.2.2.2.2.2.1)), .val (.string (bs s106.2.2.2.2.2.2.2.2.2.2.2.2.1)), .val (.bool s106.2.2.2.2.2.2.2.2.2.2.2.2.2.1), .val (.string (bs s106.2.2.2.2.2.2.2.2.2.2.2.2.2.2.1)), .val (.string (bs s106.2.2.2.2.2.2.2.2.2.2.2.2.2.2.2.1)), .val (.bool s106.2.2.2.2.2.2.2.2.2.2.2.2.2.2.2.2)] 88, .row (vn w3 1) (List.map byteD x2.2) 1 5], 107⟩) (fun _ h => h) ?_ ?_
   rotate_left
   · rintro _ rfl
     show T X _ _ _
     refine T.region ?_
     refine TL.op1 (OpR.pure rfl) rfl ?_
     refine TL.op1 (OpR.pure rfl) rfl ?_
     refine TL.op1 (OpR.pure rfl) rfl ?_
     obtain ⟨x124, hx124, q110⟩ := bnd_some q110
     refine TL.op1 (OpR.indexVarM (l := ([(⟨(⟨t120.1, t120.2.1⟩ : piece_Text), (⟨t120.2.2.1, t120.2.2.2.1⟩ : arena_Span), t120.2.2.2.2.1⟩ : cell_Cell), (⟨(⟨t120.2.2.2.2.2.1, t120.2.2.2.2.2.2.1⟩ : piece_Text), (⟨t120.2.2.2.2.2.2.2.1, t120.2.2.2.2.2.2.2.2.1⟩ : arena_Span), t120.2.2.2.2.2.2.2.2.2⟩ : cell_Cell)] : List cell_Cell)) hx124 rfl rfl rfl rfl rfl rfl rfl) rfl ?_
     refine TL.op1 (OpR.arrLoadM (off := 0) (sz := 5) (j := s106.1) (rest := []) e_cell_Cell 2 hx124 rfl rfl rfl (fun _ => rfl) rfl rfl) rfl ?_
     obtain ⟨x125, hx125, q110⟩ := bnd_some q110
     refine TL.op1 (OpR.call [0, 4] fn47 (law07_Plain_c hx125) rfl rfl rfl (fun _ => rfl)) rfl ?_
     obtain ⟨x126, hx126, q110⟩ := bnd_some q110
     refine TL.op1 (OpR.indexVarM (l := ([(⟨s106.2.2.2.2.2.2.2.2.2.2.2.1, s106.2.2.2.2.2.2.2.2.2.2.2.2.1, s106.2.2.2.2.2.2.2.2.2.2.2.2.2.1⟩ : ref07_Cell), (⟨s106.2.2.2.2.2.2.2.2.2.2.2.2.2.2.1, s106.2.2.2.2.2.2.2.2.2.2.2.2.2.2.2.1, s106.2.2.2.2.2.2.2.2.2.2.2.2.2.2.2.2⟩ : ref07_Cell)] : List ref07_Cell)) hx126 rfl rfl rfl rfl rfl rfl rfl) rfl ?_
     refine TL.op0 (OpR.arrStoreN (off := 0) (sz := 3) (j := s106.1) (a' := x125) (l := ([(⟨s106.2.2.2.2.2.2.2.2.2.2.2.1, s106.2.2.2.2.2.2.2.2.2.2.2.2.1, s106.2.2.2.2.2.2.2.2.2.2.2.2.2.1⟩ : ref07_Cell), (⟨s106.2.2.2.2.2.2.2.2.2.2.2.2.2.2.1, s106.2.2.2.2.2.2.2.2.2.2.2.2.2.2.2.1, s106.2.2.2.2.2.2.2.2.2.2.2.2.2.2.2.2⟩ : ref07_Cell)] : List ref07_Cell)) (pre := []) (rest := []) e_ref07_Cell 3 hx126 rfl rfl rfl rfl rfl rfl (fun _ => rfl) rfl rfl rfl rfl) ?_
     refine TL.nil ?_
     show T X _ _ _
     refine T.region ?_
     refine TL.op1 (OpR.pure rfl) rfl ?_
     refine TL.op1 (OpR.pure rfl) rfl ?_
     refine TL.op1 (OpR.pure rfl) rfl ?_
     refine TL.nil ?_
     obtain rfl := Option.some.inj q110
     exact ⟨m108, Nat.lt_succ_self _, _, Gst.only [4, 5, 6, 7, 9, 14, 15, 16] rfl, (w64 (s106.1 + 1), t120.1, t120.2.1, t120.2.2.1, t120.2.2.2.1, t120.2.2.2.2.1, t120.2.2.2.2.2.1, t120.2.2.2.2.2.2.1, t120.2.2.2.2.2.2.2.1, t120.2.2.2.2.2.2.2.2.1, t120.2.2.2.2.2.2.2.2.2, (if s106.1 = 0 then x125 else (⟨s106.2.2.2.2.2.2.2.2.2.2.2.1, s106.2.2.2.2.2.2.2.2.2.2.2.2.1, s106.2.2.2.2.2.2.2.2.2.2.2.2.2.1⟩ : ref07_Cell)).fS, (if s106.1 = 0 then x125 else (⟨s106.2.2.2.2.2.2.2.2.2.2.2.1, s106.2.2.2.2.2.2.2.2.2.2.2.2.1, s106.2.2.2.2.2.2.2.2.2.2.2.2.2.1⟩ : ref07_Cell)).fRaw, ((if s106.1 = 0 then x125 else (⟨s106.2.2.2.2.2.2.2.2.2.2.2.1, s106.2.2.2.2.2.2.2.2.2.2.2.2.1, s106.2.2.2.2.2.2.2.2.2.2.2.2.2.1⟩ : ref07_Cell)).fKept), (if s106.1 - 1 = 0 then x125 else (⟨s106.2.2.2.2.2.2.2.2.2.2.2.2.2.2.1, s106.2.2.2.2.2.2.2.2.2.2.2.2.2.2.2.1, s106.2.2.2.2.2.2.2.2.2.2.2.2.2.2.2.2⟩ : ref07_Cell)).fS, (if s106.1 - 1 = 0 then x125 else (⟨s106.2.2.2.2.2.2.2.2.2.2.2.2.2.2.1, s106.2.2.2.2.2.2.2.2.2.2.2.2.2.2.2.1, s106.2.2.2.2.2.2.2.2.2.2.2.2.2.2.2.2⟩ : ref07_Cell)).fRaw, ((if s106.1 - 1 = 0 then x125 else (⟨s106.2.2.2.2.2.2.2.2.2.2.2.2.2.2.1, s106.2.2.2.2.2.2.2.2.2.2.2.2.2.2.2.1, s106.2.2.2.2.2.2.2.2.2.2.2.2.2.2.2.2⟩ : ref07_Cell)).fKept)), rfl, i111⟩
   rcases ite_some ht120 with ⟨c121, ht120⟩ | ⟨c121, ht120⟩
   rotate_left
   · refine T.condF rfl (eq_false_of_ne_true c121) ?_
     refine T.skip ?_
     obtain rfl := Option.some.inj ht120
     exact ⟨_, Gst.only [4, 5, 6, 7, 9, 14, 15, 16] rfl, rfl⟩
   refine T.condT rfl (c121) ?_
   refine T.region ?_
   refine TL.op1 (OpR.pure rfl) rfl ?_
   refine TL.op1 (OpR.pure rfl) rfl ?_
   obtain ⟨x122, hx122, ht120⟩ := bnd_some ht120
   refine TL.op1 (OpR.indexVarM (l := ([(⟨((if s106.1 = 0 then x117 else (⟨(⟨s106.2.1, s106.2.2.1⟩ : piece_Text), (⟨s106.2.2.2.1, s106.2.2.2.2.1⟩ : arena_Span), s106.2.2.2.2.2.1⟩ : cell_Cell)).fText), ((if s106.1 = 0 then x117 else (⟨(⟨s106.2.1, s106.2.2.1⟩ : piece_Text), (⟨s106.2.2.2.1, s106.2.2.2.2.1⟩ : arena_Span), s106.2.2.2.2.2.1⟩ : cell_Cell)).fRaw), ((if s106.1 = 0 then x117 else (⟨(⟨s106.2.1, s106.2.2.1⟩ : piece_Text), (⟨s106.2.2.2.1, s106.2.2.2.2.1⟩ : arena_Span), s106.2.2.2.2.2.1⟩ : cell_Cell)).fKept)⟩ : cell_Cell), (⟨((if s106.1 - 1 = 0 then x117 else (⟨(⟨s106.2.2.2.2.2.2.1, s106.2.2.2.2.2.2.2.1⟩ : piece_Text), (⟨s106.2.2.2.2.2.2.2.2.1, s106.2.2.2.2.2.2.2.2.2.1⟩ : arena_Span), s106.2.2.2.2.2.2.2.2.2.2.1⟩ : cell_Cell)).fText), ((if s106.1 - 1 = 0 then x117 else (⟨(⟨s106.2.2.2.2.2.2.1, s106.2.2.2.2.2.2.2.1⟩ : piece_Text), (⟨s106.2.2.2.2.2.2.2.2.1, s106.2.2.2.2.2.2.2.2.2.1⟩ : arena_Span), s106.2.2.2.2.2.2.2.2.2.2.1⟩ : cell_Cell)).fRaw), ((if s106.1 - 1 = 0 then x117 else (⟨(⟨s106.2.2.2.2.2.2.1, s106.2.2.2.2.2.2.2.1⟩ : piece_Text), (⟨s106.2.2.2.2.2.2.2.2.1, s106.2.2.2.2.2.2.2.2.2.1⟩ : arena_Span), s106.2.2.2.2.2.2.2.2.2.2.1⟩ : cell_Cell)).fKept)⟩ : cell_Cell)] : List cell_Cell)) hx122 rfl rfl rfl rfl rfl rfl rfl) rfl ?_
   refine TL.op1 (OpR.pure rfl) rfl ?_
   refine TL.op1 (OpR.arrLoadM (off := 0) (sz := 5) (j := s106.1) (rest := []) e_cell_Cell 2 hx122 rfl rfl rfl (fun _ => rfl) rfl rfl) rfl ?_
   obtain ⟨x123, hx123, ht120⟩ := bnd_some ht120
   refine TL.op1 (OpR.call0 fn46 (cell_Of_c hx123) rfl) rfl ?_
   refine TL.op1 (OpR.indexVarM (l := ([(⟨((if s106.1 = 0 then x117 else (⟨(⟨s106.2.1, s106.2.2.1⟩ : piece_Text), (⟨s106.2.2.2.1, s106.2.2.2.2.1⟩ : arena_Span), s106.2.2.2.2.2.1⟩ : cell_Cell)).fText), ((if s106.1 = 0 then x117 else (⟨(⟨s106.2.1, s106.2.2.1⟩ : piece_Text), (⟨s106.2.2.2.1, s106.2.2.2.2.1⟩ : arena_Span), s106.2.2.2.2.2.1⟩ : cell_Cell)).fRaw), ((if s106.1 = 0 then x117 else (⟨(⟨s106.2.1, s106.2.2.1⟩ : piece_Text), (⟨s106.2.2.2.1, s106.2.2.2.2.1⟩ : arena_Span), s106.2.2.2.2.2.1⟩ : cell_Cell)).fKept)⟩ : cell_Cell), (⟨((if s106.1 - 1 = 0 then x117 else (⟨(⟨s106.2.2.2.2.2.2.1, s106.2.2.2.2.2.2.2.1⟩ : piece_Text), (⟨s106.2.2.2.2.2.2.2.2.1, s106.2.2.2.2.2.2.2.2.2.1⟩ : arena_Span), s106.2.2.2.2.2.2.2.2.2.2.1⟩ : cell_Cell)).fText), ((if s106.1 - 1 = 0 then x117 else (⟨(⟨s106.2.2.2.2.2.2.1, s106.2.2.2.2.2.2.2.1⟩ : piece_Text), (⟨s106.2.2.2.2.2.2.2.2.1, s106.2.2.2.2.2.2.2.2.2.1⟩ : arena_Span), s106.2.2.2.2.2.2.2.2.2.2.1⟩ : cell_Cell)).fRaw), ((if s106.1 - 1 = 0 then x117 else (⟨(⟨s106.2.2.2.2.2.2.1, s106.2.2.2.2.2.2.2.1⟩ : piece_Text), (⟨s106.2.2.2.2.2.2.2.2.1, s106.2.2.2.2.2.2.2.2.2.1⟩ : arena_Span), s106.2.2.2.2.2.2.2.2.2.2.1⟩ : cell_Cell)).fKept)⟩ : cell_Cell)] : List cell_Cell)) hx122 rfl rfl rfl rfl rfl rfl rfl) rfl ?_
   refine TL.op0 (OpR.arrStoreN (off := 0) (sz := 5) (j := s106.1) (a' := x123) (l := ([(⟨((if s106.1 = 0 then x117 else (⟨(⟨s106.2.1, s106.2.2.1⟩ : piece_Text), (⟨s106.2.2.2.1, s106.2.2.2.2.1⟩ : arena_Span), s106.2.2.2.2.2.1⟩ : cell_Cell)).fText), ((if s106.1 = 0 then x117 else (⟨(⟨s106.2.1, s106.2.2.1⟩ : piece_Text), (⟨s106.2.2.2.1, s106.2.2.2.2.1⟩ : arena_Span), s106.2.2.2.2.2.1⟩ : cell_Cell)).fRaw), ((if s106.1 = 0 then x117 else (⟨(⟨s106.2.1, s106.2.2.1⟩ : piece_Text), (⟨s106.2.2.2.1, s106.2.2.2.2.1⟩ : arena_Span), s106.2.2.2.2.2.1⟩ : cell_Cell)).fKept)⟩ : cell_Cell), (⟨((if s106.1 - 1 = 0 then x117 else (⟨(⟨s106.2.2.2.2.2.2.1, s106.2.2.2.2.2.2.2.1⟩ : piece_Text), (⟨s106.2.2.2.2.2.2.2.2.1, s106.2.2.2.2.2.2.2.2.2.1⟩ : arena_Span), s106.2.2.2.2.2.2.2.2.2.2.1⟩ : cell_Cell)).fText), ((if s106.1 - 1 = 0 then x117 else (⟨(⟨s106.2.2.2.2.2.2.1, s106.2.2.2.2.2.2.2.1⟩ : piece_Text), (⟨s106.2.2.2.2.2.2.2.2.1, s106.2.2.2.2.2.2.2.2.2.1⟩ : arena_Span), s106.2.2.2.2.2.2.2.2.2.2.1⟩ : cell_Cell)).fRaw), ((if s106.1 - 1 = 0 then x117 else (⟨(⟨s106.2.2.2.2.2.2.1, s106.2.2.2.2.2.2.2.1⟩ : piece_Text), (⟨s106.2.2.2.2.2.2.2.2.1, s106.2.2.2.2.2.2.2.2.2.1⟩ : arena_Span), s106.2.2.2.2.2.2.2.2.2.2.1⟩ : cell_Cell)).fKept)⟩ : cell_Cell)] : List cell_Cell)) (pre := []) (rest := []) e_cell_Cell 2 hx122 rfl rfl rfl rfl rfl rfl (fun _ => rfl) rfl rfl rfl rfl) ?_
   refine TL.nil ?_
   obtain rfl := Option.some.inj ht120
   exact ⟨_, Gst.only [4, 5, 6, 7, 9, 14, 15, 16] rfl, rfl⟩
 rintro _ rfl
 show T X _ _ _
 refine T.seq ?_
 obtain ⟨t127, ht127, h0⟩ := bnd_some h0
 refine T.cutC (fun S' => S' = ⟨[(6, .val (.bool t127))], [], 107⟩) (fun _ h => h) ?_ ?_
 rotate_left
 · rintro _ rfl
   show T X _ _ _
   refine T.ret ?_
   obtain rfl := Option.some.inj h0
   exact PostG.retP (ks := []) (Gst.only [6] rfl) undef (ResL.cons (ResV.tmp rfl) ResL.nil) rfl rfl rfl rfl
 obtain ⟨x129, hx129, ht127⟩ := bnd_some ht127
 rcases ite_some ht127 with ⟨c130, ht127⟩ | ⟨c130, ht127⟩
 rotate_left
 · refine T.drawQ drawsX [.val (.pointer (some ⟨(blk (vn w3 0)), 0, none⟩)), .val (.pointer (some ⟨(blk p103), 0, none⟩)), .agg [.sl 2 (List.map e_arena_Span t105.1), .val (.int .i64 t105.2.1), .val (.int .i64 t105.2.2.1), .val (.int .i64 t105.2.2.2.1), .val (.bool t105.2.2.2.2.1)], .val (.pointer (some ⟨(blk p103), 5, none⟩)), .agg [.sl 2 (List.map e_arena_Span t105.2.2.2.2.2.1), .val (.int .i64 t105.2.2.2.2.2.2.1), .val (.int .i64 t105.2.2.2.2.2.2.2.1), .val (.int .i64 t105.2.2.2.2.2.2.2.2.1), .val (.bool t105.2.2.2.2.2.2.2.2.2.1)], .val (.bool x129), .val (.pointer (some ⟨(blk p104), 0, none⟩)), .agg [.val (.string (bs t105.2.2.2.2.2.2.2.2.2.2.1)), .val (.string (bs t105.2.2.2.2.2.2.2.2.2.2.2.1)), .val (.bool t105.2.2.2.2.2.2.2.2.2.2.2.2.1)], .val (.pointer (some ⟨(blk p104), 3, none⟩)), .agg [.val (.string (bs t105.2.2.2.2.2.2.2.2.2.2.2.2.2.1)), .val (.string (bs t105.2.2.2.2.2.2.2.2.2.2.2.2.2.2.1)), .val (.bool t105.2.2.2.2.2.2.2.2.2.2.2.2.2.2.2)], .val (.bool ((⟨t105.2.2.2.2.2.2.2.2.2.2.1, t105.2.2.2.2.2.2.2.2.2.2.2.1, t105.2.2.2.2.2.2.2.2.2.2.2.2.1⟩ : ref07_Cell) == (⟨t105.2.2.2.2.2.2.2.2.2.2.2.2.2.1, t105.2.2.2.2.2.2.2.2.2.2.2.2.2.2.1, t105.2.2.2.2.2.2.2.2.2.2.2.2.2.2.2⟩ : ref07_Cell))), .val (.bool (x129 == ((⟨t105.2.2.2.2.2.2.2.2.2.2.1, t105.2.2.2.2.2.2.2.2.2.2.2.1, t105.2.2.2.2.2.2.2.2.2.2.2.2.1⟩ : ref07_Cell) == (⟨t105.2.2.2.2.2.2.2.2.2.2.2.2.2.1, t105.2.2.2.2.2.2.2.2.2.2.2.2.2.2.1, t105.2.2.2.2.2.2.2.2.2.2.2.2.2.2.2⟩ : ref07_Cell)))), .val (.bool (x129 == ((⟨t105.2.2.2.2.2.2.2.2.2.2.1, t105.2.2.2.2.2.2.2.2.2.2.2.1, t105.2.2.2.2.2.2.2.2.2.2.2.2.1⟩ : ref07_Cell) == (⟨t105.2.2.2.2.2.2.2.2.2.2.2.2.2.1, t105.2.2.2.2.2.2.2.2.2.2.2.2.2.2.1, t105.2.2.2.2.2.2.2.2.2.2.2.2.2.2.2⟩ : ref07_Cell)))), .tup [], .tup [], .tup [], .tup [], .tup [], .tup [], .val (.bool false), .val (.bool false), .tup [], .val (.bool false), .val (.bool false)] [6, 7, 14, 15, 84, 85, 86, 87, 88, 89, 90, 91, 92, 93, 94, 95, 96, 97, 98, 99, 100, 101, 102, 103, 104, 105, 106] (by decide +kernel) rfl ?_ rfl ?_
   rotate_left
   · obtain rfl := Option.some.inj ht127
     exact ⟨_, Gst.trans (Gst.only [6] rfl) (Gst.pick [] rfl rfl), rfl⟩
   refine OpsQ.yes (Want.plain rfl) rfl (OpR.pure rfl) ?_
   refine OpsQ.yes (Want.plain rfl) rfl (OpR.indexVarE 0 rfl rfl rfl rfl rfl rfl rfl) ?_
   refine OpsQ.yes (Want.plain rfl) rfl (OpR.loadPtr 1 rfl rfl rfl rfl) ?_
   refine OpsQ.yes (Want.plain rfl) rfl (OpR.indexVarE 1 rfl rfl rfl rfl rfl rfl rfl) ?_
   refine OpsQ.yes (Want.plain rfl) rfl (OpR.loadPtr 1 rfl rfl rfl rfl) ?_
   refine OpsQ.yes (Want.plain rfl) rfl (OpR.call [0, 3] fn48 (cell_Same_c hx129) rfl rfl rfl (fun _ => rfl)) ?_
   refine OpsQ.yes (Want.plain rfl) rfl (OpR.indexVarE 0 rfl rfl rfl rfl rfl rfl rfl) ?_
   refine OpsQ.yes (Want.plain rfl) rfl (OpR.loadPtr 2 rfl rfl rfl rfl) ?_
   refine OpsQ.yes (Want.plain rfl) rfl (OpR.indexVarE 1 rfl rfl rfl rfl rfl rfl rfl) ?_
   refine OpsQ.yes (Want.plain rfl) rfl (OpR.loadPtr 2 rfl rfl rfl rfl) ?_
   refine OpsQ.yes (Want.plain rfl) rfl (OpR.cast (OpR.eqStruct rfl rfl rfl rfl rfl (by kernel_rfl) (by kernel_rfl)) (boolE (beq_ref07_Cell (⟨t105.2.2.2.2.2.2.2.2.2.2.1, t105.2.2.2.2.2.2.2.2.2.2.2.1, t105.2.2.2.2.2.2.2.2.2.2.2.2.1⟩ : ref07_Cell) (⟨t105.2.2.2.2.2.2.2.2.2.2.2.2.2.1, t105.2.2.2.2.2.2.2.2.2.2.2.2.2.2.1, t105.2.2.2.2.2.2.2.2.2.2.2.2.2.2.2⟩ : ref07_Cell)))) ?_
   refine OpsQ.yes (Want.plain rfl) rfl (OpR.eqBool rfl rfl rfl rfl) ?_
   refine OpsQ.yes (Want.plain rfl) rfl (OpR.pure rfl) ?_
   refine OpsQ.no (Want.bool rfl rfl rfl rfl (by rw [(eq_false_of_ne_true c130)]; rfl)) rfl ?_
   refine OpsQ.no (Want.bool rfl rfl rfl rfl (by rw [(eq_false_of_ne_true c130)]; rfl)) rfl ?_
   refine OpsQ.no (Want.bool rfl rfl rfl rfl (by rw [(eq_false_of_ne_true c130)]; rfl)) rfl ?_
   refine OpsQ.no (Want.bool rfl rfl rfl rfl (by rw [(eq_false_of_ne_true c130)]; rfl)) rfl ?_
   refine OpsQ.no (Want.bool rfl rfl rfl rfl (by rw [(eq_false_of_ne_true c130)]; rfl)) rfl ?_
   refine OpsQ.no (Want.bool rfl rfl rfl rfl (by rw [(eq_false_of_ne_true c130)]; rfl)) rfl ?_
   refine OpsQ.yes (Want.plain rfl) rfl (OpR.pickF rfl (eq_false_of_ne_true c130) rfl) ?_
   refine OpsQ.yes (Want.plain rfl) rfl (OpR.pure rfl) ?_
   refine OpsQ.no (Want.bool rfl rfl rfl rfl rfl) rfl ?_
   refine OpsQ.yes (Want.plain rfl) rfl (OpR.pickF rfl rfl rfl) ?_
   refine OpsQ.yes (Want.plain rfl) rfl (OpR.pure rfl) ?_
   exact OpsQ.nil
 obtain ⟨x131, hx131, ht127⟩ := bnd_some ht127
 rcases ite_some ht127 with ⟨c132, ht127⟩ | ⟨c132, ht127⟩
 rotate_left
 · refine T.drawQ drawsX [.val (.pointer (some ⟨(blk (vn w3 0)), 0, none⟩)), .val (.pointer (some ⟨(blk p103), 0, none⟩)), .agg [.sl 2 (List.map e_arena_Span t105.1), .val (.int .i64 t105.2.1), .val (.int .i64 t105.2.2.1), .val (.int .i64 t105.2.2.2.1), .val (.bool t105.2.2.2.2.1)], .val (.pointer (some ⟨(blk p103), 5, none⟩)), .agg [.sl 2 (List.map e_arena_Span t105.2.2.2.2.2.1), .val (.int .i64 t105.2.2.2.2.2.2.1), .val (.int .i64 t105.2.2.2.2.2.2.2.1), .val (.int .i64 t105.2.2.2.2.2.2.2.2.1), .val (.bool t105.2.2.2.2.2.2.2.2.2.1)], .val (.bool x129), .val (.pointer (some ⟨(blk p104), 0, none⟩)), .agg [.val (.string (bs t105.2.2.2.2.2.2.2.2.2.2.1)), .val (.string (bs t105.2.2.2.2.2.2.2.2.2.2.2.1)), .val (.bool t105.2.2.2.2.2.2.2.2.2.2.2.2.1)], .val (.pointer (some ⟨(blk p104), 3, none⟩)), .agg [.val (.string (bs t105.2.2.2.2.2.2.2.2.2.2.2.2.2.1)), .val (.string (bs t105.2.2.2.2.2.2.2.2.2.2.2.2.2.2.1)), .val (.bool t105.2.2.2.2.2.2.2.2.2.2.2.2.2.2.2)], .val (.bool ((⟨t105.2.2.2.2.2.2.2.2.2.2.1, t105.2.2.2.2.2.2.2.2.2.2.2.1, t105.2.2.2.2.2.2.2.2.2.2.2.2.1⟩ : ref07_Cell) == (⟨t105.2.2.2.2.2.2.2.2.2.2.2.2.2.1, t105.2.2.2.2.2.2.2.2.2.2.2.2.2.2.1, t105.2.2.2.2.2.2.2.2.2.2.2.2.2.2.2⟩ : ref07_Cell))), .val (.bool (x129 == ((⟨t105.2.2.2.2.2.2.2.2.2.2.1, t105.2.2.2.2.2.2.2.2.2.2.2.1, t105.2.2.2.2.2.2.2.2.2.2.2.2.1⟩ : ref07_Cell) == (⟨t105.2.2.2.2.2.2.2.2.2.2.2.2.2.1, t105.2.2.2.2.2.2.2.2.2.2.2.2.2.2.1, t105.2.2.2.2.2.2.2.2.2.2.2.2.2.2.2⟩ : ref07_Cell)))), .val (.bool (x129 == ((⟨t105.2.2.2.2.2.2.2.2.2.2.1, t105.2.2.2.2.2.2.2.2.2.2.2.1, t105.2.2.2.2.2.2.2.2.2.2.2.2.1⟩ : ref07_Cell) == (⟨t105.2.2.2.2.2.2.2.2.2.2.2.2.2.1, t105.2.2.2.2.2.2.2.2.2.2.2.2.2.2.1, t105.2.2.2.2.2.2.2.2.2.2.2.2.2.2.2⟩ : ref07_Cell)))), .val (.pointer (some ⟨(blk (vn w3 0)), 0, none⟩)), .val (.pointer (some ⟨(blk p103), 0, none⟩)), .agg [.sl 2 (List.map e_arena_Span t105.1), .val (.int .i64 t105.2.1), .val (.int .i64 t105.2.2.1), .val (.int .i64 t105.2.2.2.1), .val (.bool t105.2.2.2.2.1)], .val (.pointer (some ⟨(blk p103), 0, none⟩)), .agg [.sl 2 (List.map e_arena_Span t105.1), .val (.int .i64 t105.2.1), .val (.int .i64 t105.2.2.1), .val (.int .i64 t105.2.2.2.1), .val (.bool t105.2.2.2.2.1)], .val (.bool x131), .val (.bool x131), .val (.bool x131), .tup [], .val (.bool false), .val (.bool false)] [6, 7, 14, 15, 84, 85, 86, 87, 88, 89, 90, 91, 92, 93, 94, 95, 96, 97, 98, 99, 100, 101, 102, 103, 104, 105, 106] (by decide +kernel) rfl ?_ rfl ?_
   rotate_left
   · obtain rfl := Option.some.inj ht127
     exact ⟨_, Gst.trans (Gst.only [6] rfl) (Gst.pick [] rfl rfl), rfl⟩
   refine OpsQ.yes (Want.plain rfl) rfl (OpR.pure rfl) ?_
   refine OpsQ.yes (Want.plain rfl) rfl (OpR.indexVarE 0 rfl rfl rfl rfl rfl rfl rfl) ?_
   refine OpsQ.yes (Want.plain rfl) rfl (OpR.loadPtr 1 rfl rfl rfl rfl) ?_
   refine OpsQ.yes (Want.plain rfl) rfl (OpR.indexVarE 1 rfl rfl rfl rfl rfl rfl rfl) ?_
   refine OpsQ.yes (Want.plain rfl) rfl (OpR.loadPtr 1 rfl rfl rfl rfl) ?_
   refine OpsQ.yes (Want.plain rfl) rfl (OpR.call [0, 3] fn48 (cell_Same_c hx129) rfl rfl rfl (fun _ => rfl)) ?_
   refine OpsQ.yes (Want.plain rfl) rfl (OpR.indexVarE 0 rfl rfl rfl rfl rfl rfl rfl) ?_
   refine OpsQ.yes (Want.plain rfl) rfl (OpR.loadPtr 2 rfl rfl rfl rfl) ?_
   refine OpsQ.yes (Want.plain rfl) rfl (OpR.indexVarE 1 rfl rfl rfl rfl rfl rfl rfl) ?_
   refine OpsQ.yes (Want.plain rfl) rfl (OpR.loadPtr 2 rfl rfl rfl rfl) ?_
   refine OpsQ.yes (Want.plain rfl) rfl (OpR.cast (OpR.eqStruct rfl rfl rfl rfl rfl (by kernel_rfl) (by kernel_rfl)) (boolE (beq_ref07_Cell (⟨t105.2.2.2.2.2.2.2.2.2.2.1, t105.2.2.2.2.2.2.2.2.2.2.2.1, t105.2.2.2.2.2.2.2.2.2.2.2.2.1⟩ : ref07_Cell) (⟨t105.2.2.2.2.2.2.2.2.2.2.2.2.2.1, t105.2.2.2.2.2.2.2.2.2.2.2.2.2.2.1, t105.2.2.2.2.2.2.2.2.2.2.2.2.2.2.2⟩ : ref07_Cell)))) ?_
   refine OpsQ.yes (Want.plain rfl) rfl (OpR.eqBool rfl rfl rfl rfl) ?_
   refine OpsQ.yes (Want.plain rfl) rfl (OpR.pure rfl) ?_
   refine OpsQ.yes (Want.bool rfl rfl rfl rfl (by rw [(c130)]; rfl)) rfl (OpR.pure rfl) ?_
   refine OpsQ.yes (Want.bool rfl rfl rfl rfl (by rw [(c130)]; rfl)) rfl (OpR.indexVarE 0 rfl rfl rfl rfl rfl rfl rfl) ?_
   refine OpsQ.yes (Want.bool rfl rfl rfl rfl (by rw [(c130)]; rfl)) rfl (OpR.loadPtr 1 rfl rfl rfl rfl) ?_
   refine OpsQ.yes (Want.bool rfl rfl rfl rfl (by rw [(c130)]; rfl)) rfl (OpR.indexVarE 0 rfl rfl rfl rfl rfl rfl rfl) ?_
   refine OpsQ.yes (Want.bool rfl rfl rfl rfl (by rw [(c130)]; rfl)) rfl (OpR.loadPtr 1 rfl rfl rfl rfl) ?_
   refine OpsQ.yes (Want.bool rfl rfl rfl rfl (by rw [(c130)]; rfl)) rfl (OpR.call [0, 3] fn48 (cell_Same_c hx131) rfl rfl rfl (fun _ => rfl)) ?_
   refine OpsQ.yes (Want.plain rfl) rfl (OpR.pickT rfl (c130) rfl) ?_
   refine OpsQ.yes (Want.plain rfl) rfl (OpR.pure rfl) ?_
   refine OpsQ.no (Want.bool rfl rfl rfl rfl (by rw [(eq_false_of_ne_true c132)]; rfl)) rfl ?_
   refine OpsQ.yes (Want.plain rfl) rfl (OpR.pickF rfl (eq_false_of_ne_true c132) rfl) ?_
   refine OpsQ.yes (Want.plain rfl) rfl (OpR.pure rfl) ?_
   exact OpsQ.nil
 obtain ⟨x133, hx133, ht127⟩ := bnd_some ht127
 refine T.drawQ drawsX [.val (.pointer (some ⟨(blk (vn w3 0)), 0, none⟩)), .val (.pointer (some ⟨(blk p103), 0, none⟩)), .agg [.sl 2 (List.map e_arena_Span t105.1), .val (.int .i64 t105.2.1), .val (.int .i64 t105.2.2.1), .val (.int .i64 t105.2.2.2.1), .val (.bool t105.2.2.2.2.1)], .val (.pointer (some ⟨(blk p103), 5, none⟩)), .agg [.sl 2 (List.map e_arena_Span t105.2.2.2.2.2.1), .val (.int .i64 t105.2.2.2.2.2.2.1), .val (.int .i64 t105.2.2.2.2.2.2.2.1), .val (.int .i64 t105.2.2.2.2.2.2.2.2.1), .val (.bool t105.2.2.2.2.2.2.2.2.2.1)], .val (.bool x129), .val (.pointer (some ⟨(blk p104), 0, none⟩)), .agg [.val (.string (bs t105.2.2.2.2.2.2.2.2.2.2.1)), .val (.string (bs t105.2.2.2.2.2.2.2.2.2.2.2.1)), .val (.bool t105.2.2.2.2.2.2.2.2.2.2.2.2.1)], .val (.pointer (some ⟨(blk p104), 3, none⟩)), .agg [.val (.string (bs t105.2.2.2.2.2.2.2.2.2.2.2.2.2.1)), .val (.string (bs t105.2.2.2.2.2.2.2.2.2.2.2.2.2.2.1)), .val (.bool t105.2.2.2.2.2.2.2.2.2.2.2.2.2.2.2)], .val (.bool ((⟨t105.2.2.2.2.2.2.2.2.2.2.1, t105.2.2.2.2.2.2.2.2.2.2.2.1, t105.2.2.2.2.2.2.2.2.2.2.2.2.1⟩ : ref07_Cell) == (⟨t105.2.2.2.2.2.2.2.2.2.2.2.2.2.1, t105.2.2.2.2.2.2.2.2.2.2.2.2.2.2.1, t105.2.2.2.2.2.2.2.2.2.2.2.2.2.2.2⟩ : ref07_Cell))), .val (.bool (x129 == ((⟨t105.2.2.2.2.2.2.2.2.2.2.1, t105.2.2.2.2.2.2.2.2.2.2.2.1, t105.2.2.2.2.2.2.2.2.2.2.2.2.1⟩ : ref07_Cell) == (⟨t105.2.2.2.2.2.2.2.2.2.2.2.2.2.1, t105.2.2.2.2.2.2.2.2.2.2.2.2.2.2.1, t105.2.2.2.2.2.2.2.2.2.2.2.2.2.2.2⟩ : ref07_Cell)))), .val (.bool (x129 == ((⟨t105.2.2.2.2.2.2.2.2.2.2.1, t105.2.2.2.2.2.2.2.2.2.2.2.1, t105.2.2.2.2.2.2.2.2.2.2.2.2.1⟩ : ref07_Cell) == (⟨t105.2.2.2.2.2.2.2.2.2.2.2.2.2.1, t105.2.2.2.2.2.2.2.2.2.2.2.2.2.2.1, t105.2.2.2.2.2.2.2.2.2.2.2.2.2.2.2⟩ : ref07_Cell)))), .val (.pointer (some ⟨(blk (vn w3 0)), 0, none⟩)), .val (.pointer (some ⟨(blk p103), 0, none⟩)), .agg [.sl 2 (List.map e_arena_Span t105.1), .val (.int .i64 t105.2.1), .val (.int .i64 t105.2.2.1), .val (.int .i64 t105.2.2.2.1), .val (.bool t105.2.2.2.2.1)], .val (.pointer (some ⟨(blk p103), 0, none⟩)), .agg [.sl 2 (List.map e_arena_Span t105.1), .val (.int .i64 t105.2.1), .val (.int .i64 t105.2.2.1), .val (.int .i64 t105.2.2.2.1), .val (.bool t105.2.2.2.2.1)], .val (.bool x131), .val (.bool x131), .val (.bool x131), .val (.bool x133), .val (.bool x133), .val (.bool x133)] [6, 7, 14, 15, 84, 85, 86, 87, 88, 89, 90, 91, 92, 93, 94, 95, 96, 97, 98, 99, 100, 101, 102, 103, 104, 105, 106] (by decide +kernel) rfl ?_ rfl ?_
 rotate_left
 · obtain rfl := Option.some.inj ht127
   exact ⟨_, Gst.trans (Gst.only [6] rfl) (Gst.pick [] rfl rfl), rfl⟩
 refine OpsQ.yes (Want.plain rfl) rfl (OpR.pure rfl) ?_
 refine OpsQ.yes (Want.plain rfl) rfl (OpR.indexVarE 0 rfl rfl rfl rfl rfl rfl rfl) ?_
 refine OpsQ.yes (Want.plain rfl) rfl (OpR.loadPtr 1 rfl rfl rfl rfl) ?_
 refine OpsQ.yes (Want.plain rfl) rfl (OpR.indexVarE 1 rfl rfl rfl rfl rfl rfl rfl) ?_
 refine OpsQ.yes (Want.plain rfl) rfl (OpR.loadPtr 1 rfl rfl rfl rfl) ?_
 refine OpsQ.yes (Want.plain rfl) rfl (OpR.call [0, 3] fn48 (cell_Same_c hx129) rfl rfl rfl (fun _ => rfl)) ?_
 refine OpsQ.yes (Want.plain rfl) rfl (OpR.indexVarE 0 rfl rfl rfl rfl rfl rfl rfl) ?_
 refine OpsQ.yes (Want.plain rfl) rfl (OpR.loadPtr 2 rfl rfl rfl rfl) ?_
 refine OpsQ.yes (Want.plain rfl) rfl (OpR.indexVarE 1 rfl rfl rfl rfl rfl rfl rfl) ?_
 refine OpsQ.yes (Want.plain rfl) rfl (OpR.loadPtr 2 rfl rfl rfl rfl) ?_
 refine OpsQ.yes (Want.plain rfl) rfl (OpR.cast (OpR.eqStruct rfl rfl rfl rfl rfl (by kernel_rfl) (by kernel_rfl)) (boolE (beq_ref07_Cell (⟨t105.2.2.2.2.2.2.2.2.2.2.1, t105.2.2.2.2.2.2.2.2.2.2.2.1, t105.2.2.2.2.2.2.2.2.2.2.2.2.1⟩ : ref07_Cell) (⟨t105.2.2.2.2.2.2.2.2.2.2.2.2.2.1, t105.2.2.2.2.2.2.2.2.2.2.2.2.2.2.1, t105.2.2.2.2.2.2.2.2.2.2.2.2.2.2.2⟩ : ref07_Cell)))) ?_
 refine OpsQ.yes (Want.plain rfl) rfl (OpR.eqBool rfl rfl rfl rfl) ?_
 refine OpsQ.yes (Want.plain rfl) rfl (OpR.pure rfl) ?_
 refine OpsQ.yes (Want.bool rfl rfl rfl rfl (by rw [(c130)]; rfl)) rfl (OpR.pure rfl) ?_
 refine OpsQ.yes (Want.bool rfl rfl rfl rfl (by rw [(c130)]; rfl)) rfl (OpR.indexVarE 0 rfl rfl rfl rfl rfl rfl rfl) ?_
 refine OpsQ.yes (Want.bool rfl rfl rfl rfl (by rw [(c130)]; rfl)) rfl (OpR.loadPtr 1 rfl rfl rfl rfl) ?_
 refine OpsQ.yes (Want.bool rfl rfl rfl rfl (by rw [(c130)]; rfl)) rfl (OpR.indexVarE 0 rfl rfl rfl rfl rfl rfl rfl) ?_
 refine OpsQ.yes (Want.bool rfl rfl rfl rfl (by rw [(c130)]; rfl)) rfl (OpR.loadPtr 1 rfl rfl rfl rfl) ?_
 refine OpsQ.yes (Want.bool rfl rfl rfl rfl (by rw [(c130)]; rfl)) rfl (OpR.call [0, 3] fn48 (cell_Same_c hx131) rfl rfl rfl (fun _ => rfl)) ?_
 refine OpsQ.yes (Want.plain rfl) rfl (OpR.pickT rfl (c130) rfl) ?_
 refine OpsQ.yes (Want.plain rfl) rfl (OpR.pure rfl) ?_
 refine OpsQ.yes (Want.bool rfl rfl rfl rfl (by rw [(c132)]; rfl)) rfl (OpR.call0 fn45 (law07_awake_c hx133) rfl) ?_
 refine OpsQ.yes (Want.plain rfl) rfl (OpR.pickT rfl (c132) rfl) ?_
 refine OpsQ.yes (Want.plain rfl) rfl (OpR.pure rfl) ?_
 exact OpsQ.nil
end Go.Proofs.Ytkjcogmngoogcaa.S
