/- Printed by a program of this session's own (gen.py): Lean functions for Go functions, and the proofs that the Go code comes to their answers. -/
import Derived.Test.YtkjcogmngoogcaaG17xa
set_option linter.unusedVariables false
set_option linter.unusedSimpArgs false
set_option maxRecDepth 20000
namespace Go.Proofs.Ytkjcogmngoogcaa.S
open Go Go.Sm
attribute [local irreducible] T TL OpR CallT iter loop
noncomputable def slices_Clone_arena_Span_arena_Span (a0 : List arena_Span) : Option (List arena_Span) :=
  bnd (app 16 [] a0) fun x5 =>
  some x5
set_option maxHeartbeats 4000000 in
theorem slices_Clone_arena_Span_arena_Span_c {a0 : List arena_Span} {res : (List arena_Span)} (h0 : slices_Clone_arena_Span_arena_Span a0 = some res) : CallF X 71 [.sl 2 (List.map e_arena_Span a0)] [] (fun x => .val (vn x 0)) (fun x => [.row (vn x 0) (List.map e_arena_Span res) 2 50]) := by
 unfold slices_Clone_arena_Span_arena_Span at h0
 refine CallF.mkG (X := X) Try.func71 rfl rfl Try.ntmps71 rfl rfl ?_
 refine T.seq ?_
 refine T.region ?_
 refine TL.op1 (OpR.pure rfl) rfl ?_
 refine TL.nil ?_
 show T X _ _ _
 refine T.seq ?_
 refine T.seq ?_
 refine T.region ?_
 refine TL.op1 (OpR.pure rfl) rfl ?_
 refine TL.isNil rfl rfl rfl rfl (fun b1 e2 => ?_)
 refine TL.nil ?_
 show T X _ _ _
 rcases Bool.eq_false_or_eq_true b1 with c3 | c3
 · obtain rfl := map_nil_of (e2 c3)
   rw [app_nil] at h0
   refine T.condT rfl (c3) ?_
   refine T.seq ?_
   refine T.region ?_
   refine TL.op1 (OpR.pure rfl) rfl ?_
   refine TL.nil ?_
   show T X _ _ _
   refine T.ret ?_
   obtain rfl := Option.some.inj h0
   exact PostG.retP (ks := [0]) (Gst.trans (Gst.only [2] rfl) (Gst.nilRow (ow := []) 2 50 rfl)) (.tuple #[(.slice none 0 0)]) (ResL.cons (ResV.tmp rfl) ResL.nil) rfl rfl rfl rfl
 refine T.condF rfl (c3) ?_
 refine T.skip ?_
 show T X _ _ _
 refine T.seq ?_
 refine T.region ?_
 refine TL.op (OpR.litRow rfl rfl rfl rfl rfl rfl rfl rfl (fun _ => rfl)) rfl (fun v4 => ?_)
 refine TL.op1 (OpR.pure rfl) rfl ?_
 obtain ⟨x5, hx5, h0⟩ := bnd_some h0
 refine TL.op (OpR.appendM (m := a0) e_arena_Span 0 hx5 rfl rfl rfl rfl rfl rfl rfl rfl rfl (fun _ => rfl)) rfl (fun v6 => ?_)
 refine TL.op1 (OpR.pure rfl) rfl ?_
 refine TL.nil ?_
 show T X _ _ _
 refine T.ret ?_
 obtain rfl := Option.some.inj h0
 exact PostG.retP (ks := [0]) (Gst.only [2] rfl) (.tuple #[v6]) (ResL.cons (ResV.tmp rfl) ResL.nil) rfl rfl rfl rfl
noncomputable def piece_Text_Spans (a0 : piece_Text) : Option (List arena_Span) :=
  bnd (slices_Clone_arena_Span_arena_Span a0.fL) fun x1 =>
  some x1
set_option maxHeartbeats 4000000 in
theorem piece_Text_Spans_c {a0 : piece_Text} {res : (List arena_Span)} (h0 : piece_Text_Spans a0 = some res) : CallF X 39 [.agg [.sl 2 (List.map e_arena_Span a0.fL), .val (.int .i64 a0.fN)]] [] (fun x => .sl 2 (List.map e_arena_Span res)) (fun x => []) := by
 unfold piece_Text_Spans at h0
 refine CallF.mkG (X := X) Try.func39 rfl rfl Try.ntmps39 rfl rfl ?_
 refine T.seq ?_
 refine T.region ?_
 refine TL.op1 (OpR.boxImm rfl rfl) rfl ?_
 refine TL.op1 (OpR.pure rfl) rfl ?_
 refine TL.nil ?_
 show T X _ _ _
 refine T.seq ?_
 refine T.region ?_
 refine TL.op1 (OpR.pure rfl) rfl ?_
 refine TL.op1 (OpR.pure rfl) rfl ?_
 obtain ⟨x1, hx1, h0⟩ := bnd_some h0
 refine TL.op (OpR.call [] fn71 (slices_Clone_arena_Span_arena_Span_c hx1) rfl rfl rfl (fun _ => rfl)) rfl (fun w2 => ?_)
 refine TL.op1 (OpR.pure rfl) rfl ?_
 refine TL.nil ?_
 show T X _ _ _
 refine T.ret ?_
 obtain rfl := Option.some.inj h0
 exact PostG.retP (ks := []) (Gst.trans (Gst.only [2] rfl) (Gst.trans (Gst.freezeRow 0 rfl rfl (ReS.cons (Re.base .all) ReS.nil) (ReO.same ReO.nil)) (Gst.pick [] rfl rfl))) undef (ResL.cons (ResV.tmp rfl) ResL.nil) rfl rfl rfl rfl
noncomputable def piece_Text_place (a0 : piece_Text) (a1 : Int) : Option Int :=
  bnd (some (if a0.fN < (if 0 > a1 then 0 else a1) then a0.fN else (if 0 > a1 then 0 else a1))) fun x1 =>
  some x1
set_option maxHeartbeats 4000000 in
theorem piece_Text_place_c {a0 : piece_Text} {a1 : Int} {res : Int} (h0 : piece_Text_place a0 a1 = some res) : CallF X 75 [.agg [.sl 2 (List.map e_arena_Span a0.fL), .val (.int .i64 a0.fN)], .val (.int .i64 a1)] [] (fun x => .val (.int .i64 res)) (fun x => []) := by
 unfold piece_Text_place at h0
 refine CallF.mkG (X := X) Try.func75 rfl rfl Try.ntmps75 rfl rfl ?_
 refine T.seq ?_
 refine T.region ?_
 refine TL.op1 (OpR.boxImm rfl rfl) rfl ?_
 refine TL.op1 (OpR.pure rfl) rfl ?_
 refine TL.nil ?_
 show T X _ _ _
 refine T.seq ?_
 refine T.region ?_
 refine TL.op1 (OpR.pure rfl) rfl ?_
 refine TL.op1 (OpR.pure rfl) rfl ?_
 refine TL.op1 (OpR.pure rfl) rfl ?_
 refine TL.op1 (OpR.pure rfl) rfl ?_
 obtain ⟨x1, hx1, h0⟩ := bnd_some h0
 refine TL.op1 (OpR.cast (OpR.pure rfl) (intE (Option.some.inj hx1))) rfl ?_
 refine TL.op1 (OpR.pure rfl) rfl ?_
 refine TL.nil ?_
 show T X _ _ _
 refine T.ret ?_
 obtain rfl := Option.some.inj h0
 exact PostG.retP (ks := []) (Gst.only [4] rfl) undef (ResL.cons (ResV.tmp rfl) ResL.nil) rfl rfl rfl rfl
noncomputable def arena_Sub (a0 : arena_Span) (a1 : Int) (a2 : Int) : Option arena_Span :=
  if a0.fN < 0 then
    some (⟨0, 0⟩ : arena_Span)
  else
    bnd (some (if a0.fN < (if 0 > a1 then 0 else a1) then a0.fN else (if 0 > a1 then 0 else a1))) fun x3 =>
    bnd (some (if a0.fN < (if x3 > a2 then x3 else a2) then a0.fN else (if x3 > a2 then x3 else a2))) fun x4 =>
    some (⟨w64 (a0.fAt + x3), w64 (x4 - x3)⟩ : arena_Span)
set_option maxHeartbeats 4000000 in
theorem arena_Sub_c {a0 : arena_Span} {a1 : Int} {a2 : Int} {res : arena_Span} (h0 : arena_Sub a0 a1 a2 = some res) : CallF X 79 [.agg [.val (.int .i64 a0.fAt), .val (.int .i64 a0.fN)], .val (.int .i64 a1), .val (.int .i64 a2)] [] (fun x => .agg [.val (.int .i64 res.fAt), .val (.int .i64 res.fN)]) (fun x => []) := by
 unfold arena_Sub at h0
 refine CallF.mkG (X := X) Try.func79 rfl rfl Try.ntmps79 rfl rfl ?_
 refine T.seq ?_
 refine T.region ?_
 refine TL.op1 (OpR.boxImm rfl rfl) rfl ?_
 refine TL.op (OpR.alloc rfl rfl (fun _ => rfl)) rfl (fun p1 => ?_)
 refine TL.nil ?_
 show T X _ _ _
 refine T.seq ?_
 refine T.seq ?_
 refine T.region ?_
 refine TL.op1 (OpR.pure rfl) rfl ?_
 refine TL.op1 (OpR.pure rfl) rfl ?_
 refine TL.op1 (OpR.pure rfl) rfl ?_
 refine TL.nil ?_
 show T X _ _ _
 rcases ite_some h0 with ⟨c2, h0⟩ | ⟨c2, h0⟩
 · refine T.condT rfl (decide_eq_true c2) ?_
   refine T.seq ?_
   refine T.region ?_
   refine TL.op1 (OpR.build rfl rfl rfl rfl rfl) rfl ?_
   refine TL.op0 (OpR.store 0 rfl rfl rfl rfl rfl rfl rfl rfl) ?_
   refine TL.nil ?_
   show T X _ _ _
   refine T.ret ?_
   obtain rfl := Option.some.inj h0
   exact PostG.retP (ks := []) (Gst.only [6] rfl) undef (ResL.cons (ResV.var 0 rfl rfl rfl rfl) ResL.nil) rfl rfl rfl rfl
 refine T.condF rfl (decide_eq_false c2) ?_
 refine T.skip ?_
 show T X _ _ _
 refine T.seq ?_
 refine T.region ?_
 refine TL.op1 (OpR.pure rfl) rfl ?_
 refine TL.op1 (OpR.pure rfl) rfl ?_
 refine TL.op1 (OpR.pure rfl) rfl ?_
 refine TL.op1 (OpR.pure rfl) rfl ?_
 obtain ⟨x3, hx3, h0⟩ := bnd_some h0
 refine TL.op1 (OpR.cast (OpR.pure rfl) (intE (Option.some.inj hx3))) rfl ?_
 refine TL.op1 (OpR.pure rfl) rfl ?_
 refine TL.nil ?_
 show T X _ _ _
 refine T.seq ?_
 refine T.region ?_
 refine TL.op1 (OpR.pure rfl) rfl ?_
 refine TL.op1 (OpR.pure rfl) rfl ?_
 refine TL.op1 (OpR.pure rfl) rfl ?_
 refine TL.op1 (OpR.pure rfl) rfl ?_
 refine TL.op1 (OpR.pure rfl) rfl ?_
 obtain ⟨x4, hx4, h0⟩ := bnd_some h0
 refine TL.op1 (OpR.cast (OpR.pure rfl) (intE (Option.some.inj hx4))) rfl ?_
 refine TL.op1 (OpR.pure rfl) rfl ?_
 refine TL.nil ?_
 show T X _ _ _
 refine T.seq ?_
 refine T.region ?_
 refine TL.op1 (OpR.pure rfl) rfl ?_
 refine TL.op1 (OpR.pure rfl) rfl ?_
 refine TL.op1 (OpR.pure rfl) rfl ?_
 refine TL.op1 (OpR.pure rfl) rfl ?_
 refine TL.op1 (OpR.pure rfl) rfl ?_
 refine TL.op1 (OpR.pure rfl) rfl ?_
 refine TL.op1 (OpR.pure rfl) rfl ?_
 refine TL.op1 (OpR.build rfl rfl rfl rfl rfl) rfl ?_
 refine TL.op0 (OpR.store 0 rfl rfl rfl rfl rfl rfl rfl rfl) ?_
 refine TL.nil ?_
 show T X _ _ _
 refine T.ret ?_
 obtain rfl := Option.some.inj h0
 exact PostG.retP (ks := []) (Gst.only [6] rfl) undef (ResL.cons (ResV.var 0 rfl rfl rfl rfl) ResL.nil) rfl rfl rfl rfl
noncomputable def piece_Text_Slice_1_2 (a0 : Int) (a1 : arena_Span) (a2 : Int) (a3 : Int) (a4 : Int) (a5 : List arena_Span) : Option (Bool × Int × (List arena_Span)) :=
  bnd (arena_Sub a1 (w64 (a3 - a0)) (if 0 > (w64 (a4 - a0)) then 0 else (w64 (a4 - a0)))) fun x1 =>
  bnd (piece_Text_with_2 x1 a2 a5) fun x2 =>
  some (decide ((w64 (a0 + a1.fN)) < a4), x2.1, x2.2)
set_option maxHeartbeats 4000000 in
theorem piece_Text_Slice_1_2_c {a0 : Int} {a1 : arena_Span} {a2 : Int} {a3 : Int} {a4 : Int} {a5 : List arena_Span} {b0 : Nat} {b1 : Nat} {b2 : Nat} {v3 : Value} {res : Bool × Int × (List arena_Span)} (h0 : piece_Text_Slice_1_2 a0 a1 a2 a3 a4 a5 = some res) : CallF X 77 [.val (.int .i64 a0), .agg [.val (.int .i64 a1.fAt), .val (.int .i64 a1.fN)], .val (.pointer (some ⟨b0, 0, none⟩)), .val (.pointer (some ⟨b1, 0, none⟩)), .val (.pointer (some ⟨b2, 0, none⟩))] [.var b0 [.val v3, .val (.int .i64 a2)] 59, .var b1 [.val (.int .i64 a3)] 3, .var b2 [.val (.int .i64 a4)] 3, .row v3 (List.map e_arena_Span a5) 2 50] (fun x => .val (.bool res.1)) (fun x => [.var b0 [.val (vn x 0), .val (.int .i64 res.2.1)] 59, .var b1 [.val (.int .i64 a3)] 3, .var b2 [.val (.int .i64 a4)] 3, .row (vn x 0) (List.map e_arena_Span res.2.2) 2 50]) := by
 unfold piece_Text_Slice_1_2 at h0
 refine CallF.mkG (X := X) Try.func77 rfl rfl Try.ntmps77 rfl rfl ?_
 refine T.seq ?_
 refine T.region ?_
 refine TL.op1 (OpR.boxImm rfl rfl) rfl ?_
 refine TL.op1 (OpR.pure rfl) rfl ?_
 refine TL.nil ?_
 show T X _ _ _
 refine T.seq ?_
 refine T.region ?_
 refine TL.op1 (OpR.pure rfl) rfl ?_
 refine TL.op1 (OpR.loadPtr 1 rfl rfl rfl rfl) rfl ?_
 refine TL.op1 (OpR.pure rfl) rfl ?_
 refine TL.op1 (OpR.pure rfl) rfl ?_
 refine TL.op1 (OpR.loadPtr 2 rfl rfl rfl rfl) rfl ?_
 refine TL.op1 (OpR.pure rfl) rfl ?_
 refine TL.op1 (OpR.pure rfl) rfl ?_
 refine TL.op1 (OpR.pure rfl) rfl ?_
 obtain ⟨x1, hx1, h0⟩ := bnd_some h0
 refine TL.op1 (OpR.call0 fn79 (arena_Sub_c hx1) rfl) rfl ?_
 obtain ⟨x2, hx2, h0⟩ := bnd_some h0
 refine TL.op (OpR.call [0, 3] fn78 (piece_Text_with_2_c hx2) rfl rfl rfl (fun _ => rfl)) rfl (fun w3 => ?_)
 refine TL.nil ?_
 show T X _ _ _
 refine T.seq ?_
 refine T.region ?_
 refine TL.op1 (OpR.pure rfl) rfl ?_
 refine TL.op1 (OpR.pure rfl) rfl ?_
 refine TL.op1 (OpR.pure rfl) rfl ?_
 refine TL.op1 (OpR.pure rfl) rfl ?_
 refine TL.op1 (OpR.loadPtr 2 rfl rfl rfl rfl) rfl ?_
 refine TL.op1 (OpR.pure rfl) rfl ?_
 refine TL.op1 (OpR.pure rfl) rfl ?_
 refine TL.nil ?_
 show T X _ _ _
 refine T.ret ?_
 obtain rfl := Option.some.inj h0
 exact PostG.retP (ks := [0, 1, 2, 3]) (Gst.only [7] rfl) (.tuple #[(vn w3 0)]) (ResL.cons (ResV.tmp rfl) ResL.nil) rfl rfl rfl rfl
noncomputable def piece_Text_each.l1 (a0 : piece_Text) (a2 : Int) (a3 : Int) (s5 : Int × Int × Int × (List arena_Span)) : Option (Lp (Int × Int × Int × (List arena_Span)) (Ex (Int × (List arena_Span)) (Int × (List arena_Span)))) :=
  if s5.2.1 < (a0.fL.length : Int) then
    bnd (idx a0.fL s5.2.1) fun x14 =>
    bnd (piece_Text_Slice_1_2 s5.1 x14 s5.2.2.1 a2 a3 s5.2.2.2) fun x16 =>
    if x16.1 = true then
      some (Lp.next (w64 (s5.1 + x14.fN), w64 (s5.2.1 + 1), x16.2.1, x16.2.2))
    else
      some (Lp.done (Ex.ret (x16.2.1, x16.2.2)))
  else
    some (Lp.done (Ex.brk (s5.2.2.1, s5.2.2.2)))
noncomputable def piece_Text_each (a0 : piece_Text) (a1 : Int) (a2 : Int) (a3 : Int) : Option (Int × (List arena_Span)) :=
  bnd (loop (piece_Text_each.l1 a0 a2 a3) (0, 0, a1, []) : Option (Ex (Int × (List arena_Span)) (Int × (List arena_Span)))) fun t1 => match t1 with
    | .brk u2 =>
      some (u2.1, u2.2)
    | .ret u2 => some u2
set_option maxHeartbeats 4000000 in
theorem piece_Text_each_c {a0 : piece_Text} {a1 : Int} {a2 : Int} {a3 : Int} {b0 : Nat} {b1 : Nat} {b2 : Nat} {res : Int × (List arena_Span)} (h0 : piece_Text_each a0 a1 a2 a3 = some res) : CallF X 76 [.agg [.sl 2 (List.map e_arena_Span a0.fL), .val (.int .i64 a0.fN)], .fn (.func 77) [] [.val (.pointer (some ⟨b0, 0, none⟩)), .val (.pointer (some ⟨b1, 0, none⟩)), .val (.pointer (some ⟨b2, 0, none⟩))]] [.var b0 [.val (.slice none 0 0), .val (.int .i64 a1)] 59, .var b1 [.val (.int .i64 a2)] 3, .var b2 [.val (.int .i64 a3)] 3] (fun x => .tup []) (fun x => [.var b0 [.val (vn x 0), .val (.int .i64 res.1)] 59, .var b1 [.val (.int .i64 a2)] 3, .var b2 [.val (.int .i64 a3)] 3, .row (vn x 0) (List.map e_arena_Span res.2) 2 50]) := by
 unfold piece_Text_each at h0
 refine CallF.mkG (X := X) Try.func76 rfl rfl Try.ntmps76 rfl rfl ?_
 refine T.seq ?_
 refine T.region ?_
 refine TL.op1 (OpR.boxImm rfl rfl) rfl ?_
 refine TL.nil ?_
 show T X _ _ _
 refine T.seq ?_
 refine T.region ?_
 refine TL.op1 (OpR.pure rfl) rfl ?_
 refine TL.nil ?_
 show T X _ _ _
 refine T.seq ?_
 refine T.region ?_
 refine TL.op1 (OpR.pure rfl) rfl ?_
 refine TL.op1 (OpR.pure rfl) rfl ?_
 refine TL.op1 (OpR.cast (OpR.pure rfl) (intE (lenM _ _))) rfl ?_
 refine TL.op1 (OpR.pure rfl) rfl ?_
 refine TL.nil ?_
 show T X _ _ _
 obtain ⟨t1, ht1, h0⟩ := bnd_some h0
 refine T.cutN (fun S' => ∃ u2, t1 = Ex.brk u2 ∧ ∃ y3 : Value, S' = ⟨[], [.var b0 [.val y3, .val (.int .i64 u2.1)] 59, .var b1 [.val (.int .i64 a2)] 3, .var b2 [.val (.int .i64 a3)] 3, .row y3 (List.map e_arena_Span u2.2) 2 50], 24⟩) (fun _ _ g ⟨h, S', ds, g', r⟩ => ⟨h, S', ds, Gst.trans g g', r⟩) ?_ ?_
 rotate_left
 · rintro _ ⟨u2, rfl, y3, rfl⟩
   obtain rfl := Option.some.inj h0
   exact PostG.finP (ks := [0, 1, 2, 3]) (Gst.only [] rfl) (.tuple #[y3]) ResL.nil rfl rfl rfl rfl
 refine T.block ?_
 obtain ⟨n6, n11⟩ := loop_some ht1
 refine T.loop (fun n S' => ∃ S'', Gst S' S'' ∧ ∃ y4 : Value, ∃ s5 : Int × Int × Int × (List arena_Span), S'' = ⟨[(10, .val (.int .i64 s5.2.1)), (9, .val (.int .i64 (a0.fL.length : Int))), (8, .sl 2 (List.map e_arena_Span a0.fL)), (4, .val (.int .i64 s5.1)), (1, .fn (.func 77) [] [.val (.pointer (some ⟨b0, 0, none⟩)), .val (.pointer (some ⟨b1, 0, none⟩)), .val (.pointer (some ⟨b2, 0, none⟩))])], [.var b0 [.val y4, .val (.int .i64 s5.2.2.1)] 59, .var b1 [.val (.int .i64 a2)] 3, .var b2 [.val (.int .i64 a3)] 3, .row y4 (List.map e_arena_Span s5.2.2.2) 2 50], 24⟩ ∧ iter (piece_Text_each.l1 a0 a2 a3) n s5 = some t1) n6 ?_ ?_
 · exact ⟨_, Gst.trans (Gst.only [1, 4, 8, 9, 10] rfl) (Gst.nilRow (ow := [.var b0 [.val (.slice none 0 0), .val (.int .i64 a1)] 59, .var b1 [.val (.int .i64 a2)] 3, .var b2 [.val (.int .i64 a3)] 3]) 2 50 rfl), (.slice none 0 0), (0, 0, a1, []), rfl, n11⟩
 rintro n6 _ ⟨_, g, y4, s5, rfl, i10⟩
 refine T.ghost g ?_
 obtain ⟨m7, q8, rfl, q9, i10⟩ := iter_succ i10
 unfold piece_Text_each.l1 at q9
 refine T.seq ?_
 refine T.region ?_
 refine TL.op1 (OpR.pure rfl) rfl ?_
 refine TL.nil ?_
 show T X _ _ _
 refine T.seq ?_
 rcases ite_some q9 with ⟨c13, q9⟩ | ⟨c13, q9⟩
 rotate_left
 · refine T.condF rfl (decide_eq_false c13) ?_
   refine T.exit ?_
   obtain rfl := Option.some.inj q9
   obtain rfl : _ = _ := i10
   exact ⟨_, Gst.only [] rfl, _, rfl, y4, rfl⟩
 refine T.condT rfl (decide_eq_true c13) ?_
 refine T.skip ?_
 show T X _ _ _
 refine T.seq ?_
 refine T.block ?_
 refine T.seq ?_
 refine T.region ?_
 obtain ⟨x14, hx14, q9⟩ := bnd_some q9
 refine TL.op1 (OpR.indexM e_arena_Span hx14 rfl rfl rfl rfl rfl) rfl ?_
 refine TL.op1 (OpR.pure rfl) rfl ?_
 refine TL.op (OpR.alloc rfl rfl (fun _ => rfl)) rfl (fun p15 => ?_)
 refine TL.op0 (OpR.store 4 rfl rfl rfl rfl rfl rfl rfl rfl) ?_
 refine TL.nil ?_
 show T X _ _ _
 refine T.seq ?_
 refine T.seq ?_
 refine T.region ?_
 refine TL.op1 (OpR.pure rfl) rfl ?_
 refine TL.op1 (OpR.pure rfl) rfl ?_
 refine TL.op1 (OpR.loadPtr 4 rfl rfl rfl rfl) rfl ?_
 obtain ⟨x16, hx16, q9⟩ := bnd_some q9
 refine TL.op (OpR.callV [0, 1, 2, 3] rfl fn77 (piece_Text_Slice_1_2_c hx16) rfl rfl rfl (fun _ => rfl)) rfl (fun w17 => ?_)
 refine TL.op1 (OpR.pure rfl) rfl ?_
 refine TL.nil ?_
 show T X _ _ _
 rcases ite_some q9 with ⟨c18, q9⟩ | ⟨c18, q9⟩
 rotate_left
 · refine T.condT rfl (not_f (eq_false_of_ne_true c18)) ?_
   refine T.ret ?_
   obtain rfl := Option.some.inj q9
   obtain rfl : _ = _ := i10
   obtain rfl := Option.some.inj h0
   exact PostG.retP (ks := [0, 1, 2, 3]) (Gst.trans (Gst.only [] rfl) (Gst.pick [0, 1, 2, 3] rfl rfl)) (.tuple #[(vn w17 0)]) ResL.nil rfl rfl rfl rfl
 refine T.condF rfl (not_t (c18)) ?_
 refine T.skip ?_
 show T X _ _ _
 refine T.region ?_
 refine TL.op1 (OpR.pure rfl) rfl ?_
 refine TL.op1 (OpR.pure rfl) rfl ?_
 refine TL.op1 (OpR.loadPtr 4 rfl rfl rfl rfl) rfl ?_
 refine TL.op1 (OpR.pure rfl) rfl ?_
 refine TL.op1 (OpR.pure rfl) rfl ?_
 refine TL.nil ?_
 show T X _ _ _
 refine T.region ?_
 refine TL.op1 (OpR.pure rfl) rfl ?_
 refine TL.op1 (OpR.pure rfl) rfl ?_
 refine TL.nil ?_
 obtain rfl := Option.some.inj q9
 exact ⟨m7, Nat.lt_succ_self _, _, Gst.trans (Gst.only [1, 4, 8, 9, 10] rfl) (Gst.pick [0, 1, 2, 3] rfl rfl), (vn w17 0), (w64 (s5.1 + x14.fN), w64 (s5.2.1 + 1), x16.2.1, x16.2.2), rfl, i10⟩
noncomputable def piece_Text_Slice (a0 : piece_Text) (a1 : Int) (a2 : Int) : Option piece_Text :=
  bnd (piece_Text_place a0 a1) fun x5 =>
  bnd (piece_Text_place a0 a2) fun x6 =>
  bnd (piece_Text_each a0 0 x5 x6) fun x8 =>
  if x6 ≤ x5 then
    some (⟨[], 0⟩ : piece_Text)
  else
    some (⟨x8.2, x8.1⟩ : piece_Text)
set_option maxHeartbeats 4000000 in
theorem piece_Text_Slice_c {a0 : piece_Text} {a1 : Int} {a2 : Int} {res : piece_Text} (h0 : piece_Text_Slice a0 a1 a2 = some res) : CallF X 55 [.agg [.sl 2 (List.map e_arena_Span a0.fL), .val (.int .i64 a0.fN)], .val (.int .i64 a1), .val (.int .i64 a2)] [] (fun x => .agg [.sl 2 (List.map e_arena_Span res.fL), .val (.int .i64 res.fN)]) (fun x => []) := by
 unfold piece_Text_Slice at h0
 refine CallF.mkG (X := X) Try.func55 rfl rfl Try.ntmps55 rfl rfl ?_
 refine T.seq ?_
 refine T.region ?_
 refine TL.op1 (OpR.boxImm rfl rfl) rfl ?_
 refine TL.op (OpR.boxVar rfl rfl (fun _ => rfl)) rfl (fun p1 => ?_)
 refine TL.op (OpR.boxVar rfl rfl (fun _ => rfl)) rfl (fun p2 => ?_)
 refine TL.op (OpR.alloc rfl rfl (fun _ => rfl)) rfl (fun p3 => ?_)
 refine TL.nil ?_
 show T X _ _ _
 refine T.seq ?_
 obtain ⟨x5, hx5, h0⟩ := bnd_some h0
 obtain ⟨x6, hx6, h0⟩ := bnd_some h0
 refine T.drawS drawsX (fun env4 => [.agg [.sl 2 (List.map e_arena_Span a0.fL), .val (.int .i64 a0.fN)], .val (.int .i64 a1), .val (.int .i64 x5), .agg [.sl 2 (List.map e_arena_Span a0.fL), .val (.int .i64 a0.fN)], .val (.int .i64 a2), .val (.int .i64 x6), .dead, .dead]) (fun D env4 => [(bif D 6 then .var (blk p1) [.val (.int .i64 x5)] 3 else .var (blk p1) [.val (.int .i64 a1)] 3), (bif D 7 then .var (blk p2) [.val (.int .i64 x6)] 3 else .var (blk p2) [.val (.int .i64 a2)] 3), .var (blk p3) [.val (.slice none 0 0), .val (.int .i64 0)] 59]) [0, 0, 3, 0, 0, 31, 63, 127] [0, 1, 2, 3, 4, 5, 6, 8, 9, 10, 11, 12, 13] (fun env4 => [.var (blk p1) [.val (.int .i64 x5)] 3, .var (blk p2) [.val (.int .i64 x6)] 3, .var (blk p3) [.val (.slice none 0 0), .val (.int .i64 0)] 59]) (by decide +kernel) (by decide +kernel) (fun _ => rfl) (fun _ => rfl) ?_ (fun _ => rfl) (fun _ => rfl) ?_
 rotate_left
 · intro env4
   show T X _ _ _
   refine T.seq ?_
   refine T.region ?_
   refine TL.op (OpR.alloc rfl rfl (fun _ => rfl)) rfl (fun p7 => ?_)
   refine TL.nil ?_
   show T X _ _ _
   refine T.seq ?_
   refine T.region ?_
   refine TL.op1 (OpR.pure rfl) rfl ?_
   refine TL.op1 (OpR.pure rfl) rfl ?_
   obtain ⟨x8, hx8, h0⟩ := bnd_some h0
   refine TL.op (OpR.call [3, 0, 1] fn76 (piece_Text_each_c hx8) rfl rfl rfl (fun _ => rfl)) rfl (fun w9 => ?_)
   refine TL.nil ?_
   show T X _ _ _
   refine T.seq ?_
   refine T.seq ?_
   refine T.region ?_
   refine TL.op1 (OpR.loadPtr 1 rfl rfl rfl rfl) rfl ?_
   refine TL.op1 (OpR.loadPtr 0 rfl rfl rfl rfl) rfl ?_
   refine TL.op1 (OpR.pure rfl) rfl ?_
   refine TL.nil ?_
   show T X _ _ _
   rcases ite_some h0 with ⟨c10, h0⟩ | ⟨c10, h0⟩
   · refine T.condT rfl (decide_eq_true c10) ?_
     refine T.seq ?_
     refine T.region ?_
     refine TL.op1 (OpR.build rfl rfl rfl rfl rfl) rfl ?_
     refine TL.op0 (OpR.store 2 rfl rfl rfl rfl rfl rfl rfl rfl) ?_
     refine TL.nil ?_
     show T X _ _ _
     refine T.ret ?_
     obtain rfl := Option.some.inj h0
     exact PostG.retP (ks := []) (Gst.trans (Gst.only [6] rfl) (Gst.trans (Gst.denil (ReS.cons Re.refl ReS.nil) (ReO.same (ReO.same (ReO.var (ReL.cons (Re.base .nil) (ReL.cons Re.refl ReL.nil)) (ReO.same (ReO.same ReO.nil)))))) (Gst.pick [2] rfl rfl))) undef (ResL.cons (ResV.var 0 rfl rfl rfl rfl) ResL.nil) rfl rfl rfl rfl
   refine T.condF rfl (decide_eq_false c10) ?_
   refine T.skip ?_
   show T X _ _ _
   refine T.seq ?_
   refine T.region ?_
   refine TL.op1 (OpR.loadPtr 3 rfl rfl rfl rfl) rfl ?_
   refine TL.op0 (OpR.store 2 rfl rfl rfl rfl rfl rfl rfl rfl) ?_
   refine TL.nil ?_
   show T X _ _ _
   refine T.ret ?_
   obtain rfl := Option.some.inj h0
   exact PostG.retP (ks := []) (Gst.trans (Gst.only [6] rfl) (Gst.trans (Gst.freezeRow 4 rfl rfl (ReS.cons Re.refl ReS.nil) (ReO.same (ReO.same (ReO.var (ReL.cons (Re.base .all) (ReL.cons Re.refl ReL.nil)) (ReO.var (ReL.cons (Re.base .all) (ReL.cons Re.refl ReL.nil)) (ReO.same ReO.nil)))))) (Gst.pick [2] rfl rfl))) undef (ResL.cons (ResV.var 0 rfl rfl rfl rfl) ResL.nil) rfl rfl rfl rfl
 refine oS (d := .agg [.sl 2 (List.map e_arena_Span a0.fL), .val (.int .i64 a0.fN)]) (fun _ => Want.plain rfl) (fun _ => rfl) (fun _ _ _ => rfl) (fun _ _ => OpR.pure rfl) (fun _ _ _ _ _ _ _ => rfl) ?_
 refine OpsS.cons' true ?_ (fun _ _ _ _ _ _ _ => rfl) ?_
 · intro D env4 hA
   have e6 : D 6 = false := hA.no 6 _ rfl rfl
   have e7 : D 7 = false := hA.no 7 _ rfl rfl
   exact OpS.yes (o0 := [.var (blk p1) [.val (.int .i64 a1)] 3, .var (blk p2) [.val (.int .i64 a2)] 3, .var (blk p3) [.val (.slice none 0 0), .val (.int .i64 0)] 59]) (o1 := fun x => [.var (blk p1) [.val (.int .i64 a1)] 3, .var (blk p2) [.val (.int .i64 a2)] 3, .var (blk p3) [.val (.slice none 0 0), .val (.int .i64 0)] 59]) (d := fun x => .val (.int .i64 a1)) (Want.plain rfl) (by first | rfl | simp only [e6, e7, cond_true, cond_false, List.cons_append, List.nil_append, List.append_nil]) (fun x => by first | rfl | simp only [ins_self, ins_ne D (show 1 ≠ 6 by decide), ins_ne D (show 1 ≠ 7 by decide), upd_self, e6, e7, cond_true, cond_false, List.cons_append, List.nil_append, List.append_nil]) (fun x => rfl) (OpR.loadPtr 0 rfl rfl rfl rfl)
 refine oS (d := .val (.int .i64 x5)) (fun _ => Want.plain rfl) (fun _ => rfl) (fun _ _ _ => rfl) (fun _ _ => OpR.call0 fn75 (piece_Text_place_c hx5) rfl) (fun _ _ _ _ _ _ _ => rfl) ?_
 refine oS (d := .agg [.sl 2 (List.map e_arena_Span a0.fL), .val (.int .i64 a0.fN)]) (fun _ => Want.plain rfl) (fun _ => rfl) (fun _ _ _ => rfl) (fun _ _ => OpR.pure rfl) (fun _ _ _ _ _ _ _ => rfl) ?_
 refine OpsS.cons' true ?_ (fun _ _ _ _ _ _ _ => rfl) ?_
 · intro D env4 hA
   have e6 : D 6 = false := hA.no 6 _ rfl rfl
   have e7 : D 7 = false := hA.no 7 _ rfl rfl
   exact OpS.yes (o0 := [.var (blk p1) [.val (.int .i64 a1)] 3, .var (blk p2) [.val (.int .i64 a2)] 3, .var (blk p3) [.val (.slice none 0 0), .val (.int .i64 0)] 59]) (o1 := fun x => [.var (blk p1) [.val (.int .i64 a1)] 3, .var (blk p2) [.val (.int .i64 a2)] 3, .var (blk p3) [.val (.slice none 0 0), .val (.int .i64 0)] 59]) (d := fun x => .val (.int .i64 a2)) (Want.plain rfl) (by first | rfl | simp only [e6, e7, cond_true, cond_false, List.cons_append, List.nil_append, List.append_nil]) (fun x => by first | rfl | simp only [ins_self, ins_ne D (show 4 ≠ 6 by decide), ins_ne D (show 4 ≠ 7 by decide), upd_self, e6, e7, cond_true, cond_false, List.cons_append, List.nil_append, List.append_nil]) (fun x => rfl) (OpR.loadPtr 1 rfl rfl rfl rfl)
 refine oS (d := .val (.int .i64 x6)) (fun _ => Want.plain rfl) (fun _ => rfl) (fun _ _ _ => rfl) (fun _ _ => OpR.call0 fn75 (piece_Text_place_c hx6) rfl) (fun _ _ _ _ _ _ _ => rfl) ?_
 refine OpsS.cons' true ?_ (fun _ _ _ _ _ _ _ => rfl) ?_
 · intro D env4 hA
   have e7 : D 7 = false := hA.no 7 _ rfl rfl
   exact OpS.yes (o0 := [.var (blk p1) [.val (.int .i64 a1)] 3, .var (blk p2) [.val (.int .i64 a2)] 3, .var (blk p3) [.val (.slice none 0 0), .val (.int .i64 0)] 59]) (o1 := fun x => [.var (blk p1) [.val (.int .i64 x5)] 3, .var (blk p2) [.val (.int .i64 a2)] 3, .var (blk p3) [.val (.slice none 0 0), .val (.int .i64 0)] 59]) (d := fun x => .dead) (Want.plain rfl) (by first | rfl | simp only [e7, hA.me, cond_true, cond_false, List.cons_append, List.nil_append, List.append_nil]) (fun x => by first | rfl | simp only [ins_self, ins_ne D (show 6 ≠ 7 by decide), upd_self, e7, hA.me, cond_true, cond_false, List.cons_append, List.nil_append, List.append_nil]) (fun x => rfl) (OpR.store 0 rfl rfl rfl rfl rfl rfl rfl rfl)
 refine OpsS.cons' true ?_ (fun _ _ _ _ _ _ _ => rfl) ?_
 · intro D env4 hA
   have e6 : D 6 = true := hA.yes 6 _ rfl rfl
   exact OpS.yes (o0 := [.var (blk p1) [.val (.int .i64 x5)] 3, .var (blk p2) [.val (.int .i64 a2)] 3, .var (blk p3) [.val (.slice none 0 0), .val (.int .i64 0)] 59]) (o1 := fun x => [.var (blk p1) [.val (.int .i64 x5)] 3, .var (blk p2) [.val (.int .i64 x6)] 3, .var (blk p3) [.val (.slice none 0 0), .val (.int .i64 0)] 59]) (d := fun x => .dead) (Want.plain rfl) (by first | rfl | simp only [e6, hA.me, cond_true, cond_false, List.cons_append, List.nil_append, List.append_nil]) (fun x => by first | rfl | simp only [ins_self, ins_ne D (show 7 ≠ 6 by decide), upd_self, e6, hA.me, cond_true, cond_false, List.cons_append, List.nil_append, List.append_nil]) (fun x => rfl) (OpR.store 1 rfl rfl rfl rfl rfl rfl rfl rfl)
 exact trivial
noncomputable def piece_Concat.l1 (x15 : piece_Text) (s20 : Int × Int × (List arena_Span)) : Option (Lp (Int × Int × (List arena_Span)) (Int × (List arena_Span))) :=
  if s20.1 < (x15.fL.length : Int) then
    bnd (idx x15.fL s20.1) fun x29 =>
    bnd (piece_Text_with_2 x29 s20.2.1 s20.2.2) fun x31 =>
    some (Lp.next (w64 (s20.1 + 1), x31.1, x31.2))
  else
    some (Lp.done (s20.2.1, s20.2.2))
noncomputable def piece_Concat.l2 (a0 : List piece_Text) (s6 : Int × Int × (List arena_Span)) : Option (Lp (Int × Int × (List arena_Span)) (Int × (List arena_Span))) :=
  if s6.1 < (a0.length : Int) then
    bnd (idx a0 s6.1) fun x15 =>
    bnd (loop (piece_Concat.l1 x15) (0, s6.2.1, s6.2.2) : Option (Int × (List arena_Span))) fun t17 =>
    some (Lp.next (w64 (s6.1 + 1), t17.1, t17.2))
  else
    some (Lp.done (s6.2.1, s6.2.2))
noncomputable def piece_Concat (a0 : List piece_Text) : Option piece_Text :=
  bnd (loop (piece_Concat.l2 a0) (0, 0, []) : Option (Int × (List arena_Span))) fun t3 =>
  some (⟨t3.2, t3.1⟩ : piece_Text)
set_option maxHeartbeats 4000000 in
theorem piece_Concat_c {a0 : List piece_Text} {res : piece_Text} (h0 : piece_Concat a0 = some res) : CallF X 56 [.sl 2 (List.map e_piece_Text a0)] [] (fun x => .agg [.sl 2 (List.map e_arena_Span res.fL), .val (.int .i64 res.fN)]) (fun x => []) := by
 unfold piece_Concat at h0
 refine CallF.mkG (X := X) Try.func56 rfl rfl Try.ntmps56 rfl rfl ?_
 refine T.seq ?_
 refine T.region ?_
 refine TL.op (OpR.alloc rfl rfl (fun _ => rfl)) rfl (fun p1 => ?_)
 refine TL.nil ?_
 show T X _ _ _
 refine T.seq ?_
 refine T.region ?_
 refine TL.op (OpR.alloc rfl rfl (fun _ => rfl)) rfl (fun p2 => ?_)
 refine TL.nil ?_
 show T X _ _ _
 refine T.seq ?_
 refine T.seq ?_
 refine T.region ?_
 refine TL.op1 (OpR.pure rfl) rfl ?_
 refine TL.op1 (OpR.cast (OpR.pure rfl) (intE (lenM _ _))) rfl ?_
 refine TL.op1 (OpR.pure rfl) rfl ?_
 refine TL.nil ?_
 show T X _ _ _
 obtain ⟨t3, ht3, h0⟩ := bnd_some h0
 refine T.cutC (fun S' => ∃ y4 : Value, S' = ⟨[(3, .val (.pointer (some ⟨(blk p2), 0, none⟩))), (2, .val (.pointer (some ⟨(blk p1), 0, none⟩)))], [.var (blk p1) [.val (.slice none 0 0), .val (.int .i64 0)] 59, .var (blk p2) [.val y4, .val (.int .i64 t3.1)] 59, .row y4 (List.map e_arena_Span t3.2) 2 50], 26⟩) (fun _ h => h) ?_ ?_
 rotate_left
 · rintro _ ⟨y4, rfl⟩
   show T X _ _ _
   refine T.seq ?_
   refine T.region ?_
   refine TL.op1 (OpR.loadPtr 1 rfl rfl rfl rfl) rfl ?_
   refine TL.op0 (OpR.store 0 rfl rfl rfl rfl rfl rfl rfl rfl) ?_
   refine TL.nil ?_
   show T X _ _ _
   refine T.ret ?_
   obtain rfl := Option.some.inj h0
   exact PostG.retP (ks := []) (Gst.trans (Gst.only [2] rfl) (Gst.trans (Gst.freezeRow 2 rfl rfl (ReS.cons Re.refl ReS.nil) (ReO.var (ReL.cons (Re.base .all) (ReL.cons Re.refl ReL.nil)) (ReO.var (ReL.cons (Re.base .all) (ReL.cons Re.refl ReL.nil)) (ReO.same ReO.nil)))) (Gst.pick [0] rfl rfl))) undef (ResL.cons (ResV.var 0 rfl rfl rfl rfl) ResL.nil) rfl rfl rfl rfl
 refine T.block ?_
 obtain ⟨n7, n12⟩ := loop_some ht3
 refine T.loop (fun n S' => ∃ S'', Gst S' S'' ∧ ∃ y5 : Value, ∃ s6 : Int × Int × (List arena_Span), S'' = ⟨[(10, .val (.int .i64 s6.1)), (9, .val (.int .i64 (a0.length : Int))), (8, .sl 2 (List.map e_piece_Text a0)), (3, .val (.pointer (some ⟨(blk p2), 0, none⟩))), (2, .val (.pointer (some ⟨(blk p1), 0, none⟩)))], [.var (blk p1) [.val (.slice none 0 0), .val (.int .i64 0)] 59, .var (blk p2) [.val y5, .val (.int .i64 s6.2.1)] 59, .row y5 (List.map e_arena_Span s6.2.2) 2 50], 26⟩ ∧ iter (piece_Concat.l2 a0) n s6 = some t3) n7 ?_ ?_
 · exact ⟨_, Gst.trans (Gst.only [2, 3, 8, 9, 10] rfl) (Gst.nilRow (ow := [.var (blk p1) [.val (.slice none 0 0), .val (.int .i64 0)] 59, .var (blk p2) [.val (.slice none 0 0), .val (.int .i64 0)] 59]) 2 50 rfl), (.slice none 0 0), (0, 0, []), rfl, n12⟩
 rintro n7 _ ⟨_, g, y5, s6, rfl, i11⟩
 refine T.ghost g ?_
 obtain ⟨m8, q9, rfl, q10, i11⟩ := iter_succ i11
 unfold piece_Concat.l2 at q10
 refine T.seq ?_
 refine T.region ?_
 refine TL.op1 (OpR.pure rfl) rfl ?_
 refine TL.nil ?_
 show T X _ _ _
 refine T.seq ?_
 rcases ite_some q10 with ⟨c14, q10⟩ | ⟨c14, q10⟩
 rotate_left
 · refine T.condF rfl (decide_eq_false c14) ?_
   refine T.exit ?_
   obtain rfl := Option.some.inj q10
   obtain rfl : _ = _ := i11
   exact ⟨_, Gst.only [2, 3] rfl, y5, rfl⟩
 refine T.condT rfl (decide_eq_true c14) ?_
 refine T.skip ?_
 show T X _ _ _
 refine T.seq ?_
 refine T.block ?_
 refine T.seq ?_
 refine T.region ?_
 obtain ⟨x15, hx15, q10⟩ := bnd_some q10
 refine TL.op1 (OpR.indexM e_piece_Text hx15 rfl rfl rfl rfl rfl) rfl ?_
 refine TL.op1 (OpR.pure rfl) rfl ?_
 refine TL.op (OpR.alloc rfl rfl (fun _ => rfl)) rfl (fun p16 => ?_)
 refine TL.op0 (OpR.store 3 rfl rfl rfl rfl rfl rfl rfl rfl) ?_
 refine TL.nil ?_
 show T X _ _ _
 refine T.seq ?_
 refine T.region ?_
 refine TL.op1 (OpR.pure rfl) rfl ?_
 refine TL.op1 (OpR.loadPtr 3 rfl rfl rfl rfl) rfl ?_
 refine TL.op1 (OpR.cast (OpR.pure rfl) (intE (lenM _ _))) rfl ?_
 refine TL.op1 (OpR.pure rfl) rfl ?_
 refine TL.nil ?_
 show T X _ _ _
 obtain ⟨t17, ht17, q10⟩ := bnd_some q10
 refine T.cutC (fun S' => ∃ y18 : Value, S' = ⟨[(10, .val (.int .i64 s6.1)), (9, .val (.int .i64 (a0.length : Int))), (8, .sl 2 (List.map e_piece_Text a0)), (3, .val (.pointer (some ⟨(blk p2), 0, none⟩))), (2, .val (.pointer (some ⟨(blk p1), 0, none⟩)))], [.var (blk p1) [.val (.slice none 0 0), .val (.int .i64 0)] 59, .var (blk p2) [.val y18, .val (.int .i64 t17.1)] 59, .row y18 (List.map e_arena_Span t17.2) 2 50], 26⟩) (fun _ h => h) ?_ ?_
 rotate_left
 · rintro _ ⟨y18, rfl⟩
   show T X _ _ _
   refine T.region ?_
   refine TL.op1 (OpR.pure rfl) rfl ?_
   refine TL.op1 (OpR.pure rfl) rfl ?_
   refine TL.nil ?_
   obtain rfl := Option.some.inj q10
   exact ⟨m8, Nat.lt_succ_self _, _, Gst.only [2, 3, 8, 9, 10] rfl, y18, (w64 (s6.1 + 1), t17.1, t17.2), rfl, i11⟩
 refine T.block ?_
 obtain ⟨n21, n26⟩ := loop_some ht17
 refine T.loop (fun n S' => ∃ S'', Gst S' S'' ∧ ∃ y19 : Value, ∃ s20 : Int × Int × (List arena_Span), S'' = ⟨[(17, .val (.int .i64 s20.1)), (16, .val (.int .i64 (x15.fL.length : Int))), (15, .sl 2 (List.map e_arena_Span x15.fL)), (10, .val (.int .i64 s6.1)), (9, .val (.int .i64 (a0.length : Int))), (8, .sl 2 (List.map e_piece_Text a0)), (3, .val (.pointer (some ⟨(blk p2), 0, none⟩))), (2, .val (.pointer (some ⟨(blk p1), 0, none⟩)))], [.var (blk p1) [.val (.slice none 0 0), .val (.int .i64 0)] 59, .var (blk p2) [.val y19, .val (.int .i64 s20.2.1)] 59, .row y19 (List.map e_arena_Span s20.2.2) 2 50], 26⟩ ∧ iter (piece_Concat.l1 x15) n s20 = some t17) n21 ?_ ?_
 · exact ⟨_, Gst.trans (Gst.only [2, 3, 8, 9, 10, 15, 16, 17] rfl) (Gst.pick [0, 1, 2] rfl rfl), y5, (0, s6.2.1, s6.2.2), rfl, n26⟩
 rintro n21 _ ⟨_, g, y19, s20, rfl, i25⟩
 refine T.ghost g ?_
 obtain ⟨m22, q23, rfl, q24, i25⟩ := iter_succ i25
 unfold piece_Concat.l1 at q24
 refine T.seq ?_
 refine T.region ?_
 refine TL.op1 (OpR.pure rfl) rfl ?_
 refine TL.nil ?_
 show T X _ _ _
 refine T.seq ?_
 rcases ite_some q24 with ⟨c28, q24⟩ | ⟨c28, q24⟩
 rotate_left
 · refine T.condF rfl (decide_eq_false c28) ?_
   refine T.exit ?_
   obtain rfl := Option.some.inj q24
   obtain rfl : _ = _ := i25
   exact ⟨_, Gst.only [2, 3, 8, 9, 10] rfl, y19, rfl⟩
 refine T.condT rfl (decide_eq_true c28) ?_
 refine T.skip ?_
 show T X _ _ _
 refine T.seq ?_
 refine T.block ?_
 refine T.seq ?_
 refine T.region ?_
 obtain ⟨x29, hx29, q24⟩ := bnd_some q24
 refine TL.op1 (OpR.indexM e_arena_Span hx29 rfl rfl rfl rfl rfl) rfl ?_
 refine TL.op1 (OpR.pure rfl) rfl ?_
 refine TL.op (OpR.alloc rfl rfl (fun _ => rfl)) rfl (fun p30 => ?_)
 refine TL.op0 (OpR.store 3 rfl rfl rfl rfl rfl rfl rfl rfl) ?_
 refine TL.nil ?_
 show T X _ _ _
 refine T.region ?_
 refine TL.op1 (OpR.loadPtr 3 rfl rfl rfl rfl) rfl ?_
 obtain ⟨x31, hx31, q24⟩ := bnd_some q24
 refine TL.op (OpR.call [1, 2] fn78 (piece_Text_with_2_c hx31) rfl rfl rfl (fun _ => rfl)) rfl (fun w32 => ?_)
 refine TL.nil ?_
 show T X _ _ _
 refine T.region ?_
 refine TL.op1 (OpR.pure rfl) rfl ?_
 refine TL.op1 (OpR.pure rfl) rfl ?_
 refine TL.nil ?_
 obtain rfl := Option.some.inj q24
 exact ⟨m22, Nat.lt_succ_self _, _, Gst.trans (Gst.only [2, 3, 8, 9, 10, 15, 16, 17] rfl) (Gst.pick [0, 1, 2] rfl rfl), (vn w32 0), (w64 (s20.1 + 1), x31.1, x31.2), rfl, i25⟩
end Go.Proofs.Ytkjcogmngoogcaa.S
