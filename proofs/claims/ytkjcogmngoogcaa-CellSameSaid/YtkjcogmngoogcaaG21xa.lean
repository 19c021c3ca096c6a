/- Printed by a program of this session's own (gen.py): Lean functions for Go functions, and the proofs that the Go code comes to their answers. -/
import Derived.Test.YtkjcogmngoogcaaG17xa
import Derived.Test.YtkjcogmngoogcaaG3xa
set_option linter.unusedVariables false
set_option linter.unusedSimpArgs false
set_option maxRecDepth 20000
namespace Go.Proofs.Ytkjcogmngoogcaa.S
open Go Go.Sm
attribute [local irreducible] T TL OpR CallT iter loop
noncomputable def law07_cut (a0 : List UInt8) (a1 : Int) : Option (List UInt8) :=
  if (a0.length : Int) > a1 then
    bnd (cut a0 0 a1) fun x2 =>
    some x2
  else
    some a0
set_option maxHeartbeats 4000000 in
theorem law07_cut_c {a0 : List UInt8} {a1 : Int} {res : (List UInt8)} (h0 : law07_cut a0 a1 = some res) : CallF X 42 [.val (.string (bs a0)), .val (.int .i64 a1)] [] (fun x => .val (.string (bs res))) (fun x => []) := by
 unfold law07_cut at h0
 refine CallF.mkG (X := X) Try.func42 rfl rfl Try.ntmps42 rfl rfl ?_
 refine T.seq ?_
 refine T.region ?_
 refine TL.op1 (OpR.pure rfl) rfl ?_
 refine TL.nil ?_
 show T X _ _ _
 refine T.seq ?_
 refine T.seq ?_
 refine T.region ?_
 refine TL.op1 (OpR.pure rfl) rfl ?_
 refine TL.op1 (OpR.cast (OpR.pure rfl) (intE (lenS _))) rfl ?_
 refine TL.op1 (OpR.pure rfl) rfl ?_
 refine TL.op1 (OpR.pure rfl) rfl ?_
 refine TL.nil ?_
 show T X _ _ _
 rcases ite_some h0 with ⟨c1, h0⟩ | ⟨c1, h0⟩
 rotate_left
 · refine T.condF rfl (decide_eq_false c1) ?_
   refine T.skip ?_
   show T X _ _ _
   refine T.seq ?_
   refine T.region ?_
   refine TL.op1 (OpR.pure rfl) rfl ?_
   refine TL.op1 (OpR.pure rfl) rfl ?_
   refine TL.nil ?_
   show T X _ _ _
   refine T.ret ?_
   obtain rfl := Option.some.inj h0
   exact PostG.retP (ks := []) (Gst.only [4] rfl) undef (ResL.cons (ResV.tmp rfl) ResL.nil) rfl rfl rfl rfl
 refine T.condT rfl (decide_eq_true c1) ?_
 refine T.seq ?_
 refine T.region ?_
 refine TL.op1 (OpR.pure rfl) rfl ?_
 refine TL.op1 (OpR.pure rfl) rfl ?_
 obtain ⟨x2, hx2, h0⟩ := bnd_some h0
 refine TL.op1 (OpR.sliceS hx2 rfl rfl rfl BdM.none (BdM.some rfl)) rfl ?_
 refine TL.op1 (OpR.pure rfl) rfl ?_
 refine TL.nil ?_
 show T X _ _ _
 refine T.ret ?_
 obtain rfl := Option.some.inj h0
 exact PostG.retP (ks := []) (Gst.only [4] rfl) undef (ResL.cons (ResV.tmp rfl) ResL.nil) rfl rfl rfl rfl
noncomputable def cell_Load (a0 : scan_Field) : Option cell_Cell :=
  bnd (piece_Of a0.fParts) fun x3 =>
  some (⟨x3, a0.fRaw, true⟩ : cell_Cell)
set_option maxHeartbeats 4000000 in
theorem cell_Load_c {a0 : scan_Field} {res : cell_Cell} (h0 : cell_Load a0 = some res) : CallF X 44 [.agg [.val (.int .i64 a0.fRaw.fAt), .val (.int .i64 a0.fRaw.fN), .val (.int .i64 a0.fKind), .sl 2 (List.map e_arena_Span a0.fParts)]] [] (fun x => .agg [.sl 2 (List.map e_arena_Span res.fText.fL), .val (.int .i64 res.fText.fN), .val (.int .i64 res.fRaw.fAt), .val (.int .i64 res.fRaw.fN), .val (.bool res.fKept)]) (fun x => []) := by
 unfold cell_Load at h0
 refine CallF.mkG (X := X) Try.func44 rfl rfl Try.ntmps44 rfl rfl ?_
 refine T.seq ?_
 refine T.region ?_
 refine TL.op1 (OpR.boxImm rfl rfl) rfl ?_
 refine TL.op (OpR.alloc rfl rfl (fun _ => rfl)) rfl (fun p1 => ?_)
 refine TL.nil ?_
 show T X _ _ _
 refine T.seq ?_
 obtain ⟨x3, hx3, h0⟩ := bnd_some h0
 refine T.drawS drawsX (fun env2 => [.nod [.sl 2 (List.map e_arena_Span a0.fParts)], .sl 2 (List.map e_arena_Span a0.fParts), .agg [.sl 2 (List.map e_arena_Span x3.fL), .val (.int .i64 x3.fN)], .nod [.val (.int .i64 a0.fRaw.fAt), .val (.int .i64 a0.fRaw.fN), .val (.int .i64 a0.fKind), .sl 2 (List.map e_arena_Span a0.fParts)], .agg [.val (.int .i64 a0.fRaw.fAt), .val (.int .i64 a0.fRaw.fN)], .agg [.sl 2 (List.map e_arena_Span x3.fL), .val (.int .i64 x3.fN), .val (.int .i64 a0.fRaw.fAt), .val (.int .i64 a0.fRaw.fN), .val (.bool true)], .dead]) (fun D env2 => [(bif D 6 then .var (blk p1) [.sl 2 (List.map e_arena_Span x3.fL), .val (.int .i64 x3.fN), .val (.int .i64 a0.fRaw.fAt), .val (.int .i64 a0.fRaw.fN), .val (.bool true)] 83 else .var (blk p1) [.val (.slice none 0 0), .val (.int .i64 0), .val (.int .i64 0), .val (.int .i64 0), .val (.bool false)] 83)]) [0, 1, 3, 0, 8, 31, 63] [0, 1, 2, 3, 4, 5, 6, 7, 8] (fun env2 => [.var (blk p1) [.sl 2 (List.map e_arena_Span x3.fL), .val (.int .i64 x3.fN), .val (.int .i64 a0.fRaw.fAt), .val (.int .i64 a0.fRaw.fN), .val (.bool true)] 83]) (by decide +kernel) (by decide +kernel) (fun _ => rfl) (fun _ => rfl) ?_ (fun _ => rfl) (fun _ => rfl) ?_
 rotate_left
 · intro env2
   show T X _ _ _
   refine T.ret ?_
   obtain rfl := Option.some.inj h0
   exact PostG.retP (ks := []) (Gst.only [2] rfl) undef (ResL.cons (ResV.var 0 rfl rfl rfl rfl) ResL.nil) rfl rfl rfl rfl
 refine oS (d := .nod [.sl 2 (List.map e_arena_Span a0.fParts)]) (fun _ => Want.plain rfl) (fun _ => rfl) (fun _ _ _ => rfl) (fun _ _ => OpR.pure rfl) (fun _ _ _ _ _ _ _ => rfl) ?_
 refine oS (d := .sl 2 (List.map e_arena_Span a0.fParts)) (fun _ => Want.plain rfl) (fun _ => rfl) (fun _ _ _ => rfl) (fun _ _ => OpR.pure rfl) (fun _ _ _ _ _ _ _ => rfl) ?_
 refine oS (d := .agg [.sl 2 (List.map e_arena_Span x3.fL), .val (.int .i64 x3.fN)]) (fun _ => Want.plain rfl) (fun _ => rfl) (fun _ _ _ => rfl) (fun _ _ => OpR.call0 fn57 (piece_Of_c_2 hx3) rfl) (fun _ _ _ _ _ _ _ => rfl) ?_
 refine oS (d := .nod [.val (.int .i64 a0.fRaw.fAt), .val (.int .i64 a0.fRaw.fN), .val (.int .i64 a0.fKind), .sl 2 (List.map e_arena_Span a0.fParts)]) (fun _ => Want.plain rfl) (fun _ => rfl) (fun _ _ _ => rfl) (fun _ _ => OpR.pure rfl) (fun _ _ _ _ _ _ _ => rfl) ?_
 refine oS (d := .agg [.val (.int .i64 a0.fRaw.fAt), .val (.int .i64 a0.fRaw.fN)]) (fun _ => Want.plain rfl) (fun _ => rfl) (fun _ _ _ => rfl) (fun _ _ => OpR.pure rfl) (fun _ _ _ _ _ _ _ => rfl) ?_
 refine oS (d := .agg [.sl 2 (List.map e_arena_Span x3.fL), .val (.int .i64 x3.fN), .val (.int .i64 a0.fRaw.fAt), .val (.int .i64 a0.fRaw.fN), .val (.bool true)]) (fun _ => Want.plain rfl) (fun _ => rfl) (fun _ _ _ => rfl) (fun _ _ => OpR.build rfl rfl rfl rfl rfl) (fun _ _ _ _ _ _ _ => rfl) ?_
 refine OpsS.cons' true ?_ (fun _ _ _ _ _ _ _ => rfl) ?_
 · intro D env2 hA
   exact OpS.yes (o0 := [.var (blk p1) [.val (.slice none 0 0), .val (.int .i64 0), .val (.int .i64 0), .val (.int .i64 0), .val (.bool false)] 83]) (o1 := fun x => [.var (blk p1) [.sl 2 (List.map e_arena_Span x3.fL), .val (.int .i64 x3.fN), .val (.int .i64 a0.fRaw.fAt), .val (.int .i64 a0.fRaw.fN), .val (.bool true)] 83]) (d := fun x => .dead) (Want.plain rfl) (by first | rfl | simp only [hA.me, cond_true, cond_false, List.cons_append, List.nil_append, List.append_nil]) (fun x => by first | rfl | simp only [ins_self, upd_self, hA.me, cond_true, cond_false, List.cons_append, List.nil_append, List.append_nil]) (fun x => rfl) (OpR.store 0 rfl rfl rfl rfl rfl rfl rfl rfl)
 exact trivial
noncomputable def cell_Of (a0 : piece_Text) : Option cell_Cell :=
  some (⟨a0, (⟨0, 0⟩ : arena_Span), false⟩ : cell_Cell)
set_option maxHeartbeats 4000000 in
theorem cell_Of_c {a0 : piece_Text} {res : cell_Cell} (h0 : cell_Of a0 = some res) : CallF X 46 [.agg [.sl 2 (List.map e_arena_Span a0.fL), .val (.int .i64 a0.fN)]] [] (fun x => .agg [.sl 2 (List.map e_arena_Span res.fText.fL), .val (.int .i64 res.fText.fN), .val (.int .i64 res.fRaw.fAt), .val (.int .i64 res.fRaw.fN), .val (.bool res.fKept)]) (fun x => []) := by
 unfold cell_Of at h0
 refine CallF.mkG (X := X) Try.func46 rfl rfl Try.ntmps46 rfl rfl ?_
 refine T.seq ?_
 refine T.region ?_
 refine TL.op1 (OpR.boxImm rfl rfl) rfl ?_
 refine TL.op (OpR.alloc rfl rfl (fun _ => rfl)) rfl (fun p1 => ?_)
 refine TL.nil ?_
 show T X _ _ _
 refine T.seq ?_
 refine T.region ?_
 refine TL.op1 (OpR.pure rfl) rfl ?_
 refine TL.op1 (OpR.build rfl rfl rfl rfl rfl) rfl ?_
 refine TL.op0 (OpR.store 0 rfl rfl rfl rfl rfl rfl rfl rfl) ?_
 refine TL.nil ?_
 show T X _ _ _
 refine T.ret ?_
 obtain rfl := Option.some.inj h0
 exact PostG.retP (ks := []) (Gst.only [2] rfl) undef (ResL.cons (ResV.var 0 rfl rfl rfl rfl) ResL.nil) rfl rfl rfl rfl
noncomputable def cell_Cell_Write (a0 : cell_Cell) (a1 : piece_Text) (a2 : List UInt8) : Option (cell_Cell × Int × (List UInt8)) :=
  bnd (piece_Text_Len a1) fun x3 =>
  if x3 > 400 then
    some ((⟨(⟨[], 0⟩ : piece_Text), (⟨0, 0⟩ : arena_Span), false⟩ : cell_Cell), 7, a2)
  else
    bnd (piece_Text_Tidy a1 a2) fun x5 =>
    if x5.2.1 = 0 then
      bnd (cell_Of x5.1) fun x9 =>
      some (x9, 0, x5.2.2)
    else
      some ((⟨(⟨[], 0⟩ : piece_Text), (⟨0, 0⟩ : arena_Span), false⟩ : cell_Cell), x5.2.1, x5.2.2)
set_option maxHeartbeats 4000000 in
theorem cell_Cell_Write_c {a0 : cell_Cell} {a1 : piece_Text} {a2 : List UInt8} {b0 : Nat} {v1 : Value} {res : cell_Cell × Int × (List UInt8)} (h0 : cell_Cell_Write a0 a1 a2 = some res) : CallF X 58 [.agg [.sl 2 (List.map e_arena_Span a0.fText.fL), .val (.int .i64 a0.fText.fN), .val (.int .i64 a0.fRaw.fAt), .val (.int .i64 a0.fRaw.fN), .val (.bool a0.fKept)], .val (.pointer (some ⟨b0, 0, none⟩)), .agg [.sl 2 (List.map e_arena_Span a1.fL), .val (.int .i64 a1.fN)]] [.var b0 [.val v1] 127, .row v1 (List.map byteD a2) 1 5] (fun x => .tup [.agg [.sl 2 (List.map e_arena_Span res.1.fText.fL), .val (.int .i64 res.1.fText.fN), .val (.int .i64 res.1.fRaw.fAt), .val (.int .i64 res.1.fRaw.fN), .val (.bool res.1.fKept)], .val (.int .i64 res.2.1)]) (fun x => [.var b0 [.val (vn x 0)] 127, .row (vn x 0) (List.map byteD res.2.2) 1 5]) := by
 unfold cell_Cell_Write at h0
 refine CallF.mkG (X := X) Try.func58 rfl rfl Try.ntmps58 rfl rfl ?_
 refine T.seq ?_
 refine T.region ?_
 refine TL.op (OpR.boxVar rfl rfl (fun _ => rfl)) rfl (fun p1 => ?_)
 refine TL.op1 (OpR.boxImm rfl rfl) rfl ?_
 refine TL.op (OpR.alloc rfl rfl (fun _ => rfl)) rfl (fun p2 => ?_)
 refine TL.op1 (OpR.pure rfl) rfl ?_
 refine TL.nil ?_
 show T X _ _ _
 refine T.seq ?_
 refine T.seq ?_
 refine T.region ?_
 refine TL.op1 (OpR.pure rfl) rfl ?_
 obtain ⟨x3, hx3, h0⟩ := bnd_some h0
 refine TL.op1 (OpR.call0 fn38 (piece_Text_Len_c hx3) rfl) rfl ?_
 refine TL.op1 (OpR.pure rfl) rfl ?_
 refine TL.nil ?_
 show T X _ _ _
 rcases ite_some h0 with ⟨c4, h0⟩ | ⟨c4, h0⟩
 · refine T.condT rfl (decide_eq_true c4) ?_
   refine T.seq ?_
   refine T.region ?_
   refine TL.op1 (OpR.build rfl rfl rfl rfl rfl) rfl ?_
   refine TL.op0 (OpR.store 3 rfl rfl rfl rfl rfl rfl rfl rfl) ?_
   refine TL.op1 (OpR.pure rfl) rfl ?_
   refine TL.nil ?_
   show T X _ _ _
   refine T.ret ?_
   obtain rfl := Option.some.inj h0
   exact PostG.retP (ks := [0, 1]) (Gst.trans (Gst.only [6, 7] rfl) (Gst.trans (Gst.denil (ReS.cons Re.refl (ReS.cons Re.refl ReS.nil)) (ReO.var (ReL.cons Re.refl ReL.nil) (ReO.same (ReO.same (ReO.var (ReL.cons (Re.base .nil) (ReL.cons Re.refl (ReL.cons Re.refl (ReL.cons Re.refl (ReL.cons Re.refl ReL.nil))))) ReO.nil))))) (Gst.pick [0, 1, 3] rfl rfl))) (.tuple #[v1]) (ResL.cons (ResV.var 2 rfl rfl rfl rfl) (ResL.cons (ResV.tmp rfl) ResL.nil)) rfl rfl rfl rfl
 refine T.condF rfl (decide_eq_false c4) ?_
 refine T.skip ?_
 show T X _ _ _
 refine T.seq ?_
 refine T.region ?_
 refine TL.op1 (OpR.pure rfl) rfl ?_
 refine TL.op1 (OpR.pure rfl) rfl ?_
 obtain ⟨x5, hx5, h0⟩ := bnd_some h0
 refine TL.op (OpR.call [0, 1] fn34 (piece_Text_Tidy_c hx5) rfl rfl rfl (fun _ => rfl)) rfl (fun w6 => ?_)
 refine TL.op1 (OpR.pure rfl) rfl ?_
 refine TL.op1 (OpR.pure rfl) rfl ?_
 refine TL.op1 (OpR.pure rfl) rfl ?_
 refine TL.op (OpR.alloc rfl rfl (fun _ => rfl)) rfl (fun p7 => ?_)
 refine TL.op0 (OpR.store 4 rfl rfl rfl rfl rfl rfl rfl rfl) ?_
 refine TL.op1 (OpR.pure rfl) rfl ?_
 refine TL.nil ?_
 show T X _ _ _
 refine T.seq ?_
 refine T.seq ?_
 refine T.region ?_
 refine TL.op1 (OpR.pure rfl) rfl ?_
 refine TL.op1 (OpR.pure rfl) rfl ?_
 refine TL.nil ?_
 show T X _ _ _
 rcases ite_some h0 with ⟨c8, h0⟩ | ⟨c8, h0⟩
 · refine T.condF rfl (not_t (beq_iff_eq.2 c8)) ?_
   refine T.skip ?_
   show T X _ _ _
   refine T.seq ?_
   refine T.region ?_
   refine TL.op1 (OpR.loadPtr 4 rfl rfl rfl rfl) rfl ?_
   obtain ⟨x9, hx9, h0⟩ := bnd_some h0
   refine TL.op1 (OpR.call0 fn46 (cell_Of_c hx9) rfl) rfl ?_
   refine TL.op0 (OpR.store 2 rfl rfl rfl rfl rfl rfl rfl rfl) ?_
   refine TL.nil ?_
   show T X _ _ _
   refine T.seq ?_
   refine T.region ?_
   refine TL.op1 (OpR.loadPtr 2 rfl rfl rfl rfl) rfl ?_
   refine TL.op0 (OpR.store 3 rfl rfl rfl rfl rfl rfl rfl rfl) ?_
   refine TL.op1 (OpR.pure rfl) rfl ?_
   refine TL.nil ?_
   show T X _ _ _
   refine T.ret ?_
   obtain rfl := Option.some.inj h0
   exact PostG.retP (ks := [0, 1]) (Gst.trans (Gst.only [6, 7] rfl) (Gst.pick [0, 1, 3] rfl rfl)) (.tuple #[(vn w6 0)]) (ResL.cons (ResV.var 2 rfl rfl rfl rfl) (ResL.cons (ResV.tmp rfl) ResL.nil)) rfl rfl rfl rfl
 refine T.condT rfl (not_f (beq_eq_false_iff_ne.2 c8)) ?_
 refine T.seq ?_
 refine T.region ?_
 refine TL.op1 (OpR.build rfl rfl rfl rfl rfl) rfl ?_
 refine TL.op1 (OpR.pure rfl) rfl ?_
 refine TL.op0 (OpR.store 3 rfl rfl rfl rfl rfl rfl rfl rfl) ?_
 refine TL.op1 (OpR.pure rfl) rfl ?_
 refine TL.nil ?_
 show T X _ _ _
 refine T.ret ?_
 obtain rfl := Option.some.inj h0
 exact PostG.retP (ks := [0, 1]) (Gst.trans (Gst.only [6, 7] rfl) (Gst.trans (Gst.denil (ReS.cons Re.refl (ReS.cons Re.refl ReS.nil)) (ReO.var (ReL.cons Re.refl ReL.nil) (ReO.same (ReO.same (ReO.var (ReL.cons (Re.base .nil) (ReL.cons Re.refl (ReL.cons Re.refl (ReL.cons Re.refl (ReL.cons Re.refl ReL.nil))))) (ReO.same ReO.nil)))))) (Gst.pick [0, 1, 3] rfl rfl))) (.tuple #[(vn w6 0)]) (ResL.cons (ResV.var 2 rfl rfl rfl rfl) (ResL.cons (ResV.tmp rfl) ResL.nil)) rfl rfl rfl rfl
noncomputable def cell_Cell_Bytes (a0 : cell_Cell) (a1 : List UInt8) : Option (List UInt8) :=
  bnd (piece_Text_Flat a0.fText a1) fun x1 =>
  some x1
set_option maxHeartbeats 4000000 in
theorem cell_Cell_Bytes_c {a0 : cell_Cell} {a1 : List UInt8} {b0 : Nat} {v1 : Value} {res : (List UInt8)} (h0 : cell_Cell_Bytes a0 a1 = some res) : CallF X 73 [.agg [.sl 2 (List.map e_arena_Span a0.fText.fL), .val (.int .i64 a0.fText.fN), .val (.int .i64 a0.fRaw.fAt), .val (.int .i64 a0.fRaw.fN), .val (.bool a0.fKept)], .val (.pointer (some ⟨b0, 0, none⟩))] [.var b0 [.val v1] 127, .row v1 (List.map byteD a1) 1 5] (fun x => .sl 1 (List.map byteD res)) (fun x => [.var b0 [.val v1] 127, .row v1 (List.map byteD a1) 1 5]) := by
 unfold cell_Cell_Bytes at h0
 refine CallF.mkG (X := X) Try.func73 rfl rfl Try.ntmps73 rfl rfl ?_
 refine T.seq ?_
 refine T.region ?_
 refine TL.op1 (OpR.boxImm rfl rfl) rfl ?_
 refine TL.op1 (OpR.pure rfl) rfl ?_
 refine TL.nil ?_
 show T X _ _ _
 refine T.seq ?_
 refine T.region ?_
 refine TL.op1 (OpR.pure rfl) rfl ?_
 refine TL.op1 (OpR.pure rfl) rfl ?_
 refine TL.op1 (OpR.pure rfl) rfl ?_
 obtain ⟨x1, hx1, h0⟩ := bnd_some h0
 refine TL.op1 (OpR.call [0, 1] fn40 (piece_Text_Flat_c hx1) rfl rfl rfl (fun _ => rfl)) rfl ?_
 refine TL.op1 (OpR.pure rfl) rfl ?_
 refine TL.nil ?_
 show T X _ _ _
 refine T.ret ?_
 obtain rfl := Option.some.inj h0
 exact PostG.retP (ks := [0, 1]) (Gst.only [4] rfl) undef (ResL.cons (ResV.tmp rfl) ResL.nil) rfl rfl rfl rfl
noncomputable def cell_Cell_Print (a0 : cell_Cell) (a1 : List UInt8) : Option (List UInt8) :=
  if a0.fKept = true then
    bnd (arena_Arena_Bytes a0.fRaw a1) fun x2 =>
    some x2
  else
    bnd (cell_Cell_Bytes a0 a1) fun x3 =>
    bnd (quote_Put x3) fun x4 =>
    some x4
set_option maxHeartbeats 4000000 in
theorem cell_Cell_Print_c {a0 : cell_Cell} {a1 : List UInt8} {b0 : Nat} {v1 : Value} {res : (List UInt8)} (h0 : cell_Cell_Print a0 a1 = some res) : CallF X 51 [.agg [.sl 2 (List.map e_arena_Span a0.fText.fL), .val (.int .i64 a0.fText.fN), .val (.int .i64 a0.fRaw.fAt), .val (.int .i64 a0.fRaw.fN), .val (.bool a0.fKept)], .val (.pointer (some ⟨b0, 0, none⟩))] [.var b0 [.val v1] 127, .row v1 (List.map byteD a1) 1 5] (fun x => .sl 1 (List.map byteD res)) (fun x => [.var b0 [.val v1] 127, .row v1 (List.map byteD a1) 1 5]) := by
 unfold cell_Cell_Print at h0
 refine CallF.mkG (X := X) Try.func51 rfl rfl Try.ntmps51 rfl rfl ?_
 refine T.seq ?_
 refine T.region ?_
 refine TL.op1 (OpR.boxImm rfl rfl) rfl ?_
 refine TL.op1 (OpR.pure rfl) rfl ?_
 refine TL.nil ?_
 show T X _ _ _
 refine T.seq ?_
 refine T.seq ?_
 refine T.region ?_
 refine TL.op1 (OpR.pure rfl) rfl ?_
 refine TL.op1 (OpR.pure rfl) rfl ?_
 refine TL.nil ?_
 show T X _ _ _
 rcases ite_some h0 with ⟨c1, h0⟩ | ⟨c1, h0⟩
 · refine T.condT rfl (c1) ?_
   refine T.seq ?_
   refine T.region ?_
   refine TL.op1 (OpR.pure rfl) rfl ?_
   refine TL.op1 (OpR.pure rfl) rfl ?_
   refine TL.op1 (OpR.pure rfl) rfl ?_
   obtain ⟨x2, hx2, h0⟩ := bnd_some h0
   refine TL.op1 (OpR.call [0, 1] fn72 (arena_Arena_Bytes_c hx2) rfl rfl rfl (fun _ => rfl)) rfl ?_
   refine TL.op1 (OpR.pure rfl) rfl ?_
   refine TL.nil ?_
   show T X _ _ _
   refine T.ret ?_
   obtain rfl := Option.some.inj h0
   exact PostG.retP (ks := [0, 1]) (Gst.only [4] rfl) undef (ResL.cons (ResV.tmp rfl) ResL.nil) rfl rfl rfl rfl
 refine T.condF rfl (eq_false_of_ne_true c1) ?_
 refine T.skip ?_
 show T X _ _ _
 refine T.seq ?_
 refine T.region ?_
 refine TL.op1 (OpR.pure rfl) rfl ?_
 refine TL.op1 (OpR.pure rfl) rfl ?_
 obtain ⟨x3, hx3, h0⟩ := bnd_some h0
 refine TL.op1 (OpR.call [0, 1] fn73 (cell_Cell_Bytes_c hx3) rfl rfl rfl (fun _ => rfl)) rfl ?_
 obtain ⟨x4, hx4, h0⟩ := bnd_some h0
 refine TL.op1 (OpR.call0 fn18 (quote_Put_c hx4) rfl) rfl ?_
 refine TL.op1 (OpR.pure rfl) rfl ?_
 refine TL.nil ?_
 show T X _ _ _
 refine T.ret ?_
 obtain rfl := Option.some.inj h0
 exact PostG.retP (ks := [0, 1]) (Gst.only [4] rfl) undef (ResL.cons (ResV.tmp rfl) ResL.nil) rfl rfl rfl rfl
noncomputable def bytes_Equal (a0 : List UInt8) (a1 : List UInt8) : Option Bool :=
  some (a0 == a1)
set_option maxHeartbeats 4000000 in
theorem bytes_Equal_c {a0 : List UInt8} {a1 : List UInt8} {res : Bool} (h0 : bytes_Equal a0 a1 = some res) : CallF X 74 [.sl 1 (List.map byteD a0), .sl 1 (List.map byteD a1)] [] (fun x => .val (.bool res)) (fun x => []) := by
 unfold bytes_Equal at h0
 refine CallF.mkG (X := X) Try.func74 rfl rfl Try.ntmps74 rfl rfl ?_
 refine T.seq ?_
 refine T.region ?_
 refine TL.op1 (OpR.pure rfl) rfl ?_
 refine TL.nil ?_
 show T X _ _ _
 refine T.seq ?_
 refine T.region ?_
 refine TL.op1 (OpR.pure rfl) rfl ?_
 refine TL.op1 (OpR.toStr (bs := a0) rfl rfl rfl rfl rfl rfl rfl) rfl ?_
 refine TL.op1 (OpR.pure rfl) rfl ?_
 refine TL.op1 (OpR.toStr (bs := a1) rfl rfl rfl rfl rfl rfl rfl) rfl ?_
 refine TL.op1 (OpR.cast (OpR.pure rfl) (boolE (strEq _ _))) rfl ?_
 refine TL.op1 (OpR.pure rfl) rfl ?_
 refine TL.nil ?_
 show T X _ _ _
 refine T.ret ?_
 obtain rfl := Option.some.inj h0
 exact PostG.retP (ks := []) (Gst.only [4] rfl) undef (ResL.cons (ResV.tmp rfl) ResL.nil) rfl rfl rfl rfl
noncomputable def cell_Same (a0 : cell_Cell) (a1 : cell_Cell) (a2 : List UInt8) : Option Bool :=
  bnd (if (a0.fKept == a1.fKept) = true then
    bnd (cell_Cell_Bytes a0 a2) fun x4 =>
    bnd (cell_Cell_Bytes a1 a2) fun x5 =>
    bnd (bytes_Equal x4 x5) fun x6 =>
    some (!x6)
  else
    some true : Option Bool) fun t1 =>
  if t1 = true then
    some false
  else
    bnd (if a0.fKept = true then
      bnd (arena_Arena_Bytes a0.fRaw a2) fun x11 =>
      bnd (arena_Arena_Bytes a1.fRaw a2) fun x12 =>
      bnd (bytes_Equal x11 x12) fun x13 =>
      some x13
    else
      some true : Option Bool) fun t8 =>
    some t8
set_option maxHeartbeats 4000000 in
theorem cell_Same_c {a0 : cell_Cell} {a1 : cell_Cell} {a2 : List UInt8} {b0 : Nat} {v1 : Value} {res : Bool} (h0 : cell_Same a0 a1 a2 = some res) : CallF X 48 [.val (.pointer (some ⟨b0, 0, none⟩)), .agg [.sl 2 (List.map e_arena_Span a0.fText.fL), .val (.int .i64 a0.fText.fN), .val (.int .i64 a0.fRaw.fAt), .val (.int .i64 a0.fRaw.fN), .val (.bool a0.fKept)], .agg [.sl 2 (List.map e_arena_Span a1.fText.fL), .val (.int .i64 a1.fText.fN), .val (.int .i64 a1.fRaw.fAt), .val (.int .i64 a1.fRaw.fN), .val (.bool a1.fKept)]] [.var b0 [.val v1] 127, .row v1 (List.map byteD a2) 1 5] (fun x => .val (.bool res)) (fun x => [.var b0 [.val v1] 127, .row v1 (List.map byteD a2) 1 5]) := by
 unfold cell_Same at h0
 refine CallF.mkG (X := X) Try.func48 rfl rfl Try.ntmps48 rfl rfl ?_
 refine T.seq ?_
 refine T.region ?_
 refine TL.op1 (OpR.boxImm rfl rfl) rfl ?_
 refine TL.op1 (OpR.boxImm rfl rfl) rfl ?_
 refine TL.op1 (OpR.pure rfl) rfl ?_
 refine TL.nil ?_
 show T X _ _ _
 refine T.seq ?_
 refine T.seq ?_
 obtain ⟨t1, ht1, h0⟩ := bnd_some h0
 refine T.cutC (fun S' => S' = ⟨[(21, .val (.bool t1)), (6, .val (.bool false)), (5, .nod [.sl 2 (List.map e_arena_Span a1.fText.fL), .val (.int .i64 a1.fText.fN), .val (.int .i64 a1.fRaw.fAt), .val (.int .i64 a1.fRaw.fN), .val (.bool a1.fKept)]), (4, .nod [.sl 2 (List.map e_arena_Span a0.fText.fL), .val (.int .i64 a0.fText.fN), .val (.int .i64 a0.fRaw.fAt), .val (.int .i64 a0.fRaw.fN), .val (.bool a0.fKept)]), (0, .val (.pointer (some ⟨b0, 0, none⟩)))], [.var b0 [.val v1] 127, .row v1 (List.map byteD a2) 1 5], 36⟩) (fun _ h => h) ?_ ?_
 · rcases ite_some ht1 with ⟨c3, ht1⟩ | ⟨c3, ht1⟩
   rotate_left
   · refine T.drawQ drawsX [.nod [.val (.bool a0.fKept)], .val (.bool a0.fKept), .nod [.val (.bool a1.fKept)], .val (.bool a1.fKept), .val (.bool (!(a0.fKept == a1.fKept))), .val (.bool (!(a0.fKept == a1.fKept))), .tup [], .tup [], .tup [], .tup [], .tup [], .tup [], .tup [], .tup [], .val (.bool true)] [0, 1, 2, 4, 5, 6, 7, 8, 9, 10, 11, 12, 13, 14, 15, 16, 17, 18, 19, 20, 21] (by decide +kernel) rfl ?_ rfl ?_
     rotate_left
     · obtain rfl := Option.some.inj ht1
       exact ⟨_, Gst.only [0, 4, 5, 6, 21] rfl, rfl⟩
     refine OpsQ.yes (Want.plain rfl) rfl (OpR.pure rfl) ?_
     refine OpsQ.yes (Want.plain rfl) rfl (OpR.pure rfl) ?_
     refine OpsQ.yes (Want.plain rfl) rfl (OpR.pure rfl) ?_
     refine OpsQ.yes (Want.plain rfl) rfl (OpR.pure rfl) ?_
     refine OpsQ.yes (Want.plain rfl) rfl (OpR.neBool rfl rfl rfl rfl) ?_
     refine OpsQ.yes (Want.plain rfl) rfl (OpR.pure rfl) ?_
     refine OpsQ.no (Want.bool rfl rfl rfl rfl (by rw [(not_f (eq_false_of_ne_true c3))]; rfl)) rfl ?_
     refine OpsQ.no (Want.bool rfl rfl rfl rfl (by rw [(not_f (eq_false_of_ne_true c3))]; rfl)) rfl ?_
     refine OpsQ.no (Want.bool rfl rfl rfl rfl (by rw [(not_f (eq_false_of_ne_true c3))]; rfl)) rfl ?_
     refine OpsQ.no (Want.bool rfl rfl rfl rfl (by rw [(not_f (eq_false_of_ne_true c3))]; rfl)) rfl ?_
     refine OpsQ.no (Want.bool rfl rfl rfl rfl (by rw [(not_f (eq_false_of_ne_true c3))]; rfl)) rfl ?_
     refine OpsQ.no (Want.bool rfl rfl rfl rfl (by rw [(not_f (eq_false_of_ne_true c3))]; rfl)) rfl ?_
     refine OpsQ.no (Want.bool rfl rfl rfl rfl (by rw [(not_f (eq_false_of_ne_true c3))]; rfl)) rfl ?_
     refine OpsQ.no (Want.bool rfl rfl rfl rfl (by rw [(not_f (eq_false_of_ne_true c3))]; rfl)) rfl ?_
     refine OpsQ.yes (Want.plain rfl) rfl (OpR.pickT rfl (not_f (eq_false_of_ne_true c3)) rfl) ?_
     exact OpsQ.nil
   obtain ⟨x4, hx4, ht1⟩ := bnd_some ht1
   obtain ⟨x5, hx5, ht1⟩ := bnd_some ht1
   obtain ⟨x6, hx6, ht1⟩ := bnd_some ht1
   refine T.drawQ drawsX [.nod [.val (.bool a0.fKept)], .val (.bool a0.fKept), .nod [.val (.bool a1.fKept)], .val (.bool a1.fKept), .val (.bool (!(a0.fKept == a1.fKept))), .val (.bool (!(a0.fKept == a1.fKept))), .agg [.sl 2 (List.map e_arena_Span a0.fText.fL), .val (.int .i64 a0.fText.fN), .val (.int .i64 a0.fRaw.fAt), .val (.int .i64 a0.fRaw.fN), .val (.bool a0.fKept)], .val (.pointer (some ⟨b0, 0, none⟩)), .sl 1 (List.map byteD x4), .agg [.sl 2 (List.map e_arena_Span a1.fText.fL), .val (.int .i64 a1.fText.fN), .val (.int .i64 a1.fRaw.fAt), .val (.int .i64 a1.fRaw.fN), .val (.bool a1.fKept)], .val (.pointer (some ⟨b0, 0, none⟩)), .sl 1 (List.map byteD x5), .val (.bool x6), .val (.bool (!x6)), .val (.bool (!x6))] [0, 1, 2, 4, 5, 6, 7, 8, 9, 10, 11, 12, 13, 14, 15, 16, 17, 18, 19, 20, 21] (by decide +kernel) rfl ?_ rfl ?_
   rotate_left
   · obtain rfl := Option.some.inj ht1
     exact ⟨_, Gst.only [0, 4, 5, 6, 21] rfl, rfl⟩
   refine OpsQ.yes (Want.plain rfl) rfl (OpR.pure rfl) ?_
   refine OpsQ.yes (Want.plain rfl) rfl (OpR.pure rfl) ?_
   refine OpsQ.yes (Want.plain rfl) rfl (OpR.pure rfl) ?_
   refine OpsQ.yes (Want.plain rfl) rfl (OpR.pure rfl) ?_
   refine OpsQ.yes (Want.plain rfl) rfl (OpR.neBool rfl rfl rfl rfl) ?_
   refine OpsQ.yes (Want.plain rfl) rfl (OpR.pure rfl) ?_
   refine OpsQ.yes (Want.bool rfl rfl rfl rfl (by rw [(not_t (c3))]; rfl)) rfl (OpR.pure rfl) ?_
   refine OpsQ.yes (Want.bool rfl rfl rfl rfl (by rw [(not_t (c3))]; rfl)) rfl (OpR.pure rfl) ?_
   refine OpsQ.yes (Want.bool rfl rfl rfl rfl (by rw [(not_t (c3))]; rfl)) rfl (OpR.call [0, 1] fn73 (cell_Cell_Bytes_c hx4) rfl rfl rfl (fun _ => rfl)) ?_
   refine OpsQ.yes (Want.bool rfl rfl rfl rfl (by rw [(not_t (c3))]; rfl)) rfl (OpR.pure rfl) ?_
   refine OpsQ.yes (Want.bool rfl rfl rfl rfl (by rw [(not_t (c3))]; rfl)) rfl (OpR.pure rfl) ?_
   refine OpsQ.yes (Want.bool rfl rfl rfl rfl (by rw [(not_t (c3))]; rfl)) rfl (OpR.call [0, 1] fn73 (cell_Cell_Bytes_c hx5) rfl rfl rfl (fun _ => rfl)) ?_
   refine OpsQ.yes (Want.bool rfl rfl rfl rfl (by rw [(not_t (c3))]; rfl)) rfl (OpR.call0 fn74 (bytes_Equal_c hx6) rfl) ?_
   refine OpsQ.yes (Want.bool rfl rfl rfl rfl (by rw [(not_t (c3))]; rfl)) rfl (OpR.pure rfl) ?_
   refine OpsQ.yes (Want.plain rfl) rfl (OpR.pickF rfl (not_t (c3)) rfl) ?_
   exact OpsQ.nil
 rintro _ rfl
 show T X _ _ _
 rcases ite_some h0 with ⟨c7, h0⟩ | ⟨c7, h0⟩
 · refine T.condT rfl (c7) ?_
   refine T.seq ?_
   refine T.region ?_
   refine TL.op1 (OpR.pure rfl) rfl ?_
   refine TL.nil ?_
   show T X _ _ _
   refine T.ret ?_
   obtain rfl := Option.some.inj h0
   exact PostG.retP (ks := [0, 1]) (Gst.only [6] rfl) undef (ResL.cons (ResV.tmp rfl) ResL.nil) rfl rfl rfl rfl
 refine T.condF rfl (eq_false_of_ne_true c7) ?_
 refine T.skip ?_
 show T X _ _ _
 refine T.seq ?_
 obtain ⟨t8, ht8, h0⟩ := bnd_some h0
 refine T.cutC (fun S' => S' = ⟨[(6, .val (.bool t8))], [.var b0 [.val v1] 127, .row v1 (List.map byteD a2) 1 5], 36⟩) (fun _ h => h) ?_ ?_
 rotate_left
 · rintro _ rfl
   show T X _ _ _
   refine T.ret ?_
   obtain rfl := Option.some.inj h0
   exact PostG.retP (ks := [0, 1]) (Gst.only [6] rfl) undef (ResL.cons (ResV.tmp rfl) ResL.nil) rfl rfl rfl rfl
 rcases ite_some ht8 with ⟨c10, ht8⟩ | ⟨c10, ht8⟩
 rotate_left
 · refine T.drawQ drawsX [.nod [.val (.bool a0.fKept)], .val (.bool a0.fKept), .val (.bool (!a0.fKept)), .val (.bool (!a0.fKept)), .tup [], .tup [], .tup [], .tup [], .tup [], .tup [], .tup [], .tup [], .tup [], .val (.bool true), .val (.bool true)] [0, 4, 5, 6, 21, 22, 23, 24, 25, 26, 27, 28, 29, 30, 31, 32, 33, 34, 35] (by decide +kernel) rfl ?_ rfl ?_
   rotate_left
   · obtain rfl := Option.some.inj ht8
     exact ⟨_, Gst.only [6] rfl, rfl⟩
   refine OpsQ.yes (Want.plain rfl) rfl (OpR.pure rfl) ?_
   refine OpsQ.yes (Want.plain rfl) rfl (OpR.pure rfl) ?_
   refine OpsQ.yes (Want.plain rfl) rfl (OpR.pure rfl) ?_
   refine OpsQ.yes (Want.plain rfl) rfl (OpR.pure rfl) ?_
   refine OpsQ.no (Want.bool rfl rfl rfl rfl (by rw [(not_f (eq_false_of_ne_true c10))]; rfl)) rfl ?_
   refine OpsQ.no (Want.bool rfl rfl rfl rfl (by rw [(not_f (eq_false_of_ne_true c10))]; rfl)) rfl ?_
   refine OpsQ.no (Want.bool rfl rfl rfl rfl (by rw [(not_f (eq_false_of_ne_true c10))]; rfl)) rfl ?_
   refine OpsQ.no (Want.bool rfl rfl rfl rfl (by rw [(not_f (eq_false_of_ne_true c10))]; rfl)) rfl ?_
   refine OpsQ.no (Want.bool rfl rfl rfl rfl (by rw [(not_f (eq_false_of_ne_true c10))]; rfl)) rfl ?_
   refine OpsQ.no (Want.bool rfl rfl rfl rfl (by rw [(not_f (eq_false_of_ne_true c10))]; rfl)) rfl ?_
   refine OpsQ.no (Want.bool rfl rfl rfl rfl (by rw [(not_f (eq_false_of_ne_true c10))]; rfl)) rfl ?_
   refine OpsQ.no (Want.bool rfl rfl rfl rfl (by rw [(not_f (eq_false_of_ne_true c10))]; rfl)) rfl ?_
   refine OpsQ.no (Want.bool rfl rfl rfl rfl (by rw [(not_f (eq_false_of_ne_true c10))]; rfl)) rfl ?_
   refine OpsQ.yes (Want.plain rfl) rfl (OpR.pickT rfl (not_f (eq_false_of_ne_true c10)) rfl) ?_
   refine OpsQ.yes (Want.plain rfl) rfl (OpR.pure rfl) ?_
   exact OpsQ.nil
 obtain ⟨x11, hx11, ht8⟩ := bnd_some ht8
 obtain ⟨x12, hx12, ht8⟩ := bnd_some ht8
 obtain ⟨x13, hx13, ht8⟩ := bnd_some ht8
 refine T.drawQ drawsX [.nod [.val (.bool a0.fKept)], .val (.bool a0.fKept), .val (.bool (!a0.fKept)), .val (.bool (!a0.fKept)), .val (.pointer (some ⟨b0, 0, none⟩)), .nod [.val (.int .i64 a0.fRaw.fAt), .val (.int .i64 a0.fRaw.fN), .val (.bool a0.fKept)], .agg [.val (.int .i64 a0.fRaw.fAt), .val (.int .i64 a0.fRaw.fN)], .sl 1 (List.map byteD x11), .val (.pointer (some ⟨b0, 0, none⟩)), .nod [.val (.int .i64 a1.fRaw.fAt), .val (.int .i64 a1.fRaw.fN), .val (.bool a1.fKept)], .agg [.val (.int .i64 a1.fRaw.fAt), .val (.int .i64 a1.fRaw.fN)], .sl 1 (List.map byteD x12), .val (.bool x13), .val (.bool x13), .val (.bool x13)] [0, 4, 5, 6, 21, 22, 23, 24, 25, 26, 27, 28, 29, 30, 31, 32, 33, 34, 35] (by decide +kernel) rfl ?_ rfl ?_
 rotate_left
 · obtain rfl := Option.some.inj ht8
   exact ⟨_, Gst.only [6] rfl, rfl⟩
 refine OpsQ.yes (Want.plain rfl) rfl (OpR.pure rfl) ?_
 refine OpsQ.yes (Want.plain rfl) rfl (OpR.pure rfl) ?_
 refine OpsQ.yes (Want.plain rfl) rfl (OpR.pure rfl) ?_
 refine OpsQ.yes (Want.plain rfl) rfl (OpR.pure rfl) ?_
 refine OpsQ.yes (Want.bool rfl rfl rfl rfl (by rw [(not_t (c10))]; rfl)) rfl (OpR.pure rfl) ?_
 refine OpsQ.yes (Want.bool rfl rfl rfl rfl (by rw [(not_t (c10))]; rfl)) rfl (OpR.pure rfl) ?_
 refine OpsQ.yes (Want.bool rfl rfl rfl rfl (by rw [(not_t (c10))]; rfl)) rfl (OpR.pure rfl) ?_
 refine OpsQ.yes (Want.bool rfl rfl rfl rfl (by rw [(not_t (c10))]; rfl)) rfl (OpR.call [0, 1] fn72 (arena_Arena_Bytes_c hx11) rfl rfl rfl (fun _ => rfl)) ?_
 refine OpsQ.yes (Want.bool rfl rfl rfl rfl (by rw [(not_t (c10))]; rfl)) rfl (OpR.pure rfl) ?_
 refine OpsQ.yes (Want.bool rfl rfl rfl rfl (by rw [(not_t (c10))]; rfl)) rfl (OpR.pure rfl) ?_
 refine OpsQ.yes (Want.bool rfl rfl rfl rfl (by rw [(not_t (c10))]; rfl)) rfl (OpR.pure rfl) ?_
 refine OpsQ.yes (Want.bool rfl rfl rfl rfl (by rw [(not_t (c10))]; rfl)) rfl (OpR.call [0, 1] fn72 (arena_Arena_Bytes_c hx12) rfl rfl rfl (fun _ => rfl)) ?_
 refine OpsQ.yes (Want.bool rfl rfl rfl rfl (by rw [(not_t (c10))]; rfl)) rfl (OpR.call0 fn74 (bytes_Equal_c hx13) rfl) ?_
 refine OpsQ.yes (Want.plain rfl) rfl (OpR.pickF rfl (not_t (c10)) rfl) ?_
 refine OpsQ.yes (Want.plain rfl) rfl (OpR.pure rfl) ?_
 exact OpsQ.nil
noncomputable def law07_awake : Option Bool :=
  bnd (arena_New [34, 97, 34]) fun x2 =>
  match x2 with
  | .inl x2 =>
      bnd (scan_One [34, 97, 34] 0) fun x4 =>
      some false
  | .inr x2 =>
      bnd (scan_One [34, 97, 34] 0) fun x6 =>
      if (x6.1.fFields.length : Int) = 1 then
        bnd (idx x6.1.fFields 0) fun x9 =>
        bnd (cell_Load x9) fun x10 =>
        bnd (cell_Cell_Write x10 x10.fText x2.2) fun x12 =>
        bnd (if x10.fKept = true then
          bnd (cell_Cell_Print x10 x12.2.2) fun x17 =>
          if x17 = [34, 97, 34] then
            if x12.2.1 = 0 then
              bnd (cell_Cell_Print x12.1 x12.2.2) fun x20 =>
              if x20 = [97] then
                bnd (cell_Cell_Bytes x10 x12.2.2) fun x22 =>
                if x22 = [97] then
                  bnd (cell_Same x10 x12.1 x12.2.2) fun x24 =>
                  some (!x24)
                else
                  some false
              else
                some false
            else
              some false
          else
            some false
        else
          some false : Option Bool) fun t15 =>
        some t15
      else
        some false
set_option maxHeartbeats 4000000 in
theorem law07_awake_c {res : Bool} (h0 : law07_awake = some res) : CallF X 45 [] [] (fun x => .val (.bool res)) (fun x => []) := by
 unfold law07_awake at h0
 refine CallF.mkG (X := X) Try.func45 rfl rfl Try.ntmps45 rfl rfl ?_
 refine T.seq ?_
 refine T.region ?_
 refine TL.op1 (OpR.pure rfl) rfl ?_
 refine TL.nil ?_
 show T X _ _ _
 refine T.seq ?_
 refine T.region ?_
 refine TL.op (OpR.litRow rfl rfl rfl rfl rfl rfl rfl rfl (fun _ => rfl)) rfl (fun v1 => ?_)
 refine TL.op1 (OpR.markRow 0 rfl rfl rfl rfl rfl rfl rfl rfl) rfl ?_
 refine TL.op1 (OpR.pure rfl) rfl ?_
 refine TL.nil ?_
 show T X _ _ _
 refine T.seq ?_
 refine T.region ?_
 refine TL.op1 (OpR.pure rfl) rfl ?_
 obtain ⟨x2, hx2, h0⟩ := bnd_some h0
 rcases x2 with x2 | x2
 · dsimp only at h0
   refine TL.op1 (OpR.call0 fn43 (arena_New_cx1 hx2) rfl) rfl ?_
   refine TL.op1 (OpR.pure rfl) rfl ?_
   refine TL.op1 (OpR.pure rfl) rfl ?_
   refine TL.op1 (OpR.pure rfl) rfl ?_
   refine TL.op1 (OpR.pure rfl) rfl ?_
   refine TL.op1 (OpR.pure rfl) rfl ?_
   refine TL.nil ?_
   show T X _ _ _
   refine T.seq ?_
   refine T.region ?_
   refine TL.op1 (OpR.pure rfl) rfl ?_
   obtain ⟨x4, hx4, h0⟩ := bnd_some h0
   refine TL.op1 (OpR.call0 fn54 (scan_One_c hx4) rfl) rfl ?_
   refine TL.op1 (OpR.pure rfl) rfl ?_
   refine TL.op1 (OpR.pure rfl) rfl ?_
   refine TL.op1 (OpR.pure rfl) rfl ?_
   refine TL.op (OpR.alloc rfl rfl (fun _ => rfl)) rfl (fun p5 => ?_)
   refine TL.op0 (OpR.store 1 rfl rfl rfl rfl rfl rfl rfl rfl) ?_
   refine TL.op1 (OpR.pure rfl) rfl ?_
   refine TL.nil ?_
   show T X _ _ _
   refine T.seq ?_
   refine T.seq ?_
   refine T.region ?_
   refine TL.op1 (OpR.pure rfl) rfl ?_
   refine TL.op1 (OpR.ptrNil rfl rfl rfl) rfl ?_
   refine TL.op1 (OpR.pure rfl) rfl ?_
   refine TL.off rfl rfl rfl rfl rfl rfl rfl ?_
   refine TL.off rfl rfl rfl rfl rfl rfl rfl ?_
   refine TL.off rfl rfl rfl rfl rfl rfl rfl ?_
   refine TL.off rfl rfl rfl rfl rfl rfl rfl ?_
   refine TL.op1 (OpR.pickT rfl rfl rfl) rfl ?_
   refine TL.nil ?_
   show T X _ _ _
   refine T.condT rfl rfl ?_
   refine T.seq ?_
   refine T.region ?_
   refine TL.op1 (OpR.pure rfl) rfl ?_
   refine TL.nil ?_
   show T X _ _ _
   refine T.ret ?_
   obtain rfl := Option.some.inj h0
   exact PostG.retP (ks := []) (Gst.trans (Gst.only [0] rfl) (Gst.pick [] rfl rfl)) undef (ResL.cons (ResV.tmp rfl) ResL.nil) rfl rfl rfl rfl
 dsimp only at h0
 refine TL.op (OpR.call [] fn43 (arena_New_cx2 hx2) rfl rfl rfl (fun _ => rfl)) rfl (fun w3 => ?_)
 refine TL.op1 (OpR.pure rfl) rfl ?_
 refine TL.op1 (OpR.pure rfl) rfl ?_
 refine TL.op1 (OpR.pure rfl) rfl ?_
 refine TL.op1 (OpR.pure rfl) rfl ?_
 refine TL.op1 (OpR.pure rfl) rfl ?_
 refine TL.nil ?_
 show T X _ _ _
 refine T.seq ?_
 refine T.region ?_
 refine TL.op1 (OpR.pure rfl) rfl ?_
 obtain ⟨x6, hx6, h0⟩ := bnd_some h0
 refine TL.op1 (OpR.call0 fn54 (scan_One_c hx6) rfl) rfl ?_
 refine TL.op1 (OpR.pure rfl) rfl ?_
 refine TL.op1 (OpR.pure rfl) rfl ?_
 refine TL.op1 (OpR.pure rfl) rfl ?_
 refine TL.op (OpR.alloc rfl rfl (fun _ => rfl)) rfl (fun p7 => ?_)
 refine TL.op0 (OpR.store 3 rfl rfl rfl rfl rfl rfl rfl rfl) ?_
 refine TL.op1 (OpR.pure rfl) rfl ?_
 refine TL.nil ?_
 show T X _ _ _
 refine T.seq ?_
 refine T.seq ?_
 refine T.region ?_
 refine TL.op1 (OpR.pure rfl) rfl ?_
 refine TL.op1 (OpR.ptrNil rfl rfl rfl) rfl ?_
 refine TL.op1 (OpR.pure rfl) rfl ?_
 refine TL.on rfl rfl rfl rfl rfl ?_
 refine TL.op1 (OpR.pure rfl) rfl ?_
 refine TL.on rfl rfl rfl rfl rfl ?_
 refine TL.op1 (OpR.loadPtr 3 rfl rfl rfl rfl) rfl ?_
 refine TL.on rfl rfl rfl rfl rfl ?_
 refine TL.op1 (OpR.cast (OpR.pure rfl) (intE (lenM _ _))) rfl ?_
 refine TL.on rfl rfl rfl rfl rfl ?_
 refine TL.op1 (OpR.pure rfl) rfl ?_
 refine TL.op1 (OpR.pickF rfl rfl rfl) rfl ?_
 refine TL.nil ?_
 show T X _ _ _
 rcases ite_some h0 with ⟨c8, h0⟩ | ⟨c8, h0⟩
 rotate_left
 · refine T.condT rfl (not_f (beq_eq_false_iff_ne.2 c8)) ?_
   refine T.seq ?_
   refine T.region ?_
   refine TL.op1 (OpR.pure rfl) rfl ?_
   refine TL.nil ?_
   show T X _ _ _
   refine T.ret ?_
   obtain rfl := Option.some.inj h0
   exact PostG.retP (ks := []) (Gst.trans (Gst.only [0] rfl) (Gst.pick [] rfl rfl)) undef (ResL.cons (ResV.tmp rfl) ResL.nil) rfl rfl rfl rfl
 refine T.condF rfl (not_t (beq_iff_eq.2 c8)) ?_
 refine T.skip ?_
 show T X _ _ _
 refine T.seq ?_
 refine T.region ?_
 refine TL.op1 (OpR.pure rfl) rfl ?_
 refine TL.op1 (OpR.loadPtr 3 rfl rfl rfl rfl) rfl ?_
 obtain ⟨x9, hx9, h0⟩ := bnd_some h0
 refine TL.op1 (OpR.indexM e_scan_Field hx9 rfl rfl rfl rfl rfl) rfl ?_
 refine TL.op1 (OpR.pure rfl) rfl ?_
 obtain ⟨x10, hx10, h0⟩ := bnd_some h0
 refine TL.op1 (OpR.call0 fn44 (cell_Load_c hx10) rfl) rfl ?_
 refine TL.op (OpR.alloc rfl rfl (fun _ => rfl)) rfl (fun p11 => ?_)
 refine TL.op0 (OpR.store 4 rfl rfl rfl rfl rfl rfl rfl rfl) ?_
 refine TL.nil ?_
 show T X _ _ _
 refine T.seq ?_
 refine T.region ?_
 refine TL.op1 (OpR.loadPtr 4 rfl rfl rfl rfl) rfl ?_
 refine TL.op1 (OpR.pure rfl) rfl ?_
 refine TL.op1 (OpR.pure rfl) rfl ?_
 refine TL.op1 (OpR.loadPtr 4 rfl rfl rfl rfl) rfl ?_
 obtain ⟨x12, hx12, h0⟩ := bnd_some h0
 refine TL.op (OpR.call [1, 2] fn58 (cell_Cell_Write_c hx12) rfl rfl rfl (fun _ => rfl)) rfl (fun w13 => ?_)
 refine TL.op1 (OpR.pure rfl) rfl ?_
 refine TL.op1 (OpR.pure rfl) rfl ?_
 refine TL.op1 (OpR.pure rfl) rfl ?_
 refine TL.op (OpR.alloc rfl rfl (fun _ => rfl)) rfl (fun p14 => ?_)
 refine TL.op0 (OpR.store 5 rfl rfl rfl rfl rfl rfl rfl rfl) ?_
 refine TL.op1 (OpR.pure rfl) rfl ?_
 refine TL.nil ?_
 show T X _ _ _
 refine T.seq ?_
 obtain ⟨t15, ht15, h0⟩ := bnd_some h0
 refine T.cutC (fun S' => S' = ⟨[(0, .val (.bool t15))], [], 76⟩) (fun _ h => h) ?_ ?_
 rotate_left
 · rintro _ rfl
   show T X _ _ _
   refine T.ret ?_
   obtain rfl := Option.some.inj h0
   exact PostG.retP (ks := []) (Gst.only [0] rfl) undef (ResL.cons (ResV.tmp rfl) ResL.nil) rfl rfl rfl rfl
 refine T.region ?_
 refine TL.op1 (OpR.pure rfl) rfl ?_
 refine TL.op1 (OpR.loadPtr 4 rfl rfl rfl rfl) rfl ?_
 refine TL.op1 (OpR.pure rfl) rfl ?_
 rcases ite_some ht15 with ⟨c16, ht15⟩ | ⟨c16, ht15⟩
 rotate_left
 · refine TL.off rfl rfl rfl rfl (eq_false_of_ne_true c16) rfl rfl ?_
   refine TL.off rfl rfl rfl rfl (eq_false_of_ne_true c16) rfl rfl ?_
   refine TL.off rfl rfl rfl rfl (eq_false_of_ne_true c16) rfl rfl ?_
   refine TL.off rfl rfl rfl rfl (eq_false_of_ne_true c16) rfl rfl ?_
   refine TL.off rfl rfl rfl rfl (eq_false_of_ne_true c16) rfl rfl ?_
   refine TL.op1 (OpR.pickF rfl (eq_false_of_ne_true c16) rfl) rfl ?_
   refine TL.op1 (OpR.pure rfl) rfl ?_
   refine TL.off rfl rfl rfl rfl rfl rfl rfl ?_
   refine TL.off rfl rfl rfl rfl rfl rfl rfl ?_
   refine TL.op1 (OpR.pickF rfl rfl rfl) rfl ?_
   refine TL.op1 (OpR.pure rfl) rfl ?_
   refine TL.off rfl rfl rfl rfl rfl rfl rfl ?_
   refine TL.off rfl rfl rfl rfl rfl rfl rfl ?_
   refine TL.off rfl rfl rfl rfl rfl rfl rfl ?_
   refine TL.off rfl rfl rfl rfl rfl rfl rfl ?_
   refine TL.off rfl rfl rfl rfl rfl rfl rfl ?_
   refine TL.op1 (OpR.pickF rfl rfl rfl) rfl ?_
   refine TL.op1 (OpR.pure rfl) rfl ?_
   refine TL.off rfl rfl rfl rfl rfl rfl rfl ?_
   refine TL.off rfl rfl rfl rfl rfl rfl rfl ?_
   refine TL.off rfl rfl rfl rfl rfl rfl rfl ?_
   refine TL.off rfl rfl rfl rfl rfl rfl rfl ?_
   refine TL.off rfl rfl rfl rfl rfl rfl rfl ?_
   refine TL.op1 (OpR.pickF rfl rfl rfl) rfl ?_
   refine TL.op1 (OpR.pure rfl) rfl ?_
   refine TL.off rfl rfl rfl rfl rfl rfl rfl ?_
   refine TL.off rfl rfl rfl rfl rfl rfl rfl ?_
   refine TL.off rfl rfl rfl rfl rfl rfl rfl ?_
   refine TL.off rfl rfl rfl rfl rfl rfl rfl ?_
   refine TL.off rfl rfl rfl rfl rfl rfl rfl ?_
   refine TL.op1 (OpR.pickF rfl rfl rfl) rfl ?_
   refine TL.op1 (OpR.pure rfl) rfl ?_
   refine TL.nil ?_
   obtain rfl := Option.some.inj ht15
   exact ⟨_, Gst.trans (Gst.only [0] rfl) (Gst.pick [] rfl rfl), rfl⟩
 refine TL.on rfl rfl rfl rfl (c16) ?_
 refine TL.op1 (OpR.loadPtr 4 rfl rfl rfl rfl) rfl ?_
 refine TL.on rfl rfl rfl rfl (c16) ?_
 refine TL.op1 (OpR.pure rfl) rfl ?_
 refine TL.on rfl rfl rfl rfl (c16) ?_
 obtain ⟨x17, hx17, ht15⟩ := bnd_some ht15
 refine TL.op1 (OpR.call [1, 2] fn51 (cell_Cell_Print_c hx17) rfl rfl rfl (fun _ => rfl)) rfl ?_
 refine TL.on rfl rfl rfl rfl (c16) ?_
 refine TL.op1 (OpR.toStr (bs := x17) rfl rfl rfl rfl rfl rfl rfl) rfl ?_
 refine TL.on rfl rfl rfl rfl (c16) ?_
 refine TL.op1 (OpR.cast (OpR.pure rfl) (boolE (strEq _ _))) rfl ?_
 refine TL.op1 (OpR.pickT rfl (c16) rfl) rfl ?_
 refine TL.op1 (OpR.pure rfl) rfl ?_
 rcases ite_some ht15 with ⟨c18, ht15⟩ | ⟨c18, ht15⟩
 rotate_left
 · refine TL.off rfl rfl rfl rfl (beq_eq_false_iff_ne.2 c18) rfl rfl ?_
   refine TL.off rfl rfl rfl rfl (beq_eq_false_iff_ne.2 c18) rfl rfl ?_
   refine TL.op1 (OpR.pickF rfl (beq_eq_false_iff_ne.2 c18) rfl) rfl ?_
   refine TL.op1 (OpR.pure rfl) rfl ?_
   refine TL.off rfl rfl rfl rfl rfl rfl rfl ?_
   refine TL.off rfl rfl rfl rfl rfl rfl rfl ?_
   refine TL.off rfl rfl rfl rfl rfl rfl rfl ?_
   refine TL.off rfl rfl rfl rfl rfl rfl rfl ?_
   refine TL.off rfl rfl rfl rfl rfl rfl rfl ?_
   refine TL.op1 (OpR.pickF rfl rfl rfl) rfl ?_
   refine TL.op1 (OpR.pure rfl) rfl ?_
   refine TL.off rfl rfl rfl rfl rfl rfl rfl ?_
   refine TL.off rfl rfl rfl rfl rfl rfl rfl ?_
   refine TL.off rfl rfl rfl rfl rfl rfl rfl ?_
   refine TL.off rfl rfl rfl rfl rfl rfl rfl ?_
   refine TL.off rfl rfl rfl rfl rfl rfl rfl ?_
   refine TL.op1 (OpR.pickF rfl rfl rfl) rfl ?_
   refine TL.op1 (OpR.pure rfl) rfl ?_
   refine TL.off rfl rfl rfl rfl rfl rfl rfl ?_
   refine TL.off rfl rfl rfl rfl rfl rfl rfl ?_
   refine TL.off rfl rfl rfl rfl rfl rfl rfl ?_
   refine TL.off rfl rfl rfl rfl rfl rfl rfl ?_
   refine TL.off rfl rfl rfl rfl rfl rfl rfl ?_
   refine TL.op1 (OpR.pickF rfl rfl rfl) rfl ?_
   refine TL.op1 (OpR.pure rfl) rfl ?_
   refine TL.nil ?_
   obtain rfl := Option.some.inj ht15
   exact ⟨_, Gst.trans (Gst.only [0] rfl) (Gst.pick [] rfl rfl), rfl⟩
 refine TL.on rfl rfl rfl rfl (beq_iff_eq.2 c18) ?_
 refine TL.op1 (OpR.pure rfl) rfl ?_
 refine TL.on rfl rfl rfl rfl (beq_iff_eq.2 c18) ?_
 refine TL.op1 (OpR.pure rfl) rfl ?_
 refine TL.op1 (OpR.pickT rfl (beq_iff_eq.2 c18) rfl) rfl ?_
 refine TL.op1 (OpR.pure rfl) rfl ?_
 rcases ite_some ht15 with ⟨c19, ht15⟩ | ⟨c19, ht15⟩
 rotate_left
 · refine TL.off rfl rfl rfl rfl (beq_eq_false_iff_ne.2 c19) rfl rfl ?_
   refine TL.off rfl rfl rfl rfl (beq_eq_false_iff_ne.2 c19) rfl rfl ?_
   refine TL.off rfl rfl rfl rfl (beq_eq_false_iff_ne.2 c19) rfl rfl ?_
   refine TL.off rfl rfl rfl rfl (beq_eq_false_iff_ne.2 c19) rfl rfl ?_
   refine TL.off rfl rfl rfl rfl (beq_eq_false_iff_ne.2 c19) rfl rfl ?_
   refine TL.op1 (OpR.pickF rfl (beq_eq_false_iff_ne.2 c19) rfl) rfl ?_
   refine TL.op1 (OpR.pure rfl) rfl ?_
   refine TL.off rfl rfl rfl rfl rfl rfl rfl ?_
   refine TL.off rfl rfl rfl rfl rfl rfl rfl ?_
   refine TL.off rfl rfl rfl rfl rfl rfl rfl ?_
   refine TL.off rfl rfl rfl rfl rfl rfl rfl ?_
   refine TL.off rfl rfl rfl rfl rfl rfl rfl ?_
   refine TL.op1 (OpR.pickF rfl rfl rfl) rfl ?_
   refine TL.op1 (OpR.pure rfl) rfl ?_
   refine TL.off rfl rfl rfl rfl rfl rfl rfl ?_
   refine TL.off rfl rfl rfl rfl rfl rfl rfl ?_
   refine TL.off rfl rfl rfl rfl rfl rfl rfl ?_
   refine TL.off rfl rfl rfl rfl rfl rfl rfl ?_
   refine TL.off rfl rfl rfl rfl rfl rfl rfl ?_
   refine TL.op1 (OpR.pickF rfl rfl rfl) rfl ?_
   refine TL.op1 (OpR.pure rfl) rfl ?_
   refine TL.nil ?_
   obtain rfl := Option.some.inj ht15
   exact ⟨_, Gst.trans (Gst.only [0] rfl) (Gst.pick [] rfl rfl), rfl⟩
 refine TL.on rfl rfl rfl rfl (beq_iff_eq.2 c19) ?_
 refine TL.op1 (OpR.loadPtr 5 rfl rfl rfl rfl) rfl ?_
 refine TL.on rfl rfl rfl rfl (beq_iff_eq.2 c19) ?_
 refine TL.op1 (OpR.pure rfl) rfl ?_
 refine TL.on rfl rfl rfl rfl (beq_iff_eq.2 c19) ?_
 obtain ⟨x20, hx20, ht15⟩ := bnd_some ht15
 refine TL.op1 (OpR.call [1, 2] fn51 (cell_Cell_Print_c hx20) rfl rfl rfl (fun _ => rfl)) rfl ?_
 refine TL.on rfl rfl rfl rfl (beq_iff_eq.2 c19) ?_
 refine TL.op1 (OpR.toStr (bs := x20) rfl rfl rfl rfl rfl rfl rfl) rfl ?_
 refine TL.on rfl rfl rfl rfl (beq_iff_eq.2 c19) ?_
 refine TL.op1 (OpR.cast (OpR.pure rfl) (boolE (strEq _ _))) rfl ?_
 refine TL.op1 (OpR.pickT rfl (beq_iff_eq.2 c19) rfl) rfl ?_
 refine TL.op1 (OpR.pure rfl) rfl ?_
 rcases ite_some ht15 with ⟨c21, ht15⟩ | ⟨c21, ht15⟩
 rotate_left
 · refine TL.off rfl rfl rfl rfl (beq_eq_false_iff_ne.2 c21) rfl rfl ?_
   refine TL.off rfl rfl rfl rfl (beq_eq_false_iff_ne.2 c21) rfl rfl ?_
   refine TL.off rfl rfl rfl rfl (beq_eq_false_iff_ne.2 c21) rfl rfl ?_
   refine TL.off rfl rfl rfl rfl (beq_eq_false_iff_ne.2 c21) rfl rfl ?_
   refine TL.off rfl rfl rfl rfl (beq_eq_false_iff_ne.2 c21) rfl rfl ?_
   refine TL.op1 (OpR.pickF rfl (beq_eq_false_iff_ne.2 c21) rfl) rfl ?_
   refine TL.op1 (OpR.pure rfl) rfl ?_
   refine TL.off rfl rfl rfl rfl rfl rfl rfl ?_
   refine TL.off rfl rfl rfl rfl rfl rfl rfl ?_
   refine TL.off rfl rfl rfl rfl rfl rfl rfl ?_
   refine TL.off rfl rfl rfl rfl rfl rfl rfl ?_
   refine TL.off rfl rfl rfl rfl rfl rfl rfl ?_
   refine TL.op1 (OpR.pickF rfl rfl rfl) rfl ?_
   refine TL.op1 (OpR.pure rfl) rfl ?_
   refine TL.nil ?_
   obtain rfl := Option.some.inj ht15
   exact ⟨_, Gst.trans (Gst.only [0] rfl) (Gst.pick [] rfl rfl), rfl⟩
 refine TL.on rfl rfl rfl rfl (beq_iff_eq.2 c21) ?_
 refine TL.op1 (OpR.loadPtr 4 rfl rfl rfl rfl) rfl ?_
 refine TL.on rfl rfl rfl rfl (beq_iff_eq.2 c21) ?_
 refine TL.op1 (OpR.pure rfl) rfl ?_
 refine TL.on rfl rfl rfl rfl (beq_iff_eq.2 c21) ?_
 obtain ⟨x22, hx22, ht15⟩ := bnd_some ht15
 refine TL.op1 (OpR.call [1, 2] fn73 (cell_Cell_Bytes_c hx22) rfl rfl rfl (fun _ => rfl)) rfl ?_
 refine TL.on rfl rfl rfl rfl (beq_iff_eq.2 c21) ?_
 refine TL.op1 (OpR.toStr (bs := x22) rfl rfl rfl rfl rfl rfl rfl) rfl ?_
 refine TL.on rfl rfl rfl rfl (beq_iff_eq.2 c21) ?_
 refine TL.op1 (OpR.cast (OpR.pure rfl) (boolE (strEq _ _))) rfl ?_
 refine TL.op1 (OpR.pickT rfl (beq_iff_eq.2 c21) rfl) rfl ?_
 refine TL.op1 (OpR.pure rfl) rfl ?_
 rcases ite_some ht15 with ⟨c23, ht15⟩ | ⟨c23, ht15⟩
 rotate_left
 · refine TL.off rfl rfl rfl rfl (beq_eq_false_iff_ne.2 c23) rfl rfl ?_
   refine TL.off rfl rfl rfl rfl (beq_eq_false_iff_ne.2 c23) rfl rfl ?_
   refine TL.off rfl rfl rfl rfl (beq_eq_false_iff_ne.2 c23) rfl rfl ?_
   refine TL.off rfl rfl rfl rfl (beq_eq_false_iff_ne.2 c23) rfl rfl ?_
   refine TL.off rfl rfl rfl rfl (beq_eq_false_iff_ne.2 c23) rfl rfl ?_
   refine TL.op1 (OpR.pickF rfl (beq_eq_false_iff_ne.2 c23) rfl) rfl ?_
   refine TL.op1 (OpR.pure rfl) rfl ?_
   refine TL.nil ?_
   obtain rfl := Option.some.inj ht15
   exact ⟨_, Gst.trans (Gst.only [0] rfl) (Gst.pick [] rfl rfl), rfl⟩
 refine TL.on rfl rfl rfl rfl (beq_iff_eq.2 c23) ?_
 refine TL.op1 (OpR.pure rfl) rfl ?_
 refine TL.on rfl rfl rfl rfl (beq_iff_eq.2 c23) ?_
 refine TL.op1 (OpR.loadPtr 4 rfl rfl rfl rfl) rfl ?_
 refine TL.on rfl rfl rfl rfl (beq_iff_eq.2 c23) ?_
 refine TL.op1 (OpR.loadPtr 5 rfl rfl rfl rfl) rfl ?_
 refine TL.on rfl rfl rfl rfl (beq_iff_eq.2 c23) ?_
 obtain ⟨x24, hx24, ht15⟩ := bnd_some ht15
 refine TL.op1 (OpR.call [1, 2] fn48 (cell_Same_c hx24) rfl rfl rfl (fun _ => rfl)) rfl ?_
 refine TL.on rfl rfl rfl rfl (beq_iff_eq.2 c23) ?_
 refine TL.op1 (OpR.pure rfl) rfl ?_
 refine TL.op1 (OpR.pickT rfl (beq_iff_eq.2 c23) rfl) rfl ?_
 refine TL.op1 (OpR.pure rfl) rfl ?_
 refine TL.nil ?_
 obtain rfl := Option.some.inj ht15
 exact ⟨_, Gst.trans (Gst.only [0] rfl) (Gst.pick [] rfl rfl), rfl⟩
end Go.Proofs.Ytkjcogmngoogcaa.S
