/- Printed by a program of this session's own (gen.py): Lean functions for Go functions, and the proofs that the Go code comes to their answers. -/
import Derived.Test.YtbcbggdgkdfciaaG1xa
import Derived.Test.YtbcbggdgkdfciaaG2xa
import Derived.Test.YtbcbggdgkdfciaaG4xa
import Derived.Test.YtbcbggdgkdfciaaG7xa
set_option linter.unusedVariables false
set_option linter.unusedSimpArgs false
set_option maxRecDepth 20000
namespace Go.Proofs.Ytbcbggdgkdfciaa.S
open Go Go.Sm
attribute [local irreducible] T TL OpR CallT iter loop
noncomputable def scan_One (a0 : List UInt8) (a1 : Int) : Option (scan_Row × Int) :=
  bnd (if a1 < 0 then
    some true
  else
    bnd (scan_reader_done a0 a1) fun x5 =>
    some x5 : Option Bool) fun t3 =>
  if t3 = true then
    some ((⟨[], 0⟩ : scan_Row), a1)
  else
    bnd (scan_reader_row a0 a1) fun x7 =>
    some (x7.1, x7.2)
set_option maxHeartbeats 4000000 in
theorem scan_One_c {a0 : List UInt8} {a1 : Int} {res : scan_Row × Int} (h0 : scan_One a0 a1 = some res) : CallF X 94 [.sl 1 (List.map byteD a0), .val (.int .i64 a1)] [] (fun x => .tup [.agg [.sl 4 (List.map e_scan_Field res.1.fFields), .val (.int .i64 res.1.fEnd)], .val (.int .i64 res.2)]) (fun x => []) := by
 unfold scan_One at h0
 refine CallF.mkG (X := X) Try.func94 rfl rfl Try.ntmps94 rfl rfl ?_
 refine T.seq ?_
 refine T.region ?_
 refine TL.op (OpR.alloc rfl rfl (fun _ => rfl)) rfl (fun p1 => ?_)
 refine TL.op1 (OpR.pure rfl) rfl ?_
 refine TL.nil ?_
 show T X _ _ _
 refine T.seq ?_
 refine T.region ?_
 refine TL.op1 (OpR.pure rfl) rfl ?_
 refine TL.op1 (OpR.pure rfl) rfl ?_
 refine TL.op1 (OpR.build rfl rfl rfl rfl rfl) rfl ?_
 refine TL.op (OpR.boxVar rfl rfl (fun _ => rfl)) rfl (fun p2 => ?_)
 refine TL.op1 (OpR.pure rfl) rfl ?_
 refine TL.nil ?_
 show T X _ _ _
 refine T.seq ?_
 refine T.seq ?_
 obtain ⟨t3, ht3, h0⟩ := bnd_some h0
 refine T.cutC (fun S' => S' = ⟨[(17, .val (.bool t3)), (6, .val (.pointer (some ⟨(blk p2), 0, none⟩))), (5, .val (.int .i64 0)), (4, .val (.pointer (some ⟨(blk p1), 0, none⟩))), (1, .val (.int .i64 a1))], [.var (blk p1) [.val (.slice none 0 0), .val (.int .i64 0)] 54, .var (blk p2) [.sl 1 (List.map byteD a0), .val (.int .i64 a1)] 145], 27⟩) (fun _ h => h) ?_ ?_
 · refine T.region ?_
   refine TL.op1 (OpR.pure rfl) rfl ?_
   refine TL.op1 (OpR.pure rfl) rfl ?_
   refine TL.op1 (OpR.pure rfl) rfl ?_
   rcases ite_some ht3 with ⟨c4, ht3⟩ | ⟨c4, ht3⟩
   · refine TL.off rfl rfl rfl rfl (decide_eq_true c4) rfl rfl ?_
     refine TL.off rfl rfl rfl rfl (decide_eq_true c4) rfl rfl ?_
     refine TL.op1 (OpR.pickT rfl (decide_eq_true c4) rfl) rfl ?_
     refine TL.nil ?_
     obtain rfl := Option.some.inj ht3
     exact ⟨_, Gst.only [1, 4, 5, 6, 17] rfl, rfl⟩
   refine TL.on rfl rfl rfl rfl (decide_eq_false c4) ?_
   refine TL.op1 (OpR.pure rfl) rfl ?_
   refine TL.on rfl rfl rfl rfl (decide_eq_false c4) ?_
   obtain ⟨x5, hx5, ht3⟩ := bnd_some ht3
   refine TL.op1 (OpR.call [1] fn65 (scan_reader_done_c hx5) rfl rfl rfl (fun _ => rfl)) rfl ?_
   refine TL.op1 (OpR.pickF rfl (decide_eq_false c4) rfl) rfl ?_
   refine TL.nil ?_
   obtain rfl := Option.some.inj ht3
   exact ⟨_, Gst.only [1, 4, 5, 6, 17] rfl, rfl⟩
 rintro _ rfl
 show T X _ _ _
 rcases ite_some h0 with ⟨c6, h0⟩ | ⟨c6, h0⟩
 · refine T.condT rfl (c6) ?_
   refine T.seq ?_
   refine T.region ?_
   refine TL.op1 (OpR.build rfl rfl rfl rfl rfl) rfl ?_
   refine TL.op1 (OpR.pure rfl) rfl ?_
   refine TL.op0 (OpR.store 0 rfl rfl rfl rfl rfl rfl rfl rfl) ?_
   refine TL.op1 (OpR.pure rfl) rfl ?_
   refine TL.nil ?_
   show T X _ _ _
   refine T.ret ?_
   obtain rfl := Option.some.inj h0
   exact PostG.retP (ks := []) (Gst.trans (Gst.only [4, 5] rfl) (Gst.trans (Gst.denil (ReS.cons Re.refl (ReS.cons Re.refl ReS.nil)) (ReO.var (ReL.cons (Re.base .nil) (ReL.cons Re.refl ReL.nil)) (ReO.same ReO.nil))) (Gst.pick [0] rfl rfl))) undef (ResL.cons (ResV.var 0 rfl rfl rfl rfl) (ResL.cons (ResV.tmp rfl) ResL.nil)) rfl rfl rfl rfl
 refine T.condF rfl (eq_false_of_ne_true c6) ?_
 refine T.skip ?_
 show T X _ _ _
 refine T.seq ?_
 refine T.region ?_
 refine TL.op1 (OpR.pure rfl) rfl ?_
 obtain ⟨x7, hx7, h0⟩ := bnd_some h0
 refine TL.op1 (OpR.call [1] fn66 (scan_reader_row_c hx7) rfl rfl rfl (fun _ => rfl)) rfl ?_
 refine TL.op (OpR.alloc rfl rfl (fun _ => rfl)) rfl (fun p8 => ?_)
 refine TL.op0 (OpR.store 2 rfl rfl rfl rfl rfl rfl rfl rfl) ?_
 refine TL.nil ?_
 show T X _ _ _
 refine T.seq ?_
 refine T.drawS drawsX (fun env9 => [.agg [.sl 4 (List.map e_scan_Field x7.1.fFields), .val (.int .i64 x7.1.fEnd)], .val (.pointer (some ⟨(blk p2), 0, none⟩)), .val (.pointer (some ⟨(blk p2), 0, none⟩)), .val (.pointer (some ⟨(blk p2), 1, none⟩)), .val (.int .i64 x7.2), .dead, .val (.int .i64 x7.2)]) (fun D env9 => [(bif D 5 then .var (blk p1) [.sl 4 (List.map e_scan_Field x7.1.fFields), .val (.int .i64 x7.1.fEnd)] 54 else .var (blk p1) [.val (.slice none 0 0), .val (.int .i64 0)] 54), .var (blk p2) [.sl 1 (List.map byteD a0), .val (.int .i64 x7.2)] 145, .var (blk p8) [.sl 4 (List.map e_scan_Field x7.1.fFields), .val (.int .i64 x7.1.fEnd)] 54]) [0, 0, 2, 6, 14, 1, 63] [1, 4, 5, 6, 7, 17, 20, 21, 22, 23, 24, 25, 26] (fun env9 => [.var (blk p1) [.sl 4 (List.map e_scan_Field x7.1.fFields), .val (.int .i64 x7.1.fEnd)] 54, .var (blk p2) [.sl 1 (List.map byteD a0), .val (.int .i64 x7.2)] 145, .var (blk p8) [.sl 4 (List.map e_scan_Field x7.1.fFields), .val (.int .i64 x7.1.fEnd)] 54]) (by decide +kernel) (by decide +kernel) (fun _ => rfl) (fun _ => rfl) ?_ (fun _ => rfl) (fun _ => rfl) ?_
 rotate_left
 · intro env9
   show T X _ _ _
   refine T.ret ?_
   obtain rfl := Option.some.inj h0
   exact PostG.retP (ks := []) (Gst.trans (Gst.only [4, 5] rfl) (Gst.pick [0] rfl rfl)) undef (ResL.cons (ResV.var 0 rfl rfl rfl rfl) (ResL.cons (ResV.tmp rfl) ResL.nil)) rfl rfl rfl rfl
 refine oS (d := .agg [.sl 4 (List.map e_scan_Field x7.1.fFields), .val (.int .i64 x7.1.fEnd)]) (fun _ => Want.plain rfl) (fun _ => rfl) (fun _ _ _ => rfl) (fun _ _ => OpR.loadPtr 2 rfl rfl rfl rfl) (fun _ _ _ _ _ _ _ => rfl) ?_
 refine oS (d := .val (.pointer (some ⟨(blk p2), 0, none⟩))) (fun _ => Want.plain rfl) (fun _ => rfl) (fun _ _ _ => rfl) (fun _ _ => OpR.pure rfl) (fun _ _ _ _ _ _ _ => rfl) ?_
 refine oS (d := .val (.pointer (some ⟨(blk p2), 0, none⟩))) (fun _ => Want.plain rfl) (fun _ => rfl) (fun _ _ _ => rfl) (fun _ _ => OpR.pure rfl) (fun _ _ _ _ _ _ _ => rfl) ?_
 refine oS (d := .val (.pointer (some ⟨(blk p2), 1, none⟩))) (fun _ => Want.plain rfl) (fun _ => rfl) (fun _ _ _ => rfl) (fun _ _ => OpR.pure rfl) (fun _ _ _ _ _ _ _ => rfl) ?_
 refine oS (d := .val (.int .i64 x7.2)) (fun _ => Want.plain rfl) (fun _ => rfl) (fun _ _ _ => rfl) (fun _ _ => OpR.loadPtr 1 rfl rfl rfl rfl) (fun _ _ _ _ _ _ _ => rfl) ?_
 refine OpsS.cons' true ?_ (fun _ _ _ _ _ _ _ => rfl) ?_
 · intro D env9 hA
   exact OpS.yes (o0 := [.var (blk p1) [.val (.slice none 0 0), .val (.int .i64 0)] 54, .var (blk p2) [.sl 1 (List.map byteD a0), .val (.int .i64 x7.2)] 145, .var (blk p8) [.sl 4 (List.map e_scan_Field x7.1.fFields), .val (.int .i64 x7.1.fEnd)] 54]) (o1 := fun x => [.var (blk p1) [.sl 4 (List.map e_scan_Field x7.1.fFields), .val (.int .i64 x7.1.fEnd)] 54, .var (blk p2) [.sl 1 (List.map byteD a0), .val (.int .i64 x7.2)] 145, .var (blk p8) [.sl 4 (List.map e_scan_Field x7.1.fFields), .val (.int .i64 x7.1.fEnd)] 54]) (d := fun x => .dead) (Want.plain rfl) (by first | rfl | simp only [hA.me, cond_true, cond_false, List.cons_append, List.nil_append, List.append_nil]) (fun x => by first | rfl | simp only [ins_self, upd_self, hA.me, cond_true, cond_false, List.cons_append, List.nil_append, List.append_nil]) (fun x => rfl) (OpR.store 0 rfl rfl rfl rfl rfl rfl rfl rfl)
 refine oS (d := .val (.int .i64 x7.2)) (fun _ => Want.plain rfl) (fun _ => rfl) (fun _ _ _ => rfl) (fun _ _ => OpR.pure rfl) (fun _ _ _ _ _ _ _ => rfl) ?_
 exact trivial
noncomputable def law08_begun (a0 : List UInt8) : Option ((row_Row × ref08_Row) ⊕ (row_Row × ref08_Row × Bool × (List UInt8))) :=
  bnd (law08_cut a0 600) fun x3 =>
  bnd (arena_New x3) fun x4 =>
  match x4 with
  | .inl x4 =>
      bnd (scan_One x3 0) fun x6 =>
      bnd (ref05_One x3 0) fun x8 =>
      bnd (row_Fresh 1 0) fun x10 =>
      bnd (ref08_Fresh 1 0) fun x11 =>
      some (Sum.inl (x10, x11))
  | .inr x4 =>
      bnd (scan_One x3 0) fun x12 =>
      bnd (ref05_One x3 0) fun x14 =>
      bnd (if (x12.1.fFields.length : Int) = 0 then
        some true
      else
        some ((x14.1.fFields.length : Int) == 0) : Option Bool) fun t16 =>
      if t16 = true then
        bnd (row_Fresh 1 0) fun x19 =>
        bnd (ref08_Fresh 1 0) fun x20 =>
        some (Sum.inr (x19, x20, false, x4.2))
      else
        bnd (row_Load x12.1) fun x21 =>
        bnd (ref08_Load x3 x14.1) fun x23 =>
        some (Sum.inr (x21.1, x23.1, (x23.2 == 0), x4.2))
set_option maxHeartbeats 4000000 in
theorem law08_begun_c {a0 : List UInt8} {res : (row_Row × ref08_Row) ⊕ (row_Row × ref08_Row × Bool × (List UInt8))} (h0 : law08_begun a0 = some res) : CallF X 49 [.val (.string (bs a0))] [] (fun x => (match res with | .inl res => .tup [.val (.pointer none), .agg [.sl 5 (List.map e_cell_Cell res.1.fCells), .val (.int .i64 res.1.fEnd), .val (.bool res.1.fHidden)], .agg [.sl 3 (List.map e_ref07_Cell res.2.fCells), .val (.int .i64 res.2.fEnd), .val (.bool res.2.fHidden)], .val (.bool false)] | .inr res => .tup [.val (.pointer (some ⟨(blk (vn x 0)), 0, none⟩)), .agg [.sl 5 (List.map e_cell_Cell res.1.fCells), .val (.int .i64 res.1.fEnd), .val (.bool res.1.fHidden)], .agg [.sl 3 (List.map e_ref07_Cell res.2.1.fCells), .val (.int .i64 res.2.1.fEnd), .val (.bool res.2.1.fHidden)], .val (.bool res.2.2.1)])) (fun x => (match res with | .inl res => [] | .inr res => [.var (blk (vn x 0)) [.val (vn x 1)] 142, .row (vn x 1) (List.map byteD res.2.2.2) 1 5])) := by
 unfold law08_begun at h0
 refine CallF.mkG (X := X) Try.func49 rfl rfl Try.ntmps49 rfl rfl ?_
 refine T.seq ?_
 refine T.region ?_
 refine TL.op1 (OpR.pure rfl) rfl ?_
 refine TL.op (OpR.alloc rfl rfl (fun _ => rfl)) rfl (fun p1 => ?_)
 refine TL.op (OpR.alloc rfl rfl (fun _ => rfl)) rfl (fun p2 => ?_)
 refine TL.op1 (OpR.pure rfl) rfl ?_
 refine TL.nil ?_
 show T X _ _ _
 refine T.seq ?_
 refine T.region ?_
 refine TL.op1 (OpR.pure rfl) rfl ?_
 obtain ⟨x3, hx3, h0⟩ := bnd_some h0
 refine TL.op1 (OpR.call0 fn24 (law08_cut_c hx3) rfl) rfl ?_
 refine TL.op1 (OpR.pure rfl) rfl ?_
 refine TL.nil ?_
 show T X _ _ _
 refine T.seq ?_
 refine T.region ?_
 refine TL.op1 (OpR.pure rfl) rfl ?_
 refine TL.op1 (OpR.toBytesM rfl rfl rfl rfl rfl rfl rfl) rfl ?_
 obtain ⟨x4, hx4, h0⟩ := bnd_some h0
 rcases x4 with x4 | x4
 · dsimp only at h0
   refine TL.op1 (OpR.call0 fn25 (arena_New_cx1 hx4) rfl) rfl ?_
   refine TL.op1 (OpR.pure rfl) rfl ?_
   refine TL.op1 (OpR.pure rfl) rfl ?_
   refine TL.op1 (OpR.pure rfl) rfl ?_
   refine TL.op1 (OpR.pure rfl) rfl ?_
   refine TL.op1 (OpR.pure rfl) rfl ?_
   refine TL.nil ?_
   show T X _ _ _
   refine T.seq ?_
   refine T.region ?_
   refine TL.op1 (OpR.pure rfl) rfl ?_
   refine TL.op1 (OpR.toBytesM rfl rfl rfl rfl rfl rfl rfl) rfl ?_
   obtain ⟨x6, hx6, h0⟩ := bnd_some h0
   refine TL.op1 (OpR.call0 fn94 (scan_One_c hx6) rfl) rfl ?_
   refine TL.op1 (OpR.pure rfl) rfl ?_
   refine TL.op1 (OpR.pure rfl) rfl ?_
   refine TL.op1 (OpR.pure rfl) rfl ?_
   refine TL.op (OpR.alloc rfl rfl (fun _ => rfl)) rfl (fun p7 => ?_)
   refine TL.op0 (OpR.store 2 rfl rfl rfl rfl rfl rfl rfl rfl) ?_
   refine TL.op1 (OpR.pure rfl) rfl ?_
   refine TL.nil ?_
   show T X _ _ _
   refine T.seq ?_
   refine T.region ?_
   refine TL.op1 (OpR.pure rfl) rfl ?_
   obtain ⟨x8, hx8, h0⟩ := bnd_some h0
   refine TL.op1 (OpR.call0 fn32 (ref05_One_c hx8) rfl) rfl ?_
   refine TL.op1 (OpR.pure rfl) rfl ?_
   refine TL.op1 (OpR.pure rfl) rfl ?_
   refine TL.op1 (OpR.pure rfl) rfl ?_
   refine TL.op (OpR.alloc rfl rfl (fun _ => rfl)) rfl (fun p9 => ?_)
   refine TL.op0 (OpR.store 3 rfl rfl rfl rfl rfl rfl rfl rfl) ?_
   refine TL.op1 (OpR.pure rfl) rfl ?_
   refine TL.nil ?_
   show T X _ _ _
   refine T.seq ?_
   refine T.seq ?_
   refine T.region ?_
   refine TL.op1 (OpR.pure rfl) rfl ?_
   refine TL.op1 (OpR.ptrNil rfl rfl rfl) rfl ?_
   refine TL.op1 (OpR.pure rfl) rfl ?_
   refine TL.off rfl rfl rfl rfl rfl rfl rfl ?_
   refine TL.off rfl rfl rfl rfl rfl rfl rfl ?_
   refine TL.off rfl rfl rfl rfl rfl rfl rfl ?_
   refine TL.off rfl rfl rfl rfl rfl rfl rfl ?_
   refine TL.op1 (OpR.pickT rfl rfl rfl) rfl ?_
   refine TL.op1 (OpR.pure rfl) rfl ?_
   refine TL.off rfl rfl rfl rfl rfl rfl rfl ?_
   refine TL.off rfl rfl rfl rfl rfl rfl rfl ?_
   refine TL.off rfl rfl rfl rfl rfl rfl rfl ?_
   refine TL.off rfl rfl rfl rfl rfl rfl rfl ?_
   refine TL.op1 (OpR.pickT rfl rfl rfl) rfl ?_
   refine TL.nil ?_
   show T X _ _ _
   refine T.condT rfl rfl ?_
   refine T.seq ?_
   refine T.region ?_
   refine TL.op1 (OpR.pure rfl) rfl ?_
   obtain ⟨x10, hx10, h0⟩ := bnd_some h0
   refine TL.op1 (OpR.call0 fn36 (row_Fresh_c hx10) rfl) rfl ?_
   obtain ⟨x11, hx11, h0⟩ := bnd_some h0
   refine TL.op1 (OpR.call0 fn38 (ref08_Fresh_c hx11) rfl) rfl ?_
   refine TL.op1 (OpR.pure rfl) rfl ?_
   refine TL.op0 (OpR.store 0 rfl rfl rfl rfl rfl rfl rfl rfl) ?_
   refine TL.op0 (OpR.store 1 rfl rfl rfl rfl rfl rfl rfl rfl) ?_
   refine TL.op1 (OpR.pure rfl) rfl ?_
   refine TL.nil ?_
   show T X _ _ _
   refine T.ret ?_
   obtain rfl := Option.some.inj h0
   exact PostG.retP (ks := []) (Gst.trans (Gst.only [2, 3, 4, 5] rfl) (Gst.pick [0, 1] rfl rfl)) undef (ResL.cons (ResV.tmp rfl) (ResL.cons (ResV.var 0 rfl rfl rfl rfl) (ResL.cons (ResV.var 1 rfl rfl rfl rfl) (ResL.cons (ResV.tmp rfl) ResL.nil)))) rfl rfl rfl rfl
 dsimp only at h0
 refine TL.op (OpR.call [] fn25 (arena_New_cx2 hx4) rfl rfl rfl (fun _ => rfl)) rfl (fun w5 => ?_)
 refine TL.op1 (OpR.pure rfl) rfl ?_
 refine TL.op1 (OpR.pure rfl) rfl ?_
 refine TL.op1 (OpR.pure rfl) rfl ?_
 refine TL.op1 (OpR.pure rfl) rfl ?_
 refine TL.op1 (OpR.pure rfl) rfl ?_
 refine TL.nil ?_
 show T X _ _ _
 refine T.seq ?_
 refine T.region ?_
 refine TL.op1 (OpR.pure rfl) rfl ?_
 refine TL.op1 (OpR.toBytesM rfl rfl rfl rfl rfl rfl rfl) rfl ?_
 obtain ⟨x12, hx12, h0⟩ := bnd_some h0
 refine TL.op1 (OpR.call0 fn94 (scan_One_c hx12) rfl) rfl ?_
 refine TL.op1 (OpR.pure rfl) rfl ?_
 refine TL.op1 (OpR.pure rfl) rfl ?_
 refine TL.op1 (OpR.pure rfl) rfl ?_
 refine TL.op (OpR.alloc rfl rfl (fun _ => rfl)) rfl (fun p13 => ?_)
 refine TL.op0 (OpR.store 4 rfl rfl rfl rfl rfl rfl rfl rfl) ?_
 refine TL.op1 (OpR.pure rfl) rfl ?_
 refine TL.nil ?_
 show T X _ _ _
 refine T.seq ?_
 refine T.region ?_
 refine TL.op1 (OpR.pure rfl) rfl ?_
 obtain ⟨x14, hx14, h0⟩ := bnd_some h0
 refine TL.op1 (OpR.call0 fn32 (ref05_One_c hx14) rfl) rfl ?_
 refine TL.op1 (OpR.pure rfl) rfl ?_
 refine TL.op1 (OpR.pure rfl) rfl ?_
 refine TL.op1 (OpR.pure rfl) rfl ?_
 refine TL.op (OpR.alloc rfl rfl (fun _ => rfl)) rfl (fun p15 => ?_)
 refine TL.op0 (OpR.store 5 rfl rfl rfl rfl rfl rfl rfl rfl) ?_
 refine TL.op1 (OpR.pure rfl) rfl ?_
 refine TL.nil ?_
 show T X _ _ _
 refine T.seq ?_
 refine T.seq ?_
 obtain ⟨t16, ht16, h0⟩ := bnd_some h0
 refine T.cutC (fun S' => S' = ⟨[(48, .val (.bool t16)), (10, .val (.pointer (some ⟨(blk p15), 0, none⟩))), (8, .val (.pointer (some ⟨(blk p13), 0, none⟩))), (6, .val (.pointer (some ⟨(blk (vn w5 0)), 0, none⟩))), (5, .val (.bool false)), (4, .val (.pointer (some ⟨(blk p2), 0, none⟩))), (3, .val (.pointer (some ⟨(blk p1), 0, none⟩))), (2, .val (.pointer none)), (0, .val (.string (bs x3)))], [.var (blk p1) [.val (.slice none 0 0), .val (.int .i64 0), .val (.bool false)] 49, .var (blk p2) [.val (.slice none 0 0), .val (.int .i64 0), .val (.bool false)] 57, .var (blk (vn w5 0)) [.val (vn w5 1)] 142, .var (blk p13) [.sl 4 (List.map e_scan_Field x12.1.fFields), .val (.int .i64 x12.1.fEnd)] 54, .var (blk p15) [.sl 4 (List.map e_ref05_Field x14.1.fFields), .val (.int .i64 x14.1.fEnd)] 62, .row (vn w5 1) (List.map byteD x4.2) 1 5], 68⟩) (fun _ h => h) ?_ ?_
 · refine T.region ?_
   refine TL.op1 (OpR.pure rfl) rfl ?_
   refine TL.op1 (OpR.ptrNil rfl rfl rfl) rfl ?_
   refine TL.op1 (OpR.pure rfl) rfl ?_
   refine TL.on rfl rfl rfl rfl rfl ?_
   refine TL.op1 (OpR.pure rfl) rfl ?_
   refine TL.on rfl rfl rfl rfl rfl ?_
   refine TL.op1 (OpR.loadPtr 4 rfl rfl rfl rfl) rfl ?_
   refine TL.on rfl rfl rfl rfl rfl ?_
   refine TL.op1 (OpR.cast (OpR.pure rfl) (intE (lenM _ _))) rfl ?_
   refine TL.on rfl rfl rfl rfl rfl ?_
   refine TL.op1 (OpR.pure rfl) rfl ?_
   refine TL.op1 (OpR.pickF rfl rfl rfl) rfl ?_
   refine TL.op1 (OpR.pure rfl) rfl ?_
   rcases ite_some ht16 with ⟨c17, ht16⟩ | ⟨c17, ht16⟩
   · refine TL.off rfl rfl rfl rfl (beq_iff_eq.2 c17) rfl rfl ?_
     refine TL.off rfl rfl rfl rfl (beq_iff_eq.2 c17) rfl rfl ?_
     refine TL.off rfl rfl rfl rfl (beq_iff_eq.2 c17) rfl rfl ?_
     refine TL.off rfl rfl rfl rfl (beq_iff_eq.2 c17) rfl rfl ?_
     refine TL.op1 (OpR.pickT rfl (beq_iff_eq.2 c17) rfl) rfl ?_
     refine TL.nil ?_
     obtain rfl := Option.some.inj ht16
     exact ⟨_, Gst.trans (Gst.only [0, 2, 3, 4, 5, 6, 8, 10, 48] rfl) (Gst.pick [0, 1, 2, 4, 5, 3] rfl rfl), rfl⟩
   refine TL.on rfl rfl rfl rfl (beq_eq_false_iff_ne.2 c17) ?_
   refine TL.op1 (OpR.pure rfl) rfl ?_
   refine TL.on rfl rfl rfl rfl (beq_eq_false_iff_ne.2 c17) ?_
   refine TL.op1 (OpR.loadPtr 5 rfl rfl rfl rfl) rfl ?_
   refine TL.on rfl rfl rfl rfl (beq_eq_false_iff_ne.2 c17) ?_
   refine TL.op1 (OpR.cast (OpR.pure rfl) (intE (lenM _ _))) rfl ?_
   refine TL.on rfl rfl rfl rfl (beq_eq_false_iff_ne.2 c17) ?_
   refine TL.op1 (OpR.pure rfl) rfl ?_
   refine TL.op1 (OpR.pickF rfl (beq_eq_false_iff_ne.2 c17) rfl) rfl ?_
   refine TL.nil ?_
   obtain rfl := Option.some.inj ht16
   exact ⟨_, Gst.trans (Gst.only [0, 2, 3, 4, 5, 6, 8, 10, 48] rfl) (Gst.pick [0, 1, 2, 4, 5, 3] rfl rfl), rfl⟩
 rintro _ rfl
 show T X _ _ _
 rcases ite_some h0 with ⟨c18, h0⟩ | ⟨c18, h0⟩
 · refine T.condT rfl (c18) ?_
   refine T.seq ?_
   refine T.region ?_
   refine TL.op1 (OpR.pure rfl) rfl ?_
   obtain ⟨x19, hx19, h0⟩ := bnd_some h0
   refine TL.op1 (OpR.call0 fn36 (row_Fresh_c hx19) rfl) rfl ?_
   obtain ⟨x20, hx20, h0⟩ := bnd_some h0
   refine TL.op1 (OpR.call0 fn38 (ref08_Fresh_c hx20) rfl) rfl ?_
   refine TL.op1 (OpR.pure rfl) rfl ?_
   refine TL.op0 (OpR.store 0 rfl rfl rfl rfl rfl rfl rfl rfl) ?_
   refine TL.op0 (OpR.store 1 rfl rfl rfl rfl rfl rfl rfl rfl) ?_
   refine TL.op1 (OpR.pure rfl) rfl ?_
   refine TL.nil ?_
   show T X _ _ _
   refine T.ret ?_
   obtain rfl := Option.some.inj h0
   exact PostG.retP (ks := [0, 3]) (Gst.trans (Gst.only [2, 3, 4, 5] rfl) (Gst.pick [2, 0, 1, 5] rfl rfl)) (.tuple #[(vn w5 0), (vn w5 1)]) (ResL.cons (ResV.tmp rfl) (ResL.cons (ResV.var 1 rfl rfl rfl rfl) (ResL.cons (ResV.var 2 rfl rfl rfl rfl) (ResL.cons (ResV.tmp rfl) ResL.nil)))) rfl rfl rfl rfl
 refine T.condF rfl (eq_false_of_ne_true c18) ?_
 refine T.skip ?_
 show T X _ _ _
 refine T.seq ?_
 refine T.region ?_
 refine TL.op1 (OpR.loadPtr 3 rfl rfl rfl rfl) rfl ?_
 obtain ⟨x21, hx21, h0⟩ := bnd_some h0
 refine TL.op1 (OpR.call0 fn28 (row_Load_c hx21) rfl) rfl ?_
 refine TL.op1 (OpR.pure rfl) rfl ?_
 refine TL.op1 (OpR.pure rfl) rfl ?_
 refine TL.op1 (OpR.pure rfl) rfl ?_
 refine TL.op (OpR.alloc rfl rfl (fun _ => rfl)) rfl (fun p22 => ?_)
 refine TL.op0 (OpR.store 6 rfl rfl rfl rfl rfl rfl rfl rfl) ?_
 refine TL.op1 (OpR.pure rfl) rfl ?_
 refine TL.nil ?_
 show T X _ _ _
 refine T.seq ?_
 refine T.region ?_
 refine TL.op1 (OpR.pure rfl) rfl ?_
 refine TL.op1 (OpR.loadPtr 4 rfl rfl rfl rfl) rfl ?_
 obtain ⟨x23, hx23, h0⟩ := bnd_some h0
 refine TL.op1 (OpR.call0 fn29 (ref08_Load_c hx23) rfl) rfl ?_
 refine TL.op1 (OpR.pure rfl) rfl ?_
 refine TL.op1 (OpR.pure rfl) rfl ?_
 refine TL.op1 (OpR.pure rfl) rfl ?_
 refine TL.op (OpR.alloc rfl rfl (fun _ => rfl)) rfl (fun p24 => ?_)
 refine TL.op0 (OpR.store 7 rfl rfl rfl rfl rfl rfl rfl rfl) ?_
 refine TL.op1 (OpR.pure rfl) rfl ?_
 refine TL.nil ?_
 show T X _ _ _
 refine T.seq ?_
 refine T.drawS drawsX (fun env25 => [.val (.pointer (some ⟨(blk (vn w5 0)), 0, none⟩)), .agg [.sl 5 (List.map e_cell_Cell x21.1.fCells), .val (.int .i64 x21.1.fEnd), .val (.bool x21.1.fHidden)], .agg [.sl 3 (List.map e_ref07_Cell x23.1.fCells), .val (.int .i64 x23.1.fEnd), .val (.bool x23.1.fHidden)], .val (.int .i64 x23.2), .val (.bool (x23.2 == 0)), .val (.pointer (some ⟨(blk (vn w5 0)), 0, none⟩)), .dead, .dead, .val (.bool (x23.2 == 0))]) (fun D env25 => [(bif D 6 then .var (blk p1) [.sl 5 (List.map e_cell_Cell x21.1.fCells), .val (.int .i64 x21.1.fEnd), .val (.bool x21.1.fHidden)] 49 else .var (blk p1) [.val (.slice none 0 0), .val (.int .i64 0), .val (.bool false)] 49), (bif D 7 then .var (blk p2) [.sl 3 (List.map e_ref07_Cell x23.1.fCells), .val (.int .i64 x23.1.fEnd), .val (.bool x23.1.fHidden)] 57 else .var (blk p2) [.val (.slice none 0 0), .val (.int .i64 0), .val (.bool false)] 57), .var (blk (vn w5 0)) [.val (vn w5 1)] 142, .var (blk p13) [.sl 4 (List.map e_scan_Field x12.1.fFields), .val (.int .i64 x12.1.fEnd)] 54, .var (blk p15) [.sl 4 (List.map e_ref05_Field x14.1.fFields), .val (.int .i64 x14.1.fEnd)] 62, .row (vn w5 1) (List.map byteD x4.2) 1 5, .var (blk p22) [.sl 5 (List.map e_cell_Cell x21.1.fCells), .val (.int .i64 x21.1.fEnd), .val (.bool x21.1.fHidden)] 49, .var (blk p24) [.sl 3 (List.map e_ref07_Cell x23.1.fCells), .val (.int .i64 x23.1.fEnd), .val (.bool x23.1.fHidden)] 57]) [0, 0, 0, 0, 8, 1, 35, 103, 255] [0, 2, 3, 4, 5, 6, 8, 10, 12, 13, 14, 15, 48, 52, 53, 54, 55, 56, 57, 58, 59, 60, 61, 62, 63, 64, 65, 66, 67] (fun env25 => [.var (blk p1) [.sl 5 (List.map e_cell_Cell x21.1.fCells), .val (.int .i64 x21.1.fEnd), .val (.bool x21.1.fHidden)] 49, .var (blk p2) [.sl 3 (List.map e_ref07_Cell x23.1.fCells), .val (.int .i64 x23.1.fEnd), .val (.bool x23.1.fHidden)] 57, .var (blk (vn w5 0)) [.val (vn w5 1)] 142, .var (blk p13) [.sl 4 (List.map e_scan_Field x12.1.fFields), .val (.int .i64 x12.1.fEnd)] 54, .var (blk p15) [.sl 4 (List.map e_ref05_Field x14.1.fFields), .val (.int .i64 x14.1.fEnd)] 62, .row (vn w5 1) (List.map byteD x4.2) 1 5, .var (blk p22) [.sl 5 (List.map e_cell_Cell x21.1.fCells), .val (.int .i64 x21.1.fEnd), .val (.bool x21.1.fHidden)] 49, .var (blk p24) [.sl 3 (List.map e_ref07_Cell x23.1.fCells), .val (.int .i64 x23.1.fEnd), .val (.bool x23.1.fHidden)] 57]) (by decide +kernel) (by decide +kernel) (fun _ => rfl) (fun _ => rfl) ?_ (fun _ => rfl) (fun _ => rfl) ?_
 rotate_left
 · intro env25
   show T X _ _ _
   refine T.ret ?_
   obtain rfl := Option.some.inj h0
   exact PostG.retP (ks := [0, 3]) (Gst.trans (Gst.only [2, 3, 4, 5] rfl) (Gst.pick [2, 0, 1, 5] rfl rfl)) (.tuple #[(vn w5 0), (vn w5 1)]) (ResL.cons (ResV.tmp rfl) (ResL.cons (ResV.var 1 rfl rfl rfl rfl) (ResL.cons (ResV.var 2 rfl rfl rfl rfl) (ResL.cons (ResV.tmp rfl) ResL.nil)))) rfl rfl rfl rfl
 refine oS (d := .val (.pointer (some ⟨(blk (vn w5 0)), 0, none⟩))) (fun _ => Want.plain rfl) (fun _ => rfl) (fun _ _ _ => rfl) (fun _ _ => OpR.pure rfl) (fun _ _ _ _ _ _ _ => rfl) ?_
 refine oS (d := .agg [.sl 5 (List.map e_cell_Cell x21.1.fCells), .val (.int .i64 x21.1.fEnd), .val (.bool x21.1.fHidden)]) (fun _ => Want.plain rfl) (fun _ => rfl) (fun _ _ _ => rfl) (fun _ _ => OpR.loadPtr 6 rfl rfl rfl rfl) (fun _ _ _ _ _ _ _ => rfl) ?_
 refine oS (d := .agg [.sl 3 (List.map e_ref07_Cell x23.1.fCells), .val (.int .i64 x23.1.fEnd), .val (.bool x23.1.fHidden)]) (fun _ => Want.plain rfl) (fun _ => rfl) (fun _ _ _ => rfl) (fun _ _ => OpR.loadPtr 7 rfl rfl rfl rfl) (fun _ _ _ _ _ _ _ => rfl) ?_
 refine oS (d := .val (.int .i64 x23.2)) (fun _ => Want.plain rfl) (fun _ => rfl) (fun _ _ _ => rfl) (fun _ _ => OpR.pure rfl) (fun _ _ _ _ _ _ _ => rfl) ?_
 refine oS (d := .val (.bool (x23.2 == 0))) (fun _ => Want.plain rfl) (fun _ => rfl) (fun _ _ _ => rfl) (fun _ _ => OpR.pure rfl) (fun _ _ _ _ _ _ _ => rfl) ?_
 refine oS (d := .val (.pointer (some ⟨(blk (vn w5 0)), 0, none⟩))) (fun _ => Want.plain rfl) (fun _ => rfl) (fun _ _ _ => rfl) (fun _ _ => OpR.pure rfl) (fun _ _ _ _ _ _ _ => rfl) ?_
 refine OpsS.cons' true ?_ (fun _ _ _ _ _ _ _ => rfl) ?_
 · intro D env25 hA
   have e7 : D 7 = false := hA.no 7 _ rfl rfl
   exact OpS.yes (o0 := [.var (blk p1) [.val (.slice none 0 0), .val (.int .i64 0), .val (.bool false)] 49, .var (blk p2) [.val (.slice none 0 0), .val (.int .i64 0), .val (.bool false)] 57, .var (blk (vn w5 0)) [.val (vn w5 1)] 142, .var (blk p13) [.sl 4 (List.map e_scan_Field x12.1.fFields), .val (.int .i64 x12.1.fEnd)] 54, .var (blk p15) [.sl 4 (List.map e_ref05_Field x14.1.fFields), .val (.int .i64 x14.1.fEnd)] 62, .row (vn w5 1) (List.map byteD x4.2) 1 5, .var (blk p22) [.sl 5 (List.map e_cell_Cell x21.1.fCells), .val (.int .i64 x21.1.fEnd), .val (.bool x21.1.fHidden)] 49, .var (blk p24) [.sl 3 (List.map e_ref07_Cell x23.1.fCells), .val (.int .i64 x23.1.fEnd), .val (.bool x23.1.fHidden)] 57]) (o1 := fun x => [.var (blk p1) [.sl 5 (List.map e_cell_Cell x21.1.fCells), .val (.int .i64 x21.1.fEnd), .val (.bool x21.1.fHidden)] 49, .var (blk p2) [.val (.slice none 0 0), .val (.int .i64 0), .val (.bool false)] 57, .var (blk (vn w5 0)) [.val (vn w5 1)] 142, .var (blk p13) [.sl 4 (List.map e_scan_Field x12.1.fFields), .val (.int .i64 x12.1.fEnd)] 54, .var (blk p15) [.sl 4 (List.map e_ref05_Field x14.1.fFields), .val (.int .i64 x14.1.fEnd)] 62, .row (vn w5 1) (List.map byteD x4.2) 1 5, .var (blk p22) [.sl 5 (List.map e_cell_Cell x21.1.fCells), .val (.int .i64 x21.1.fEnd), .val (.bool x21.1.fHidden)] 49, .var (blk p24) [.sl 3 (List.map e_ref07_Cell x23.1.fCells), .val (.int .i64 x23.1.fEnd), .val (.bool x23.1.fHidden)] 57]) (d := fun x => .dead) (Want.plain rfl) (by first | rfl | simp only [e7, hA.me, cond_true, cond_false, List.cons_append, List.nil_append, List.append_nil]) (fun x => by first | rfl | simp only [ins_self, ins_ne D (show 6 ≠ 7 by decide), upd_self, e7, hA.me, cond_true, cond_false, List.cons_append, List.nil_append, List.append_nil]) (fun x => rfl) (OpR.store 0 rfl rfl rfl rfl rfl rfl rfl rfl)
 refine OpsS.cons' true ?_ (fun _ _ _ _ _ _ _ => rfl) ?_
 · intro D env25 hA
   have e6 : D 6 = true := hA.yes 6 _ rfl rfl
   exact OpS.yes (o0 := [.var (blk p1) [.sl 5 (List.map e_cell_Cell x21.1.fCells), .val (.int .i64 x21.1.fEnd), .val (.bool x21.1.fHidden)] 49, .var (blk p2) [.val (.slice none 0 0), .val (.int .i64 0), .val (.bool false)] 57, .var (blk (vn w5 0)) [.val (vn w5 1)] 142, .var (blk p13) [.sl 4 (List.map e_scan_Field x12.1.fFields), .val (.int .i64 x12.1.fEnd)] 54, .var (blk p15) [.sl 4 (List.map e_ref05_Field x14.1.fFields), .val (.int .i64 x14.1.fEnd)] 62, .row (vn w5 1) (List.map byteD x4.2) 1 5, .var (blk p22) [.sl 5 (List.map e_cell_Cell x21.1.fCells), .val (.int .i64 x21.1.fEnd), .val (.bool x21.1.fHidden)] 49, .var (blk p24) [.sl 3 (List.map e_ref07_Cell x23.1.fCells), .val (.int .i64 x23.1.fEnd), .val (.bool x23.1.fHidden)] 57]) (o1 := fun x => [.var (blk p1) [.sl 5 (List.map e_cell_Cell x21.1.fCells), .val (.int .i64 x21.1.fEnd), .val (.bool x21.1.fHidden)] 49, .var (blk p2) [.sl 3 (List.map e_ref07_Cell x23.1.fCells), .val (.int .i64 x23.1.fEnd), .val (.bool x23.1.fHidden)] 57, .var (blk (vn w5 0)) [.val (vn w5 1)] 142, .var (blk p13) [.sl 4 (List.map e_scan_Field x12.1.fFields), .val (.int .i64 x12.1.fEnd)] 54, .var (blk p15) [.sl 4 (List.map e_ref05_Field x14.1.fFields), .val (.int .i64 x14.1.fEnd)] 62, .row (vn w5 1) (List.map byteD x4.2) 1 5, .var (blk p22) [.sl 5 (List.map e_cell_Cell x21.1.fCells), .val (.int .i64 x21.1.fEnd), .val (.bool x21.1.fHidden)] 49, .var (blk p24) [.sl 3 (List.map e_ref07_Cell x23.1.fCells), .val (.int .i64 x23.1.fEnd), .val (.bool x23.1.fHidden)] 57]) (d := fun x => .dead) (Want.plain rfl) (by first | rfl | simp only [e6, hA.me, cond_true, cond_false, List.cons_append, List.nil_append, List.append_nil]) (fun x => by first | rfl | simp only [ins_self, ins_ne D (show 7 ≠ 6 by decide), upd_self, e6, hA.me, cond_true, cond_false, List.cons_append, List.nil_append, List.append_nil]) (fun x => rfl) (OpR.store 1 rfl rfl rfl rfl rfl rfl rfl rfl)
 refine oS (d := .val (.bool (x23.2 == 0))) (fun _ => Want.plain rfl) (fun _ => rfl) (fun _ _ _ => rfl) (fun _ _ => OpR.pure rfl) (fun _ _ _ _ _ _ _ => rfl) ?_
 exact trivial
theorem law08_begun_cx1 {a0 : List UInt8} {res : row_Row × ref08_Row} (h0 : law08_begun a0 = some (Sum.inl res)) : CallF X 49 [.val (.string (bs a0))] [] (fun x => .tup [.val (.pointer none), .agg [.sl 5 (List.map e_cell_Cell res.1.fCells), .val (.int .i64 res.1.fEnd), .val (.bool res.1.fHidden)], .agg [.sl 3 (List.map e_ref07_Cell res.2.fCells), .val (.int .i64 res.2.fEnd), .val (.bool res.2.fHidden)], .val (.bool false)]) (fun x => []) := law08_begun_c h0
theorem law08_begun_cx2 {a0 : List UInt8} {res : row_Row × ref08_Row × Bool × (List UInt8)} (h0 : law08_begun a0 = some (Sum.inr res)) : CallF X 49 [.val (.string (bs a0))] [] (fun x => .tup [.val (.pointer (some ⟨(blk (vn x 0)), 0, none⟩)), .agg [.sl 5 (List.map e_cell_Cell res.1.fCells), .val (.int .i64 res.1.fEnd), .val (.bool res.1.fHidden)], .agg [.sl 3 (List.map e_ref07_Cell res.2.1.fCells), .val (.int .i64 res.2.1.fEnd), .val (.bool res.2.1.fHidden)], .val (.bool res.2.2.1)]) (fun x => [.var (blk (vn x 0)) [.val (vn x 1)] 142, .row (vn x 1) (List.map byteD res.2.2.2) 1 5]) := law08_begun_c h0
noncomputable def row_Row_ahead (a0 : row_Row) (a1 : Int) : Option (List cell_Cell) :=
  bnd (cut a0.fCells 0 a1) fun x1 =>
  some x1
set_option maxHeartbeats 4000000 in
theorem row_Row_ahead_c {a0 : row_Row} {a1 : Int} {res : (List cell_Cell)} (h0 : row_Row_ahead a0 a1 = some res) : CallF X 111 [.agg [.sl 5 (List.map e_cell_Cell a0.fCells), .val (.int .i64 a0.fEnd), .val (.bool a0.fHidden)], .val (.int .i64 a1)] [] (fun x => .slx 5 (List.map e_cell_Cell res)) (fun x => []) := by
 unfold row_Row_ahead at h0
 refine CallF.mkG (X := X) Try.func111 rfl rfl Try.ntmps111 rfl rfl ?_
 refine T.seq ?_
 refine T.region ?_
 refine TL.op1 (OpR.boxImm rfl rfl) rfl ?_
 refine TL.op1 (OpR.pure rfl) rfl ?_
 refine TL.nil ?_
 show T X _ _ _
 refine T.seq ?_
 refine T.region ?_
 refine TL.op1 (OpR.pure rfl) rfl ?_
 refine TL.op1 (OpR.pure rfl) rfl ?_
 refine TL.op1 (OpR.pure rfl) rfl ?_
 refine TL.op1 (OpR.pure rfl) rfl ?_
 obtain ⟨x1, hx1, h0⟩ := bnd_some h0
 refine TL.op1 (OpR.slice3M (sz := 5) e_cell_Cell hx1 rfl rfl rfl rfl (BdM.some rfl) rfl rfl rfl) rfl ?_
 refine TL.op1 (OpR.pure rfl) rfl ?_
 refine TL.nil ?_
 show T X _ _ _
 refine T.ret ?_
 obtain rfl := Option.some.inj h0
 exact PostG.retP (ks := []) (Gst.only [4] rfl) undef (ResL.cons (ResV.tmp rfl) ResL.nil) rfl rfl rfl rfl
noncomputable def row_Row_behind (a0 : row_Row) (a1 : Int) : Option (List cell_Cell) :=
  bnd (cut a0.fCells a1 (a0.fCells.length : Int)) fun x1 =>
  some x1
set_option maxHeartbeats 4000000 in
theorem row_Row_behind_c {a0 : row_Row} {a1 : Int} {res : (List cell_Cell)} (h0 : row_Row_behind a0 a1 = some res) : CallF X 112 [.agg [.sl 5 (List.map e_cell_Cell a0.fCells), .val (.int .i64 a0.fEnd), .val (.bool a0.fHidden)], .val (.int .i64 a1)] [] (fun x => .slx 5 (List.map e_cell_Cell res)) (fun x => []) := by
 unfold row_Row_behind at h0
 refine CallF.mkG (X := X) Try.func112 rfl rfl Try.ntmps112 rfl rfl ?_
 refine T.seq ?_
 refine T.region ?_
 refine TL.op1 (OpR.boxImm rfl rfl) rfl ?_
 refine TL.op1 (OpR.pure rfl) rfl ?_
 refine TL.nil ?_
 show T X _ _ _
 refine T.seq ?_
 refine T.region ?_
 refine TL.op1 (OpR.pure rfl) rfl ?_
 refine TL.op1 (OpR.pure rfl) rfl ?_
 refine TL.op1 (OpR.pure rfl) rfl ?_
 refine TL.op1 (OpR.pure rfl) rfl ?_
 refine TL.op1 (OpR.pure rfl) rfl ?_
 refine TL.op1 (OpR.cast (OpR.pure rfl) (intE (lenM _ _))) rfl ?_
 refine TL.op1 (OpR.pure rfl) rfl ?_
 refine TL.op1 (OpR.pure rfl) rfl ?_
 refine TL.op1 (OpR.cast (OpR.pure rfl) (intE (lenM _ _))) rfl ?_
 obtain ⟨x1, hx1, h0⟩ := bnd_some h0
 refine TL.op1 (OpR.slice3M (sz := 5) e_cell_Cell hx1 rfl rfl rfl rfl (BdM.some rfl) rfl rfl rfl) rfl ?_
 refine TL.op1 (OpR.pure rfl) rfl ?_
 refine TL.nil ?_
 show T X _ _ _
 refine T.ret ?_
 obtain rfl := Option.some.inj h0
 exact PostG.retP (ks := []) (Gst.only [4] rfl) undef (ResL.cons (ResV.tmp rfl) ResL.nil) rfl rfl rfl rfl
noncomputable def row_Row_Insert (a0 : row_Row) (a1 : Int) (a2 : cell_Cell) : Option (row_Row × Int) :=
  bnd (if a1 < 0 then
    some true
  else
    some (decide (a1 > (a0.fCells.length : Int))) : Option Bool) fun t2 =>
  if t2 = true then
    some ((⟨[], 0, false⟩ : row_Row), 5)
  else
    if (a0.fCells.length : Int) ≥ 40 then
      some ((⟨[], 0, false⟩ : row_Row), 6)
    else
      bnd (row_Row_ahead a0 a1) fun x7 =>
      bnd (app 56 x7 [a2]) fun x8 =>
      bnd (row_Row_behind a0 a1) fun x9 =>
      bnd (app 56 x8 x9) fun x10 =>
      bnd (row_Row_with a0 x10) fun x11 =>
      some ((⟨x10, x11.1, x11.2⟩ : row_Row), 0)
set_option maxHeartbeats 4000000 in
theorem row_Row_Insert_c {a0 : row_Row} {a1 : Int} {a2 : cell_Cell} {res : row_Row × Int} (h0 : row_Row_Insert a0 a1 a2 = some res) : CallF X 59 [.agg [.sl 5 (List.map e_cell_Cell a0.fCells), .val (.int .i64 a0.fEnd), .val (.bool a0.fHidden)], .val (.int .i64 a1), .agg [.sl 2 (List.map e_arena_Span a2.fText.fL), .val (.int .i64 a2.fText.fN), .val (.int .i64 a2.fRaw.fAt), .val (.int .i64 a2.fRaw.fN), .val (.bool a2.fKept)]] [] (fun x => .tup [.agg [.sl 5 (List.map e_cell_Cell res.1.fCells), .val (.int .i64 res.1.fEnd), .val (.bool res.1.fHidden)], .val (.int .i64 res.2)]) (fun x => []) := by
 unfold row_Row_Insert at h0
 refine CallF.mkG (X := X) Try.func59 rfl rfl Try.ntmps59 rfl rfl ?_
 refine T.seq ?_
 refine T.region ?_
 refine TL.op1 (OpR.boxImm rfl rfl) rfl ?_
 refine TL.op1 (OpR.boxImm rfl rfl) rfl ?_
 refine TL.op (OpR.alloc rfl rfl (fun _ => rfl)) rfl (fun p1 => ?_)
 refine TL.op1 (OpR.pure rfl) rfl ?_
 refine TL.nil ?_
 show T X _ _ _
 refine T.seq ?_
 refine T.block ?_
 refine T.seq ?_
 obtain ⟨t2, ht2, h0⟩ := bnd_some h0
 refine T.cutC (fun S' => S' = ⟨[(8, .val (.bool t2)), (7, .val (.int .i64 0)), (6, .val (.pointer (some ⟨(blk p1), 0, none⟩))), (5, .nod [.sl 2 (List.map e_arena_Span a2.fText.fL), .val (.int .i64 a2.fText.fN), .val (.int .i64 a2.fRaw.fAt), .val (.int .i64 a2.fRaw.fN), .val (.bool a2.fKept)]), (3, .nod [.sl 5 (List.map e_cell_Cell a0.fCells), .val (.int .i64 a0.fEnd), .val (.bool a0.fHidden)]), (1, .val (.int .i64 a1))], [.var (blk p1) [.val (.slice none 0 0), .val (.int .i64 0), .val (.bool false)] 49], 37⟩) (fun _ h => h) ?_ ?_
 · refine T.region ?_
   refine TL.op1 (OpR.pure rfl) rfl ?_
   refine TL.op1 (OpR.pure rfl) rfl ?_
   refine TL.op1 (OpR.pure rfl) rfl ?_
   rcases ite_some ht2 with ⟨c3, ht2⟩ | ⟨c3, ht2⟩
   · refine TL.off rfl rfl rfl rfl (decide_eq_true c3) rfl rfl ?_
     refine TL.off rfl rfl rfl rfl (decide_eq_true c3) rfl rfl ?_
     refine TL.off rfl rfl rfl rfl (decide_eq_true c3) rfl rfl ?_
     refine TL.off rfl rfl rfl rfl (decide_eq_true c3) rfl rfl ?_
     refine TL.off rfl rfl rfl rfl (decide_eq_true c3) rfl rfl ?_
     refine TL.op1 (OpR.pickT rfl (decide_eq_true c3) rfl) rfl ?_
     refine TL.op1 (OpR.pure rfl) rfl ?_
     refine TL.nil ?_
     obtain rfl := Option.some.inj ht2
     exact ⟨_, Gst.only [1, 3, 5, 6, 7, 8] rfl, rfl⟩
   refine TL.on rfl rfl rfl rfl (decide_eq_false c3) ?_
   refine TL.op1 (OpR.pure rfl) rfl ?_
   refine TL.on rfl rfl rfl rfl (decide_eq_false c3) ?_
   refine TL.op1 (OpR.pure rfl) rfl ?_
   refine TL.on rfl rfl rfl rfl (decide_eq_false c3) ?_
   refine TL.op1 (OpR.pure rfl) rfl ?_
   refine TL.on rfl rfl rfl rfl (decide_eq_false c3) ?_
   refine TL.op1 (OpR.cast (OpR.pure rfl) (intE (lenM _ _))) rfl ?_
   refine TL.on rfl rfl rfl rfl (decide_eq_false c3) ?_
   refine TL.op1 (OpR.pure rfl) rfl ?_
   refine TL.op1 (OpR.pickF rfl (decide_eq_false c3) rfl) rfl ?_
   refine TL.op1 (OpR.pure rfl) rfl ?_
   refine TL.nil ?_
   obtain rfl := Option.some.inj ht2
   exact ⟨_, Gst.only [1, 3, 5, 6, 7, 8] rfl, rfl⟩
 rintro _ rfl
 show T X _ _ _
 rcases ite_some h0 with ⟨c4, h0⟩ | ⟨c4, h0⟩
 · refine T.condT rfl (c4) ?_
   refine T.seq ?_
   refine T.region ?_
   refine TL.op1 (OpR.build rfl rfl rfl rfl rfl) rfl ?_
   refine TL.op0 (OpR.store 0 rfl rfl rfl rfl rfl rfl rfl rfl) ?_
   refine TL.op1 (OpR.pure rfl) rfl ?_
   refine TL.nil ?_
   show T X _ _ _
   refine T.ret ?_
   obtain rfl := Option.some.inj h0
   exact PostG.retP (ks := []) (Gst.trans (Gst.only [6, 7] rfl) (Gst.denil (ReS.cons Re.refl (ReS.cons Re.refl ReS.nil)) (ReO.var (ReL.cons (Re.base .nil) (ReL.cons Re.refl (ReL.cons Re.refl ReL.nil))) ReO.nil))) undef (ResL.cons (ResV.var 0 rfl rfl rfl rfl) (ResL.cons (ResV.tmp rfl) ResL.nil)) rfl rfl rfl rfl
 refine T.condF rfl (eq_false_of_ne_true c4) ?_
 refine T.seq ?_
 refine T.region ?_
 refine TL.op1 (OpR.pure rfl) rfl ?_
 refine TL.op1 (OpR.pure rfl) rfl ?_
 refine TL.op1 (OpR.cast (OpR.pure rfl) (intE (lenM _ _))) rfl ?_
 refine TL.op1 (OpR.pure rfl) rfl ?_
 refine TL.op1 (OpR.pure rfl) rfl ?_
 refine TL.nil ?_
 show T X _ _ _
 rcases ite_some h0 with ⟨c5, h0⟩ | ⟨c5, h0⟩
 · refine T.condT rfl (decide_eq_true c5) ?_
   refine T.seq ?_
   refine T.region ?_
   refine TL.op1 (OpR.build rfl rfl rfl rfl rfl) rfl ?_
   refine TL.op0 (OpR.store 0 rfl rfl rfl rfl rfl rfl rfl rfl) ?_
   refine TL.op1 (OpR.pure rfl) rfl ?_
   refine TL.nil ?_
   show T X _ _ _
   refine T.ret ?_
   obtain rfl := Option.some.inj h0
   exact PostG.retP (ks := []) (Gst.trans (Gst.only [6, 7] rfl) (Gst.denil (ReS.cons Re.refl (ReS.cons Re.refl ReS.nil)) (ReO.var (ReL.cons (Re.base .nil) (ReL.cons Re.refl (ReL.cons Re.refl ReL.nil))) ReO.nil))) undef (ResL.cons (ResV.var 0 rfl rfl rfl rfl) (ResL.cons (ResV.tmp rfl) ResL.nil)) rfl rfl rfl rfl
 refine T.condF rfl (decide_eq_false c5) ?_
 refine T.skip ?_
 show T X _ _ _
 refine T.seq ?_
 obtain ⟨x7, hx7, h0⟩ := bnd_some h0
 obtain ⟨x8, hx8, h0⟩ := bnd_some h0
 obtain ⟨x9, hx9, h0⟩ := bnd_some h0
 obtain ⟨x10, hx10, h0⟩ := bnd_some h0
 obtain ⟨x11, hx11, h0⟩ := bnd_some h0
 refine T.drawS drawsX (fun env6 => [.agg [.sl 5 (List.map e_cell_Cell a0.fCells), .val (.int .i64 a0.fEnd), .val (.bool a0.fHidden)], .agg [.sl 5 (List.map e_cell_Cell a0.fCells), .val (.int .i64 a0.fEnd), .val (.bool a0.fHidden)], .val (.int .i64 a1), .slx 5 (List.map e_cell_Cell x7), .agg [.sl 2 (List.map e_arena_Span a2.fText.fL), .val (.int .i64 a2.fText.fN), .val (.int .i64 a2.fRaw.fAt), .val (.int .i64 a2.fRaw.fN), .val (.bool a2.fKept)], .sl 5 (List.map e_cell_Cell [a2]), .val (env6 6), .agg [.sl 5 (List.map e_cell_Cell a0.fCells), .val (.int .i64 a0.fEnd), .val (.bool a0.fHidden)], .val (.int .i64 a1), .sl 5 (List.map e_cell_Cell x9), .val (env6 10), .agg [.val (env6 10), .val (.int .i64 x11.1), .val (.bool x11.2)], .dead, .val (.int .i64 0)]) (fun D env6 => [(bif D 12 then .var (blk p1) [.val (env6 10), .val (.int .i64 x11.1), .val (.bool x11.2)] 49 else .var (blk p1) [.val (.slice none 0 0), .val (.int .i64 0), .val (.bool false)] 49)] ++ (bif D 6 then [(bif D 10 then .row (env6 10) (List.map e_cell_Cell x10) 5 108 else .row (env6 6) (List.map e_cell_Cell x8) 5 108)] else [])) [0, 0, 0, 6, 0, 16, 62, 0, 0, 510, 1022, 2047, 4095, 8191] [1, 3, 5, 6, 7, 8, 19, 20, 21, 22, 23, 25, 26, 27, 28, 29, 30, 31, 32, 33, 34, 35, 36] (fun env6 => [.var (blk p1) [.val (env6 10), .val (.int .i64 x11.1), .val (.bool x11.2)] 49, .row (env6 10) (List.map e_cell_Cell x10) 5 108]) (by decide +kernel) (by decide +kernel) (fun _ => rfl) (fun _ => rfl) ?_ (fun _ => rfl) (fun _ => rfl) ?_
 rotate_left
 · intro env6
   show T X _ _ _
   refine T.ret ?_
   obtain rfl := Option.some.inj h0
   exact PostG.retP (ks := []) (Gst.trans (Gst.only [6, 7] rfl) (Gst.trans (Gst.freezeRow 1 rfl rfl (ReS.cons Re.refl (ReS.cons Re.refl ReS.nil)) (ReO.var (ReL.cons (Re.base .all) (ReL.cons Re.refl (ReL.cons Re.refl ReL.nil))) (ReO.same ReO.nil))) (Gst.pick [0] rfl rfl))) undef (ResL.cons (ResV.var 0 rfl rfl rfl rfl) (ResL.cons (ResV.tmp rfl) ResL.nil)) rfl rfl rfl rfl
 refine oS (d := .agg [.sl 5 (List.map e_cell_Cell a0.fCells), .val (.int .i64 a0.fEnd), .val (.bool a0.fHidden)]) (fun _ => Want.plain rfl) (fun _ => rfl) (fun _ _ _ => rfl) (fun _ _ => OpR.pure rfl) (fun _ _ _ _ _ _ _ => rfl) ?_
 refine oS (d := .agg [.sl 5 (List.map e_cell_Cell a0.fCells), .val (.int .i64 a0.fEnd), .val (.bool a0.fHidden)]) (fun _ => Want.plain rfl) (fun _ => rfl) (fun _ _ _ => rfl) (fun _ _ => OpR.pure rfl) (fun _ _ _ _ _ _ _ => rfl) ?_
 refine oS (d := .val (.int .i64 a1)) (fun _ => Want.plain rfl) (fun _ => rfl) (fun _ _ _ => rfl) (fun _ _ => OpR.pure rfl) (fun _ _ _ _ _ _ _ => rfl) ?_
 refine oS (d := .slx 5 (List.map e_cell_Cell x7)) (fun _ => Want.plain rfl) (fun _ => rfl) (fun _ _ _ => rfl) (fun _ _ => OpR.call0 fn111 (row_Row_ahead_c hx7) rfl) (fun _ _ _ _ _ _ _ => rfl) ?_
 refine oS (d := .agg [.sl 2 (List.map e_arena_Span a2.fText.fL), .val (.int .i64 a2.fText.fN), .val (.int .i64 a2.fRaw.fAt), .val (.int .i64 a2.fRaw.fN), .val (.bool a2.fKept)]) (fun _ => Want.plain rfl) (fun _ => rfl) (fun _ _ _ => rfl) (fun _ _ => OpR.pure rfl) (fun _ _ _ _ _ _ _ => rfl) ?_
 refine oS (d := .sl 5 (List.map e_cell_Cell [a2])) (fun _ => Want.plain rfl) (fun _ => rfl) (fun _ _ _ => rfl) (fun _ _ => OpR.lit rfl rfl rfl rfl rfl rfl rfl) (fun _ _ _ _ _ _ _ => rfl) ?_
 refine OpsS.cons' true ?_ (fun D hA env6 x j hj hD => match j, hj, hD with | 0, _, _ => rfl | 1, _, _ => rfl | 2, _, _ => rfl | 3, _, _ => rfl | 4, _, _ => rfl | 5, _, _ => rfl | 6, hj, _ => absurd rfl hj | 7, _, _ => rfl | 8, _, _ => rfl | 9, _, _ => rfl | 10, _, _ => rfl | 11, _, _ => rfl | 12, _, _ => rfl | 13, _, _ => rfl | _ + 14, _, _ => rfl) ?_
 · intro D env6 hA
   have e10 : D 10 = false := hA.no 10 _ rfl rfl
   have e12 : D 12 = false := hA.no 12 _ rfl rfl
   exact OpS.yes (o0 := [.var (blk p1) [.val (.slice none 0 0), .val (.int .i64 0), .val (.bool false)] 49]) (o1 := fun x => [.var (blk p1) [.val (.slice none 0 0), .val (.int .i64 0), .val (.bool false)] 49, .row x (List.map e_cell_Cell x8) 5 108]) (d := fun x => .val x) (Want.plain rfl) (by first | rfl | simp only [e10, e12, hA.me, cond_true, cond_false, List.cons_append, List.nil_append, List.append_nil]) (fun x => by first | rfl | simp only [ins_self, ins_ne D (show 6 ≠ 10 by decide), ins_ne D (show 6 ≠ 12 by decide), upd_self, upd_ne env6 x (show 6 ≠ 10 by decide), e10, e12, hA.me, cond_true, cond_false, List.cons_append, List.nil_append, List.append_nil]) (fun x => rfl) (OpR.appendXM (m := [a2]) e_cell_Cell hx8 (Src.sl rfl) rfl rfl rfl rfl rfl rfl rfl rfl (fun _ => rfl))
 refine oS (d := .agg [.sl 5 (List.map e_cell_Cell a0.fCells), .val (.int .i64 a0.fEnd), .val (.bool a0.fHidden)]) (fun _ => Want.plain rfl) (fun _ => rfl) (fun _ _ _ => rfl) (fun _ _ => OpR.pure rfl) (fun _ _ _ _ _ _ _ => rfl) ?_
 refine oS (d := .val (.int .i64 a1)) (fun _ => Want.plain rfl) (fun _ => rfl) (fun _ _ _ => rfl) (fun _ _ => OpR.pure rfl) (fun _ _ _ _ _ _ _ => rfl) ?_
 refine oS (d := .sl 5 (List.map e_cell_Cell x9)) (fun _ => Want.plain rfl) (fun _ => rfl) (fun _ _ _ => rfl) (fun _ _ => OpR.unx (OpR.call0 fn112 (row_Row_behind_c hx9) rfl)) (fun _ _ _ _ _ _ _ => rfl) ?_
 refine OpsS.cons' true ?_ (fun D hA env6 x j hj hD => match j, hj, hD with | 0, _, _ => rfl | 1, _, _ => rfl | 2, _, _ => rfl | 3, _, _ => rfl | 4, _, _ => rfl | 5, _, _ => rfl | 6, _, _ => rfl | 7, _, _ => rfl | 8, _, _ => rfl | 9, _, _ => rfl | 10, hj, _ => absurd rfl hj | 11, _, hD => absurd hD (by rw [hA.no 11 _ rfl rfl]; decide) | 12, _, _ => rfl | 13, _, _ => rfl | _ + 14, _, _ => rfl) ?_
 · intro D env6 hA
   have e6 : D 6 = true := hA.yes 6 _ rfl rfl
   have e12 : D 12 = false := hA.no 12 _ rfl rfl
   exact OpS.yes (o0 := [.var (blk p1) [.val (.slice none 0 0), .val (.int .i64 0), .val (.bool false)] 49, .row (env6 6) (List.map e_cell_Cell x8) 5 108]) (o1 := fun x => [.var (blk p1) [.val (.slice none 0 0), .val (.int .i64 0), .val (.bool false)] 49, .row x (List.map e_cell_Cell x10) 5 108]) (d := fun x => .val x) (Want.plain rfl) (by first | rfl | simp only [e6, e12, hA.me, cond_true, cond_false, List.cons_append, List.nil_append, List.append_nil]) (fun x => by first | rfl | simp only [ins_self, ins_ne D (show 10 ≠ 6 by decide), ins_ne D (show 10 ≠ 12 by decide), upd_self, upd_ne env6 x (show 10 ≠ 6 by decide), e6, e12, hA.me, cond_true, cond_false, List.cons_append, List.nil_append, List.append_nil]) (fun x => rfl) (OpR.appendM (m := x9) e_cell_Cell 1 hx10 rfl rfl rfl rfl rfl rfl rfl rfl rfl (fun _ => rfl))
 refine OpsS.cons' true ?_ (fun _ _ _ _ _ _ _ => rfl) ?_
 · intro D env6 hA
   have e6 : D 6 = true := hA.yes 6 _ rfl rfl
   have e10 : D 10 = true := hA.yes 10 _ rfl rfl
   have e12 : D 12 = false := hA.no 12 _ rfl rfl
   exact OpS.yes (o0 := [.var (blk p1) [.val (.slice none 0 0), .val (.int .i64 0), .val (.bool false)] 49, .row (env6 10) (List.map e_cell_Cell x10) 5 108]) (o1 := fun x => [.var (blk p1) [.val (.slice none 0 0), .val (.int .i64 0), .val (.bool false)] 49, .row (env6 10) (List.map e_cell_Cell x10) 5 108]) (d := fun x => .agg [.val (env6 10), .val (.int .i64 x11.1), .val (.bool x11.2)]) (Want.plain rfl) (by first | rfl | simp only [e6, e10, e12, cond_true, cond_false, List.cons_append, List.nil_append, List.append_nil]) (fun x => by first | rfl | simp only [ins_self, ins_ne D (show 11 ≠ 6 by decide), ins_ne D (show 11 ≠ 10 by decide), ins_ne D (show 11 ≠ 12 by decide), upd_self, upd_ne env6 x (show 11 ≠ 6 by decide), upd_ne env6 x (show 11 ≠ 10 by decide), e6, e10, e12, cond_true, cond_false, List.cons_append, List.nil_append, List.append_nil]) (fun x => rfl) (OpR.call [1] fn110 (row_Row_with_c hx11) rfl rfl rfl (fun _ => rfl))
 refine OpsS.cons' true ?_ (fun _ _ _ _ _ _ _ => rfl) ?_
 · intro D env6 hA
   have e6 : D 6 = true := hA.yes 6 _ rfl rfl
   have e10 : D 10 = true := hA.yes 10 _ rfl rfl
   exact OpS.yes (o0 := [.var (blk p1) [.val (.slice none 0 0), .val (.int .i64 0), .val (.bool false)] 49, .row (env6 10) (List.map e_cell_Cell x10) 5 108]) (o1 := fun x => [.var (blk p1) [.val (env6 10), .val (.int .i64 x11.1), .val (.bool x11.2)] 49, .row (env6 10) (List.map e_cell_Cell x10) 5 108]) (d := fun x => .dead) (Want.plain rfl) (by first | rfl | simp only [e6, e10, hA.me, cond_true, cond_false, List.cons_append, List.nil_append, List.append_nil]) (fun x => by first | rfl | simp only [ins_self, ins_ne D (show 12 ≠ 6 by decide), ins_ne D (show 12 ≠ 10 by decide), upd_self, upd_ne env6 x (show 12 ≠ 6 by decide), upd_ne env6 x (show 12 ≠ 10 by decide), e6, e10, hA.me, cond_true, cond_false, List.cons_append, List.nil_append, List.append_nil]) (fun x => rfl) (OpR.store 0 rfl rfl rfl rfl rfl rfl rfl rfl)
 refine oS (d := .val (.int .i64 0)) (fun _ => Want.plain rfl) (fun _ => rfl) (fun _ _ _ => rfl) (fun _ _ => OpR.pure rfl) (fun _ _ _ _ _ _ _ => rfl) ?_
 exact trivial
noncomputable def slices_Grow_cell_Cell_cell_Cell (a0 : Int) : Option (List cell_Cell) :=
  if a0 < 0 then
    none
  else
    bnd (if (w64 (a0 - 0)) > 0 then
      bnd (mkg 56 (w64 (a0 - 0))) fun x5 =>
      some []
    else
      some [] : Option (List cell_Cell)) fun t2 =>
    some t2
set_option maxHeartbeats 4000000 in
theorem slices_Grow_cell_Cell_cell_Cell_c {a0 : Int} {res : (List cell_Cell)} (h0 : slices_Grow_cell_Cell_cell_Cell a0 = some res) : CallF X 162 [.val (.slice none 0 0), .val (.int .i64 a0)] [] (fun x => .val (vn x 0)) (fun x => [.row (vn x 0) (List.map e_cell_Cell res) 5 108]) := by
 unfold slices_Grow_cell_Cell_cell_Cell at h0
 refine CallF.mkG (X := X) Try.func162 rfl rfl Try.ntmps162 rfl rfl ?_
 refine T.seq ?_
 refine T.region ?_
 refine TL.op1 (OpR.pure rfl) rfl ?_
 refine TL.nil ?_
 show T X _ _ _
 refine T.seq ?_
 refine T.seq ?_
 refine T.region ?_
 refine TL.op1 (OpR.pure rfl) rfl ?_
 refine TL.op1 (OpR.pure rfl) rfl ?_
 refine TL.nil ?_
 show T X _ _ _
 rcases ite_some h0 with ⟨c1, h0⟩ | ⟨c1, h0⟩
 · refine T.condT rfl (decide_eq_true c1) ?_
   cases h0
 refine T.condF rfl (decide_eq_false c1) ?_
 refine T.skip ?_
 show T X _ _ _
 refine T.seq ?_
 refine T.seq ?_
 refine T.region ?_
 refine TL.op1 (OpR.pure rfl) rfl ?_
 refine TL.op1 (OpR.pure rfl) rfl ?_
 refine TL.op1 (OpR.capNil rfl rfl rfl) rfl ?_
 refine TL.op1 (OpR.pure rfl) rfl ?_
 refine TL.op1 (OpR.pure rfl) rfl ?_
 refine TL.op1 (OpR.cast (OpR.pure rfl) (intE (show w64 (0 - 0) = 0 by decide))) rfl ?_
 refine TL.op1 (OpR.pure rfl) rfl ?_
 refine TL.op1 (OpR.pure rfl) rfl ?_
 refine TL.nil ?_
 show T X _ _ _
 refine T.seq ?_
 refine T.region ?_
 refine TL.op1 (OpR.pure rfl) rfl ?_
 refine TL.op1 (OpR.pure rfl) rfl ?_
 refine TL.nil ?_
 show T X _ _ _
 obtain ⟨t2, ht2, h0⟩ := bnd_some h0
 refine T.cutC (fun S' => ∃ y3 : Value, S' = ⟨[(4, .val (.slice none 0 0)), (0, .val y3)], [.row y3 (List.map e_cell_Cell t2) 5 108], 27⟩) (fun _ h => h) ?_ ?_
 rotate_left
 · rintro _ ⟨y3, rfl⟩
   show T X _ _ _
   refine T.seq ?_
   refine T.region ?_
   refine TL.op1 (OpR.pure rfl) rfl ?_
   refine TL.op1 (OpR.pure rfl) rfl ?_
   refine TL.nil ?_
   show T X _ _ _
   refine T.ret ?_
   obtain rfl := Option.some.inj h0
   exact PostG.retP (ks := [0]) (Gst.only [4] rfl) (.tuple #[y3]) (ResL.cons (ResV.tmp rfl) ResL.nil) rfl rfl rfl rfl
 rcases ite_some ht2 with ⟨c4, ht2⟩ | ⟨c4, ht2⟩
 rotate_left
 · refine T.condF rfl (decide_eq_false c4) ?_
   refine T.skip ?_
   obtain rfl := Option.some.inj ht2
   exact ⟨_, Gst.trans (Gst.only [0, 4] rfl) (Gst.nilRow (ow := []) 5 108 rfl), (.slice none 0 0), rfl⟩
 refine T.condT rfl (decide_eq_true c4) ?_
 refine T.region ?_
 refine TL.op1 (OpR.pure rfl) rfl ?_
 refine TL.op1 (OpR.pure rfl) rfl ?_
 refine TL.op1 (OpR.capNil rfl rfl rfl) rfl ?_
 refine TL.op1 (OpR.sliceNil rfl rfl rfl rfl rfl) rfl ?_
 refine TL.op1 (OpR.pure rfl) rfl ?_
 obtain ⟨x5, hx5, ht2⟩ := bnd_some ht2
 refine TL.op (OpR.appendZ hx5 rfl rfl rfl rfl rfl rfl rfl rfl rfl rfl (fun _ => rfl)) rfl (fun v6 => ?_)
 refine TL.op1 (OpR.pure rfl) rfl ?_
 refine TL.op1 (OpR.pure rfl) rfl ?_
 refine TL.op1 (OpR.slice0 0 rfl rfl rfl rfl rfl rfl) rfl ?_
 refine TL.op1 (OpR.pure rfl) rfl ?_
 refine TL.nil ?_
 obtain rfl := Option.some.inj ht2
 exact ⟨_, Gst.only [0, 4] rfl, (cut0 v6), rfl⟩
noncomputable def slices_Concat_cell_Cell_cell_Cell.l1 (a0 : List (List cell_Cell)) (s2 : Int × Int) : Option (Lp (Int × Int) Int) :=
  if s2.2 < (a0.length : Int) then
    bnd (idx a0 s2.2) fun x11 =>
    if (w64 (s2.1 + (x11.length : Int))) < 0 then
      none
    else
      some (Lp.next (w64 (s2.1 + (x11.length : Int)), w64 (s2.2 + 1)))
  else
    some (Lp.done s2.1)
noncomputable def slices_Concat_cell_Cell_cell_Cell.l2 (a0 : List (List cell_Cell)) (s18 : Int × (List cell_Cell)) : Option (Lp (Int × (List cell_Cell)) (List cell_Cell)) :=
  if s18.1 < (a0.length : Int) then
    bnd (idx a0 s18.1) fun x27 =>
    bnd (app 56 s18.2 x27) fun x28 =>
    some (Lp.next (w64 (s18.1 + 1), x28))
  else
    some (Lp.done s18.2)
noncomputable def slices_Concat_cell_Cell_cell_Cell (a0 : List (List cell_Cell)) : Option (List cell_Cell) :=
  bnd (loop (slices_Concat_cell_Cell_cell_Cell.l1 a0) (0, 0) : Option Int) fun t1 =>
  bnd (slices_Grow_cell_Cell_cell_Cell t1) fun x13 =>
  bnd (loop (slices_Concat_cell_Cell_cell_Cell.l2 a0) (0, x13) : Option (List cell_Cell)) fun t15 =>
  some t15
set_option maxHeartbeats 4000000 in
theorem slices_Concat_cell_Cell_cell_Cell_c {a0 : List (List cell_Cell)} {res : (List cell_Cell)} (h0 : slices_Concat_cell_Cell_cell_Cell a0 = some res) : CallF X 113 [.sl 1 (List.map e_sl47 a0)] [] (fun x => .sl 5 (List.map e_cell_Cell res)) (fun x => []) := by
 unfold slices_Concat_cell_Cell_cell_Cell at h0
 refine CallF.mkG (X := X) Try.func113 rfl rfl Try.ntmps113 rfl rfl ?_
 refine T.seq ?_
 refine T.region ?_
 refine TL.op1 (OpR.pure rfl) rfl ?_
 refine TL.nil ?_
 show T X _ _ _
 refine T.seq ?_
 refine T.region ?_
 refine TL.op1 (OpR.pure rfl) rfl ?_
 refine TL.nil ?_
 show T X _ _ _
 refine T.seq ?_
 refine T.seq ?_
 refine T.region ?_
 refine TL.op1 (OpR.pure rfl) rfl ?_
 refine TL.op1 (OpR.cast (OpR.pure rfl) (intE (lenM _ _))) rfl ?_
 refine TL.op1 (OpR.pure rfl) rfl ?_
 refine TL.nil ?_
 show T X _ _ _
 obtain ⟨t1, ht1, h0⟩ := bnd_some h0
 refine T.cutC (fun S' => S' = ⟨[(3, .val (.int .i64 t1)), (2, .val (.slice none 0 0)), (0, .sl 1 (List.map e_sl47 a0))], [], 36⟩) (fun _ h => h) ?_ ?_
 · refine T.block ?_
   obtain ⟨n3, n8⟩ := loop_some ht1
   refine T.loop (fun n S' => ∃ S'', Gst S' S'' ∧ ∃ s2 : Int × Int, S'' = ⟨[(11, .val (.int .i64 s2.2)), (10, .val (.int .i64 (a0.length : Int))), (9, .sl 1 (List.map e_sl47 a0)), (3, .val (.int .i64 s2.1)), (2, .val (.slice none 0 0)), (0, .sl 1 (List.map e_sl47 a0))], [], 36⟩ ∧ iter (slices_Concat_cell_Cell_cell_Cell.l1 a0) n s2 = some t1) n3 ?_ ?_
   · exact ⟨_, Gst.only [0, 2, 3, 9, 10, 11] rfl, (0, 0), rfl, n8⟩
   rintro n3 _ ⟨_, g, s2, rfl, i7⟩
   refine T.ghost g ?_
   obtain ⟨m4, q5, rfl, q6, i7⟩ := iter_succ i7
   unfold slices_Concat_cell_Cell_cell_Cell.l1 at q6
   refine T.seq ?_
   refine T.region ?_
   refine TL.op1 (OpR.pure rfl) rfl ?_
   refine TL.nil ?_
   show T X _ _ _
   refine T.seq ?_
   rcases ite_some q6 with ⟨c10, q6⟩ | ⟨c10, q6⟩
   rotate_left
   · refine T.condF rfl (decide_eq_false c10) ?_
     refine T.exit ?_
     obtain rfl := Option.some.inj q6
     obtain rfl : _ = _ := i7
     exact ⟨_, Gst.only [0, 2, 3] rfl, rfl⟩
   refine T.condT rfl (decide_eq_true c10) ?_
   refine T.skip ?_
   show T X _ _ _
   refine T.seq ?_
   refine T.block ?_
   refine T.seq ?_
   refine T.region ?_
   obtain ⟨x11, hx11, q6⟩ := bnd_some q6
   refine TL.op1 (OpR.indexM e_sl47 hx11 rfl rfl rfl rfl rfl) rfl ?_
   refine TL.op1 (OpR.pure rfl) rfl ?_
   refine TL.op1 (OpR.pure rfl) rfl ?_
   refine TL.nil ?_
   show T X _ _ _
   refine T.seq ?_
   refine T.region ?_
   refine TL.op1 (OpR.pure rfl) rfl ?_
   refine TL.op1 (OpR.pure rfl) rfl ?_
   refine TL.op1 (OpR.cast (OpR.pure rfl) (intE (lenM _ _))) rfl ?_
   refine TL.op1 (OpR.pure rfl) rfl ?_
   refine TL.op1 (OpR.pure rfl) rfl ?_
   refine TL.nil ?_
   show T X _ _ _
   refine T.seq ?_
   refine T.region ?_
   refine TL.op1 (OpR.pure rfl) rfl ?_
   refine TL.op1 (OpR.pure rfl) rfl ?_
   refine TL.nil ?_
   show T X _ _ _
   rcases ite_some q6 with ⟨c12, q6⟩ | ⟨c12, q6⟩
   · refine T.condT rfl (decide_eq_true c12) ?_
     cases q6
   refine T.condF rfl (decide_eq_false c12) ?_
   refine T.skip ?_
   show T X _ _ _
   refine T.region ?_
   refine TL.op1 (OpR.pure rfl) rfl ?_
   refine TL.op1 (OpR.pure rfl) rfl ?_
   refine TL.nil ?_
   obtain rfl := Option.some.inj q6
   exact ⟨m4, Nat.lt_succ_self _, _, Gst.only [0, 2, 3, 9, 10, 11] rfl, (w64 (s2.1 + (x11.length : Int)), w64 (s2.2 + 1)), rfl, i7⟩
 rintro _ rfl
 show T X _ _ _
 refine T.seq ?_
 refine T.region ?_
 refine TL.op1 (OpR.pure rfl) rfl ?_
 obtain ⟨x13, hx13, h0⟩ := bnd_some h0
 refine TL.op (OpR.call [] fn162 (slices_Grow_cell_Cell_cell_Cell_c hx13) rfl rfl rfl (fun _ => rfl)) rfl (fun w14 => ?_)
 refine TL.op1 (OpR.pure rfl) rfl ?_
 refine TL.nil ?_
 show T X _ _ _
 refine T.seq ?_
 refine T.seq ?_
 refine T.region ?_
 refine TL.op1 (OpR.pure rfl) rfl ?_
 refine TL.op1 (OpR.cast (OpR.pure rfl) (intE (lenM _ _))) rfl ?_
 refine TL.op1 (OpR.pure rfl) rfl ?_
 refine TL.nil ?_
 show T X _ _ _
 obtain ⟨t15, ht15, h0⟩ := bnd_some h0
 refine T.cutC (fun S' => ∃ y16 : Value, S' = ⟨[(6, .val y16), (2, .val (.slice none 0 0))], [.row y16 (List.map e_cell_Cell t15) 5 108], 36⟩) (fun _ h => h) ?_ ?_
 rotate_left
 · rintro _ ⟨y16, rfl⟩
   show T X _ _ _
   refine T.seq ?_
   refine T.region ?_
   refine TL.op1 (OpR.pure rfl) rfl ?_
   refine TL.op1 (OpR.pure rfl) rfl ?_
   refine TL.nil ?_
   show T X _ _ _
   refine T.ret ?_
   obtain rfl := Option.some.inj h0
   exact PostG.retP (ks := []) (Gst.trans (Gst.only [2] rfl) (Gst.trans (Gst.freezeRow 0 rfl rfl (ReS.cons (Re.base .all) ReS.nil) (ReO.same ReO.nil)) (Gst.pick [] rfl rfl))) undef (ResL.cons (ResV.tmp rfl) ResL.nil) rfl rfl rfl rfl
 refine T.block ?_
 obtain ⟨n19, n24⟩ := loop_some ht15
 refine T.loop (fun n S' => ∃ S'', Gst S' S'' ∧ ∃ y17 : Value, ∃ s18 : Int × (List cell_Cell), S'' = ⟨[(27, .val (.int .i64 s18.1)), (26, .val (.int .i64 (a0.length : Int))), (25, .sl 1 (List.map e_sl47 a0)), (6, .val y17), (2, .val (.slice none 0 0))], [.row y17 (List.map e_cell_Cell s18.2) 5 108], 36⟩ ∧ iter (slices_Concat_cell_Cell_cell_Cell.l2 a0) n s18 = some t15) n19 ?_ ?_
 · exact ⟨_, Gst.only [2, 6, 25, 26, 27] rfl, (vn w14 0), (0, x13), rfl, n24⟩
 rintro n19 _ ⟨_, g, y17, s18, rfl, i23⟩
 refine T.ghost g ?_
 obtain ⟨m20, q21, rfl, q22, i23⟩ := iter_succ i23
 unfold slices_Concat_cell_Cell_cell_Cell.l2 at q22
 refine T.seq ?_
 refine T.region ?_
 refine TL.op1 (OpR.pure rfl) rfl ?_
 refine TL.nil ?_
 show T X _ _ _
 refine T.seq ?_
 rcases ite_some q22 with ⟨c26, q22⟩ | ⟨c26, q22⟩
 rotate_left
 · refine T.condF rfl (decide_eq_false c26) ?_
   refine T.exit ?_
   obtain rfl := Option.some.inj q22
   obtain rfl : _ = _ := i23
   exact ⟨_, Gst.only [2, 6] rfl, y17, rfl⟩
 refine T.condT rfl (decide_eq_true c26) ?_
 refine T.skip ?_
 show T X _ _ _
 refine T.seq ?_
 refine T.block ?_
 refine T.seq ?_
 refine T.region ?_
 obtain ⟨x27, hx27, q22⟩ := bnd_some q22
 refine TL.op1 (OpR.indexM e_sl47 hx27 rfl rfl rfl rfl rfl) rfl ?_
 refine TL.op1 (OpR.pure rfl) rfl ?_
 refine TL.op1 (OpR.pure rfl) rfl ?_
 refine TL.nil ?_
 show T X _ _ _
 refine T.region ?_
 refine TL.op1 (OpR.pure rfl) rfl ?_
 refine TL.op1 (OpR.pure rfl) rfl ?_
 obtain ⟨x28, hx28, q22⟩ := bnd_some q22
 refine TL.op (OpR.appendM (m := x27) e_cell_Cell 0 hx28 rfl rfl rfl rfl rfl rfl rfl rfl rfl (fun _ => rfl)) rfl (fun v29 => ?_)
 refine TL.op1 (OpR.pure rfl) rfl ?_
 refine TL.nil ?_
 show T X _ _ _
 refine T.region ?_
 refine TL.op1 (OpR.pure rfl) rfl ?_
 refine TL.op1 (OpR.pure rfl) rfl ?_
 refine TL.nil ?_
 obtain rfl := Option.some.inj q22
 exact ⟨m20, Nat.lt_succ_self _, _, Gst.only [2, 6, 25, 26, 27] rfl, v29, (w64 (s18.1 + 1), x28), rfl, i23⟩
noncomputable def row_Row_with_2 (a0 : row_Row) (a1 : List cell_Cell) : Option row_Row :=
  some (⟨a1, a0.fEnd, a0.fHidden⟩ : row_Row)
set_option maxHeartbeats 4000000 in
theorem row_Row_with_2_c {a0 : row_Row} {a1 : List cell_Cell} {res : row_Row} (h0 : row_Row_with_2 a0 a1 = some res) : CallF X 110 [.agg [.sl 5 (List.map e_cell_Cell a0.fCells), .val (.int .i64 a0.fEnd), .val (.bool a0.fHidden)], .sl 5 (List.map e_cell_Cell a1)] [] (fun x => .agg [.sl 5 (List.map e_cell_Cell res.fCells), .val (.int .i64 res.fEnd), .val (.bool res.fHidden)]) (fun x => []) := by
 unfold row_Row_with_2 at h0
 refine CallF.mkG (X := X) Try.func110 rfl rfl Try.ntmps110 rfl rfl ?_
 refine T.seq ?_
 refine T.region ?_
 refine TL.op (OpR.boxVar rfl rfl (fun _ => rfl)) rfl (fun p1 => ?_)
 refine TL.op (OpR.alloc rfl rfl (fun _ => rfl)) rfl (fun p2 => ?_)
 refine TL.nil ?_
 show T X _ _ _
 refine T.seq ?_
 refine T.region ?_
 refine TL.op1 (OpR.pure rfl) rfl ?_
 refine TL.op1 (OpR.pure rfl) rfl ?_
 refine TL.op0 (OpR.store 0 rfl rfl rfl rfl rfl rfl rfl rfl) ?_
 refine TL.nil ?_
 show T X _ _ _
 refine T.seq ?_
 refine T.region ?_
 refine TL.op1 (OpR.loadPtr 0 rfl rfl rfl rfl) rfl ?_
 refine TL.op0 (OpR.store 1 rfl rfl rfl rfl rfl rfl rfl rfl) ?_
 refine TL.nil ?_
 show T X _ _ _
 refine T.ret ?_
 obtain rfl := Option.some.inj h0
 exact PostG.retP (ks := []) (Gst.trans (Gst.only [4] rfl) (Gst.pick [1] rfl rfl)) undef (ResL.cons (ResV.var 0 rfl rfl rfl rfl) ResL.nil) rfl rfl rfl rfl
noncomputable def row_Row_Delete (a0 : row_Row) (a1 : Int) : Option (row_Row × Int) :=
  bnd (row_Row_has a0 a1) fun x2 =>
  if x2 = true then
    if (a0.fCells.length : Int) = 1 then
      some ((⟨[], 0, false⟩ : row_Row), 9)
    else
      bnd (row_Row_ahead a0 a1) fun x6 =>
      bnd (row_Row_behind a0 (w64 (a1 + 1))) fun x7 =>
      bnd (slices_Concat_cell_Cell_cell_Cell [x6, x7]) fun x8 =>
      bnd (row_Row_with_2 a0 x8) fun x9 =>
      some (x9, 0)
  else
    some ((⟨[], 0, false⟩ : row_Row), 5)
set_option maxHeartbeats 4000000 in
theorem row_Row_Delete_c {a0 : row_Row} {a1 : Int} {res : row_Row × Int} (h0 : row_Row_Delete a0 a1 = some res) : CallF X 60 [.agg [.sl 5 (List.map e_cell_Cell a0.fCells), .val (.int .i64 a0.fEnd), .val (.bool a0.fHidden)], .val (.int .i64 a1)] [] (fun x => .tup [.agg [.sl 5 (List.map e_cell_Cell res.1.fCells), .val (.int .i64 res.1.fEnd), .val (.bool res.1.fHidden)], .val (.int .i64 res.2)]) (fun x => []) := by
 unfold row_Row_Delete at h0
 refine CallF.mkG (X := X) Try.func60 rfl rfl Try.ntmps60 rfl rfl ?_
 refine T.seq ?_
 refine T.region ?_
 refine TL.op1 (OpR.boxImm rfl rfl) rfl ?_
 refine TL.op (OpR.alloc rfl rfl (fun _ => rfl)) rfl (fun p1 => ?_)
 refine TL.op1 (OpR.pure rfl) rfl ?_
 refine TL.nil ?_
 show T X _ _ _
 refine T.seq ?_
 refine T.block ?_
 refine T.seq ?_
 refine T.region ?_
 refine TL.op1 (OpR.pure rfl) rfl ?_
 refine TL.op1 (OpR.pure rfl) rfl ?_
 obtain ⟨x2, hx2, h0⟩ := bnd_some h0
 refine TL.op1 (OpR.call0 fn101 (row_Row_has_c hx2) rfl) rfl ?_
 refine TL.op1 (OpR.pure rfl) rfl ?_
 refine TL.op1 (OpR.pure rfl) rfl ?_
 refine TL.nil ?_
 show T X _ _ _
 rcases ite_some h0 with ⟨c3, h0⟩ | ⟨c3, h0⟩
 rotate_left
 · refine T.condT rfl (not_f (eq_false_of_ne_true c3)) ?_
   refine T.seq ?_
   refine T.region ?_
   refine TL.op1 (OpR.build rfl rfl rfl rfl rfl) rfl ?_
   refine TL.op0 (OpR.store 0 rfl rfl rfl rfl rfl rfl rfl rfl) ?_
   refine TL.op1 (OpR.pure rfl) rfl ?_
   refine TL.nil ?_
   show T X _ _ _
   refine T.ret ?_
   obtain rfl := Option.some.inj h0
   exact PostG.retP (ks := []) (Gst.trans (Gst.only [4, 5] rfl) (Gst.denil (ReS.cons Re.refl (ReS.cons Re.refl ReS.nil)) (ReO.var (ReL.cons (Re.base .nil) (ReL.cons Re.refl (ReL.cons Re.refl ReL.nil))) ReO.nil))) undef (ResL.cons (ResV.var 0 rfl rfl rfl rfl) (ResL.cons (ResV.tmp rfl) ResL.nil)) rfl rfl rfl rfl
 refine T.condF rfl (not_t (c3)) ?_
 refine T.seq ?_
 refine T.region ?_
 refine TL.op1 (OpR.pure rfl) rfl ?_
 refine TL.op1 (OpR.pure rfl) rfl ?_
 refine TL.op1 (OpR.cast (OpR.pure rfl) (intE (lenM _ _))) rfl ?_
 refine TL.op1 (OpR.pure rfl) rfl ?_
 refine TL.op1 (OpR.pure rfl) rfl ?_
 refine TL.nil ?_
 show T X _ _ _
 rcases ite_some h0 with ⟨c4, h0⟩ | ⟨c4, h0⟩
 · refine T.condT rfl (beq_iff_eq.2 c4) ?_
   refine T.seq ?_
   refine T.region ?_
   refine TL.op1 (OpR.build rfl rfl rfl rfl rfl) rfl ?_
   refine TL.op0 (OpR.store 0 rfl rfl rfl rfl rfl rfl rfl rfl) ?_
   refine TL.op1 (OpR.pure rfl) rfl ?_
   refine TL.nil ?_
   show T X _ _ _
   refine T.ret ?_
   obtain rfl := Option.some.inj h0
   exact PostG.retP (ks := []) (Gst.trans (Gst.only [4, 5] rfl) (Gst.denil (ReS.cons Re.refl (ReS.cons Re.refl ReS.nil)) (ReO.var (ReL.cons (Re.base .nil) (ReL.cons Re.refl (ReL.cons Re.refl ReL.nil))) ReO.nil))) undef (ResL.cons (ResV.var 0 rfl rfl rfl rfl) (ResL.cons (ResV.tmp rfl) ResL.nil)) rfl rfl rfl rfl
 refine T.condF rfl (beq_eq_false_iff_ne.2 c4) ?_
 refine T.skip ?_
 show T X _ _ _
 refine T.seq ?_
 obtain ⟨x6, hx6, h0⟩ := bnd_some h0
 obtain ⟨x7, hx7, h0⟩ := bnd_some h0
 obtain ⟨x8, hx8, h0⟩ := bnd_some h0
 obtain ⟨x9, hx9, h0⟩ := bnd_some h0
 refine T.drawS drawsX (fun env5 => [.agg [.sl 5 (List.map e_cell_Cell a0.fCells), .val (.int .i64 a0.fEnd), .val (.bool a0.fHidden)], .agg [.sl 5 (List.map e_cell_Cell a0.fCells), .val (.int .i64 a0.fEnd), .val (.bool a0.fHidden)], .val (.int .i64 a1), .sl 5 (List.map e_cell_Cell x6), .agg [.sl 5 (List.map e_cell_Cell a0.fCells), .val (.int .i64 a0.fEnd), .val (.bool a0.fHidden)], .val (.int .i64 a1), .val (.int .i64 (w64 (a1 + 1))), .sl 5 (List.map e_cell_Cell x7), .sl 1 (List.map e_sl47 [x6, x7]), .sl 5 (List.map e_cell_Cell x8), .agg [.sl 5 (List.map e_cell_Cell x9.fCells), .val (.int .i64 x9.fEnd), .val (.bool x9.fHidden)], .dead, .val (.int .i64 0)]) (fun D env5 => [(bif D 11 then .var (blk p1) [.sl 5 (List.map e_cell_Cell x9.fCells), .val (.int .i64 x9.fEnd), .val (.bool x9.fHidden)] 49 else .var (blk p1) [.val (.slice none 0 0), .val (.int .i64 0), .val (.bool false)] 49)]) [0, 0, 0, 6, 0, 0, 32, 126, 254, 510, 1023, 2047, 4095] [0, 1, 2, 4, 5, 6, 7, 8, 9, 10, 12, 13, 14, 15, 16, 18, 19, 20, 21, 22, 23, 24, 25, 26, 27, 28] (fun env5 => [.var (blk p1) [.sl 5 (List.map e_cell_Cell x9.fCells), .val (.int .i64 x9.fEnd), .val (.bool x9.fHidden)] 49]) (by decide +kernel) (by decide +kernel) (fun _ => rfl) (fun _ => rfl) ?_ (fun _ => rfl) (fun _ => rfl) ?_
 rotate_left
 · intro env5
   show T X _ _ _
   refine T.ret ?_
   obtain rfl := Option.some.inj h0
   exact PostG.retP (ks := []) (Gst.only [4, 5] rfl) undef (ResL.cons (ResV.var 0 rfl rfl rfl rfl) (ResL.cons (ResV.tmp rfl) ResL.nil)) rfl rfl rfl rfl
 refine oS (d := .agg [.sl 5 (List.map e_cell_Cell a0.fCells), .val (.int .i64 a0.fEnd), .val (.bool a0.fHidden)]) (fun _ => Want.plain rfl) (fun _ => rfl) (fun _ _ _ => rfl) (fun _ _ => OpR.pure rfl) (fun _ _ _ _ _ _ _ => rfl) ?_
 refine oS (d := .agg [.sl 5 (List.map e_cell_Cell a0.fCells), .val (.int .i64 a0.fEnd), .val (.bool a0.fHidden)]) (fun _ => Want.plain rfl) (fun _ => rfl) (fun _ _ _ => rfl) (fun _ _ => OpR.pure rfl) (fun _ _ _ _ _ _ _ => rfl) ?_
 refine oS (d := .val (.int .i64 a1)) (fun _ => Want.plain rfl) (fun _ => rfl) (fun _ _ _ => rfl) (fun _ _ => OpR.pure rfl) (fun _ _ _ _ _ _ _ => rfl) ?_
 refine oS (d := .sl 5 (List.map e_cell_Cell x6)) (fun _ => Want.plain rfl) (fun _ => rfl) (fun _ _ _ => rfl) (fun _ _ => OpR.unx (OpR.call0 fn111 (row_Row_ahead_c hx6) rfl)) (fun _ _ _ _ _ _ _ => rfl) ?_
 refine oS (d := .agg [.sl 5 (List.map e_cell_Cell a0.fCells), .val (.int .i64 a0.fEnd), .val (.bool a0.fHidden)]) (fun _ => Want.plain rfl) (fun _ => rfl) (fun _ _ _ => rfl) (fun _ _ => OpR.pure rfl) (fun _ _ _ _ _ _ _ => rfl) ?_
 refine oS (d := .val (.int .i64 a1)) (fun _ => Want.plain rfl) (fun _ => rfl) (fun _ _ _ => rfl) (fun _ _ => OpR.pure rfl) (fun _ _ _ _ _ _ _ => rfl) ?_
 refine oS (d := .val (.int .i64 (w64 (a1 + 1)))) (fun _ => Want.plain rfl) (fun _ => rfl) (fun _ _ _ => rfl) (fun _ _ => OpR.pure rfl) (fun _ _ _ _ _ _ _ => rfl) ?_
 refine oS (d := .sl 5 (List.map e_cell_Cell x7)) (fun _ => Want.plain rfl) (fun _ => rfl) (fun _ _ _ => rfl) (fun _ _ => OpR.unx (OpR.call0 fn112 (row_Row_behind_c hx7) rfl)) (fun _ _ _ _ _ _ _ => rfl) ?_
 refine oS (d := .sl 1 (List.map e_sl47 [x6, x7])) (fun _ => Want.plain rfl) (fun _ => rfl) (fun _ _ _ => rfl) (fun _ _ => OpR.lit rfl rfl rfl rfl rfl rfl rfl) (fun _ _ _ _ _ _ _ => rfl) ?_
 refine oS (d := .sl 5 (List.map e_cell_Cell x8)) (fun _ => Want.plain rfl) (fun _ => rfl) (fun _ _ _ => rfl) (fun _ _ => OpR.call0 fn113 (slices_Concat_cell_Cell_cell_Cell_c hx8) rfl) (fun _ _ _ _ _ _ _ => rfl) ?_
 refine oS (d := .agg [.sl 5 (List.map e_cell_Cell x9.fCells), .val (.int .i64 x9.fEnd), .val (.bool x9.fHidden)]) (fun _ => Want.plain rfl) (fun _ => rfl) (fun _ _ _ => rfl) (fun _ _ => OpR.call0 fn110 (row_Row_with_2_c hx9) rfl) (fun _ _ _ _ _ _ _ => rfl) ?_
 refine OpsS.cons' true ?_ (fun _ _ _ _ _ _ _ => rfl) ?_
 · intro D env5 hA
   exact OpS.yes (o0 := [.var (blk p1) [.val (.slice none 0 0), .val (.int .i64 0), .val (.bool false)] 49]) (o1 := fun x => [.var (blk p1) [.sl 5 (List.map e_cell_Cell x9.fCells), .val (.int .i64 x9.fEnd), .val (.bool x9.fHidden)] 49]) (d := fun x => .dead) (Want.plain rfl) (by first | rfl | simp only [hA.me, cond_true, cond_false, List.cons_append, List.nil_append, List.append_nil]) (fun x => by first | rfl | simp only [ins_self, upd_self, hA.me, cond_true, cond_false, List.cons_append, List.nil_append, List.append_nil]) (fun x => rfl) (OpR.store 0 rfl rfl rfl rfl rfl rfl rfl rfl)
 refine oS (d := .val (.int .i64 0)) (fun _ => Want.plain rfl) (fun _ => rfl) (fun _ _ _ => rfl) (fun _ _ => OpR.pure rfl) (fun _ _ _ _ _ _ _ => rfl) ?_
 exact trivial
noncomputable def row_Row_Move.l1 (a2 : Int) (t9 : Int) (s12 : Int × (List cell_Cell)) : Option (Lp (Int × (List cell_Cell)) (List cell_Cell)) :=
  if s12.1 = a2 then
    some (Lp.done s12.2)
  else
    bnd (idx s12.2 (w64 (s12.1 + t9))) fun x22 =>
    bnd (idx s12.2 s12.1) fun x23 =>
    bnd (idx (s12.2.set s12.1.toNat x22) (w64 (s12.1 + t9))) fun x24 =>
    some (Lp.next (w64 (s12.1 + t9), ((s12.2.set s12.1.toNat x22).set (w64 (s12.1 + t9)).toNat x23)))
noncomputable def row_Row_Move (a0 : row_Row) (a1 : Int) (a2 : Int) : Option (row_Row × Int) :=
  bnd (bnd (row_Row_has a0 a1) fun x3 =>
  if x3 = true then
    bnd (row_Row_has a0 a2) fun x5 =>
    some (!x5)
  else
    some true : Option Bool) fun t2 =>
  if t2 = true then
    some ((⟨[], 0, false⟩ : row_Row), 5)
  else
    bnd (slices_Clone_cell_Cell_cell_Cell a0.fCells) fun x7 =>
    bnd (if a2 < a1 then
      some (-1)
    else
      some 1 : Option Int) fun t9 =>
    bnd (loop (row_Row_Move.l1 a2 t9) (a1, x7) : Option (List cell_Cell)) fun t11 =>
    bnd (row_Row_with a0 t11) fun x25 =>
    some ((⟨t11, x25.1, x25.2⟩ : row_Row), 0)
set_option maxHeartbeats 4000000 in
theorem row_Row_Move_c {a0 : row_Row} {a1 : Int} {a2 : Int} {res : row_Row × Int} (h0 : row_Row_Move a0 a1 a2 = some res) : CallF X 61 [.agg [.sl 5 (List.map e_cell_Cell a0.fCells), .val (.int .i64 a0.fEnd), .val (.bool a0.fHidden)], .val (.int .i64 a1), .val (.int .i64 a2)] [] (fun x => .tup [.agg [.sl 5 (List.map e_cell_Cell res.1.fCells), .val (.int .i64 res.1.fEnd), .val (.bool res.1.fHidden)], .val (.int .i64 res.2)]) (fun x => []) := by
 unfold row_Row_Move at h0
 refine CallF.mkG (X := X) Try.func61 rfl rfl Try.ntmps61 rfl rfl ?_
 refine T.seq ?_
 refine T.region ?_
 refine TL.op1 (OpR.boxImm rfl rfl) rfl ?_
 refine TL.op (OpR.alloc rfl rfl (fun _ => rfl)) rfl (fun p1 => ?_)
 refine TL.op1 (OpR.pure rfl) rfl ?_
 refine TL.nil ?_
 show T X _ _ _
 refine T.seq ?_
 refine T.seq ?_
 obtain ⟨t2, ht2, h0⟩ := bnd_some h0
 refine T.cutC (fun S' => S' = ⟨[(19, .val (.bool t2)), (7, .val (.int .i64 0)), (6, .val (.pointer (some ⟨(blk p1), 0, none⟩))), (3, .nod [.sl 5 (List.map e_cell_Cell a0.fCells), .val (.int .i64 a0.fEnd), .val (.bool a0.fHidden)]), (2, .val (.int .i64 a2)), (1, .val (.int .i64 a1))], [.var (blk p1) [.val (.slice none 0 0), .val (.int .i64 0), .val (.bool false)] 49], 54⟩) (fun _ h => h) ?_ ?_
 · refine T.region ?_
   refine TL.op1 (OpR.pure rfl) rfl ?_
   refine TL.op1 (OpR.pure rfl) rfl ?_
   obtain ⟨x3, hx3, ht2⟩ := bnd_some ht2
   refine TL.op1 (OpR.call0 fn101 (row_Row_has_c hx3) rfl) rfl ?_
   refine TL.op1 (OpR.pure rfl) rfl ?_
   refine TL.op1 (OpR.pure rfl) rfl ?_
   rcases ite_some ht2 with ⟨c4, ht2⟩ | ⟨c4, ht2⟩
   rotate_left
   · refine TL.off rfl rfl rfl rfl (not_f (eq_false_of_ne_true c4)) rfl rfl ?_
     refine TL.off rfl rfl rfl rfl (not_f (eq_false_of_ne_true c4)) rfl rfl ?_
     refine TL.off rfl rfl rfl rfl (not_f (eq_false_of_ne_true c4)) rfl rfl ?_
     refine TL.off rfl rfl rfl rfl (not_f (eq_false_of_ne_true c4)) rfl rfl ?_
     refine TL.op1 (OpR.pickT rfl (not_f (eq_false_of_ne_true c4)) rfl) rfl ?_
     refine TL.nil ?_
     obtain rfl := Option.some.inj ht2
     exact ⟨_, Gst.only [1, 2, 3, 6, 7, 19] rfl, rfl⟩
   refine TL.on rfl rfl rfl rfl (not_t (c4)) ?_
   refine TL.op1 (OpR.pure rfl) rfl ?_
   refine TL.on rfl rfl rfl rfl (not_t (c4)) ?_
   refine TL.op1 (OpR.pure rfl) rfl ?_
   refine TL.on rfl rfl rfl rfl (not_t (c4)) ?_
   obtain ⟨x5, hx5, ht2⟩ := bnd_some ht2
   refine TL.op1 (OpR.call0 fn101 (row_Row_has_c hx5) rfl) rfl ?_
   refine TL.on rfl rfl rfl rfl (not_t (c4)) ?_
   refine TL.op1 (OpR.pure rfl) rfl ?_
   refine TL.op1 (OpR.pickF rfl (not_t (c4)) rfl) rfl ?_
   refine TL.nil ?_
   obtain rfl := Option.some.inj ht2
   exact ⟨_, Gst.only [1, 2, 3, 6, 7, 19] rfl, rfl⟩
 rintro _ rfl
 show T X _ _ _
 rcases ite_some h0 with ⟨c6, h0⟩ | ⟨c6, h0⟩
 · refine T.condT rfl (c6) ?_
   refine T.seq ?_
   refine T.region ?_
   refine TL.op1 (OpR.build rfl rfl rfl rfl rfl) rfl ?_
   refine TL.op0 (OpR.store 0 rfl rfl rfl rfl rfl rfl rfl rfl) ?_
   refine TL.op1 (OpR.pure rfl) rfl ?_
   refine TL.nil ?_
   show T X _ _ _
   refine T.ret ?_
   obtain rfl := Option.some.inj h0
   exact PostG.retP (ks := []) (Gst.trans (Gst.only [6, 7] rfl) (Gst.denil (ReS.cons Re.refl (ReS.cons Re.refl ReS.nil)) (ReO.var (ReL.cons (Re.base .nil) (ReL.cons Re.refl (ReL.cons Re.refl ReL.nil))) ReO.nil))) undef (ResL.cons (ResV.var 0 rfl rfl rfl rfl) (ResL.cons (ResV.tmp rfl) ResL.nil)) rfl rfl rfl rfl
 refine T.condF rfl (eq_false_of_ne_true c6) ?_
 refine T.skip ?_
 show T X _ _ _
 refine T.seq ?_
 refine T.region ?_
 refine TL.op1 (OpR.pure rfl) rfl ?_
 refine TL.op1 (OpR.pure rfl) rfl ?_
 obtain ⟨x7, hx7, h0⟩ := bnd_some h0
 refine TL.op (OpR.call [] fn76 (slices_Clone_cell_Cell_cell_Cell_c hx7) rfl rfl rfl (fun _ => rfl)) rfl (fun w8 => ?_)
 refine TL.op1 (OpR.pure rfl) rfl ?_
 refine TL.nil ?_
 show T X _ _ _
 refine T.seq ?_
 refine T.region ?_
 refine TL.op1 (OpR.pure rfl) rfl ?_
 refine TL.nil ?_
 show T X _ _ _
 refine T.seq ?_
 refine T.seq ?_
 refine T.region ?_
 refine TL.op1 (OpR.pure rfl) rfl ?_
 refine TL.op1 (OpR.pure rfl) rfl ?_
 refine TL.op1 (OpR.pure rfl) rfl ?_
 refine TL.nil ?_
 show T X _ _ _
 obtain ⟨t9, ht9, h0⟩ := bnd_some h0
 refine T.cutC (fun S' => S' = ⟨[(9, .val (.int .i64 t9)), (8, .val (vn w8 0)), (7, .val (.int .i64 0)), (6, .val (.pointer (some ⟨(blk p1), 0, none⟩))), (3, .nod [.sl 5 (List.map e_cell_Cell a0.fCells), .val (.int .i64 a0.fEnd), .val (.bool a0.fHidden)]), (2, .val (.int .i64 a2)), (1, .val (.int .i64 a1))], [.var (blk p1) [.val (.slice none 0 0), .val (.int .i64 0), .val (.bool false)] 49, .row (vn w8 0) (List.map e_cell_Cell x7) 5 108], 54⟩) (fun _ h => h) ?_ ?_
 · rcases ite_some ht9 with ⟨c10, ht9⟩ | ⟨c10, ht9⟩
   rotate_left
   · refine T.condF rfl (decide_eq_false c10) ?_
     refine T.skip ?_
     obtain rfl := Option.some.inj ht9
     exact ⟨_, Gst.only [1, 2, 3, 6, 7, 8, 9] rfl, rfl⟩
   refine T.condT rfl (decide_eq_true c10) ?_
   refine T.region ?_
   refine TL.op1 (OpR.pure rfl) rfl ?_
   refine TL.nil ?_
   obtain rfl := Option.some.inj ht9
   exact ⟨_, Gst.only [1, 2, 3, 6, 7, 8, 9] rfl, rfl⟩
 rintro _ rfl
 show T X _ _ _
 refine T.seq ?_
 obtain ⟨t11, ht11, h0⟩ := bnd_some h0
 refine T.cutC (fun S' => S' = ⟨[(8, .val (vn w8 0)), (7, .val (.int .i64 0)), (6, .val (.pointer (some ⟨(blk p1), 0, none⟩))), (3, .nod [.sl 5 (List.map e_cell_Cell a0.fCells), .val (.int .i64 a0.fEnd), .val (.bool a0.fHidden)])], [.var (blk p1) [.val (.slice none 0 0), .val (.int .i64 0), .val (.bool false)] 49, .row (vn w8 0) (List.map e_cell_Cell t11) 5 108], 54⟩) (fun _ h => h) ?_ ?_
 rotate_left
 · rintro _ rfl
   show T X _ _ _
   refine T.seq ?_
   refine T.region ?_
   refine TL.op1 (OpR.pure rfl) rfl ?_
   refine TL.op1 (OpR.pure rfl) rfl ?_
   obtain ⟨x25, hx25, h0⟩ := bnd_some h0
   refine TL.op1 (OpR.call [1] fn110 (row_Row_with_c hx25) rfl rfl rfl (fun _ => rfl)) rfl ?_
   refine TL.op0 (OpR.store 0 rfl rfl rfl rfl rfl rfl rfl rfl) ?_
   refine TL.op1 (OpR.pure rfl) rfl ?_
   refine TL.nil ?_
   show T X _ _ _
   refine T.ret ?_
   obtain rfl := Option.some.inj h0
   exact PostG.retP (ks := []) (Gst.trans (Gst.only [6, 7] rfl) (Gst.trans (Gst.freezeRow 1 rfl rfl (ReS.cons Re.refl (ReS.cons Re.refl ReS.nil)) (ReO.var (ReL.cons (Re.base .all) (ReL.cons Re.refl (ReL.cons Re.refl ReL.nil))) (ReO.same ReO.nil))) (Gst.pick [0] rfl rfl))) undef (ResL.cons (ResV.var 0 rfl rfl rfl rfl) (ResL.cons (ResV.tmp rfl) ResL.nil)) rfl rfl rfl rfl
 refine T.block ?_
 obtain ⟨n13, n18⟩ := loop_some ht11
 refine T.loop (fun n S' => ∃ S'', Gst S' S'' ∧ ∃ s12 : Int × (List cell_Cell), S'' = ⟨[(9, .val (.int .i64 t9)), (8, .val (vn w8 0)), (7, .val (.int .i64 0)), (6, .val (.pointer (some ⟨(blk p1), 0, none⟩))), (3, .nod [.sl 5 (List.map e_cell_Cell a0.fCells), .val (.int .i64 a0.fEnd), .val (.bool a0.fHidden)]), (2, .val (.int .i64 a2)), (1, .val (.int .i64 s12.1))], [.var (blk p1) [.val (.slice none 0 0), .val (.int .i64 0), .val (.bool false)] 49, .row (vn w8 0) (List.map e_cell_Cell s12.2) 5 108], 54⟩ ∧ iter (row_Row_Move.l1 a2 t9) n s12 = some t11) n13 ?_ ?_
 · exact ⟨_, Gst.only [1, 2, 3, 6, 7, 8, 9] rfl, (a1, x7), rfl, n18⟩
 rintro n13 _ ⟨_, g, s12, rfl, i17⟩
 refine T.ghost g ?_
 obtain ⟨m14, q15, rfl, q16, i17⟩ := iter_succ i17
 unfold row_Row_Move.l1 at q16
 refine T.seq ?_
 refine T.seq ?_
 refine T.region ?_
 refine TL.op1 (OpR.pure rfl) rfl ?_
 refine TL.op1 (OpR.pure rfl) rfl ?_
 refine TL.op1 (OpR.pure rfl) rfl ?_
 refine TL.nil ?_
 show T X _ _ _
 rcases ite_some q16 with ⟨c20, q16⟩ | ⟨c20, q16⟩
 · refine T.condF rfl (not_t (beq_iff_eq.2 c20)) ?_
   refine T.exit ?_
   obtain rfl := Option.some.inj q16
   obtain rfl : _ = _ := i17
   exact ⟨_, Gst.only [3, 6, 7, 8] rfl, rfl⟩
 refine T.condT rfl (not_f (beq_eq_false_iff_ne.2 c20)) ?_
 refine T.skip ?_
 show T X _ _ _
 refine T.seq ?_
 refine T.block ?_
 obtain ⟨x22, hx22, q16⟩ := bnd_some q16
 obtain ⟨x23, hx23, q16⟩ := bnd_some q16
 obtain ⟨x24, hx24, q16⟩ := bnd_some q16
 refine T.drawS drawsX (fun env21 => [.val (vn w8 0), .val (.int .i64 s12.1), .val (vn w8 0), .val (.int .i64 s12.1), .val (.int .i64 t9), .val (.int .i64 (w64 (s12.1 + t9))), .val (vn w8 0), .val (.int .i64 s12.1), .val (.int .i64 t9), .val (.int .i64 (w64 (s12.1 + t9))), .val (.pointer (some ⟨blk (vn w8 0), (w64 (s12.1 + t9)).toNat * 5, none⟩)), .agg [.sl 2 (List.map e_arena_Span x22.fText.fL), .val (.int .i64 x22.fText.fN), .val (.int .i64 x22.fRaw.fAt), .val (.int .i64 x22.fRaw.fN), .val (.bool x22.fKept)], .val (vn w8 0), .val (.int .i64 s12.1), .val (.pointer (some ⟨blk (vn w8 0), s12.1.toNat * 5, none⟩)), .agg [.sl 2 (List.map e_arena_Span x23.fText.fL), .val (.int .i64 x23.fText.fN), .val (.int .i64 x23.fRaw.fAt), .val (.int .i64 x23.fRaw.fN), .val (.bool x23.fKept)], .val (.pointer (some ⟨blk (vn w8 0), s12.1.toNat * 5, none⟩)), .dead, .val (.pointer (some ⟨blk (vn w8 0), (w64 (s12.1 + t9)).toNat * 5, none⟩)), .dead]) (fun D env21 => [.var (blk p1) [.val (.slice none 0 0), .val (.int .i64 0), .val (.bool false)] 49, (bif D 19 then .row (vn w8 0) (List.map e_cell_Cell ((s12.2.set s12.1.toNat x22).set (w64 (s12.1 + t9)).toNat x23)) 5 108 else bif D 17 then .row (vn w8 0) (List.map e_cell_Cell (s12.2.set s12.1.toNat x22)) 5 108 else .row (vn w8 0) (List.map e_cell_Cell s12.2) 5 108)]) [0, 0, 0, 0, 0, 24, 0, 0, 0, 384, 960, 1984, 0, 0, 12288, 28672, 65475, 131011, 262143, 524287] [1, 2, 3, 6, 7, 8, 9, 27, 28, 29, 33, 34, 35, 36, 37, 38, 39, 40, 41, 42, 44, 45, 46, 48] (fun env21 => [.var (blk p1) [.val (.slice none 0 0), .val (.int .i64 0), .val (.bool false)] 49, .row (vn w8 0) (List.map e_cell_Cell ((s12.2.set s12.1.toNat x22).set (w64 (s12.1 + t9)).toNat x23)) 5 108]) (by decide +kernel) (by decide +kernel) (fun _ => rfl) (fun _ => rfl) ?_ (fun _ => rfl) (fun _ => rfl) ?_
 rotate_left
 · intro env21
   show T X _ _ _
   refine T.region ?_
   refine TL.op1 (OpR.pure rfl) rfl ?_
   refine TL.op1 (OpR.pure rfl) rfl ?_
   refine TL.op1 (OpR.pure rfl) rfl ?_
   refine TL.op1 (OpR.pure rfl) rfl ?_
   refine TL.nil ?_
   obtain rfl := Option.some.inj q16
   exact ⟨m14, Nat.lt_succ_self _, _, Gst.only [1, 2, 3, 6, 7, 8, 9] rfl, (w64 (s12.1 + t9), ((s12.2.set s12.1.toNat x22).set (w64 (s12.1 + t9)).toNat x23)), rfl, i17⟩
 refine oS (d := .val (vn w8 0)) (fun _ => Want.plain rfl) (fun _ => rfl) (fun _ _ _ => rfl) (fun _ _ => OpR.pure rfl) (fun _ _ _ _ _ _ _ => rfl) ?_
 refine oS (d := .val (.int .i64 s12.1)) (fun _ => Want.plain rfl) (fun _ => rfl) (fun _ _ _ => rfl) (fun _ _ => OpR.pure rfl) (fun _ _ _ _ _ _ _ => rfl) ?_
 refine oS (d := .val (vn w8 0)) (fun _ => Want.plain rfl) (fun _ => rfl) (fun _ _ _ => rfl) (fun _ _ => OpR.pure rfl) (fun _ _ _ _ _ _ _ => rfl) ?_
 refine oS (d := .val (.int .i64 s12.1)) (fun _ => Want.plain rfl) (fun _ => rfl) (fun _ _ _ => rfl) (fun _ _ => OpR.pure rfl) (fun _ _ _ _ _ _ _ => rfl) ?_
 refine oS (d := .val (.int .i64 t9)) (fun _ => Want.plain rfl) (fun _ => rfl) (fun _ _ _ => rfl) (fun _ _ => OpR.pure rfl) (fun _ _ _ _ _ _ _ => rfl) ?_
 refine oS (d := .val (.int .i64 (w64 (s12.1 + t9)))) (fun _ => Want.plain rfl) (fun _ => rfl) (fun _ _ _ => rfl) (fun _ _ => OpR.pure rfl) (fun _ _ _ _ _ _ _ => rfl) ?_
 refine oS (d := .val (vn w8 0)) (fun _ => Want.plain rfl) (fun _ => rfl) (fun _ _ _ => rfl) (fun _ _ => OpR.pure rfl) (fun _ _ _ _ _ _ _ => rfl) ?_
 refine oS (d := .val (.int .i64 s12.1)) (fun _ => Want.plain rfl) (fun _ => rfl) (fun _ _ _ => rfl) (fun _ _ => OpR.pure rfl) (fun _ _ _ _ _ _ _ => rfl) ?_
 refine oS (d := .val (.int .i64 t9)) (fun _ => Want.plain rfl) (fun _ => rfl) (fun _ _ _ => rfl) (fun _ _ => OpR.pure rfl) (fun _ _ _ _ _ _ _ => rfl) ?_
 refine oS (d := .val (.int .i64 (w64 (s12.1 + t9)))) (fun _ => Want.plain rfl) (fun _ => rfl) (fun _ _ _ => rfl) (fun _ _ => OpR.pure rfl) (fun _ _ _ _ _ _ _ => rfl) ?_
 refine OpsS.cons' true ?_ (fun _ _ _ _ _ _ _ => rfl) ?_
 · intro D env21 hA
   have e17 : D 17 = false := hA.no 17 _ rfl rfl
   have e19 : D 19 = false := hA.no 19 _ rfl rfl
   exact OpS.yes (o0 := [.var (blk p1) [.val (.slice none 0 0), .val (.int .i64 0), .val (.bool false)] 49, .row (vn w8 0) (List.map e_cell_Cell s12.2) 5 108]) (o1 := fun x => [.var (blk p1) [.val (.slice none 0 0), .val (.int .i64 0), .val (.bool false)] 49, .row (vn w8 0) (List.map e_cell_Cell s12.2) 5 108]) (d := fun x => .val (.pointer (some ⟨blk (vn w8 0), (w64 (s12.1 + t9)).toNat * 5, none⟩))) (Want.plain rfl) (by first | rfl | simp only [e17, e19, cond_true, cond_false, List.cons_append, List.nil_append, List.append_nil]) (fun x => by first | rfl | simp only [ins_self, ins_ne D (show 10 ≠ 17 by decide), ins_ne D (show 10 ≠ 19 by decide), upd_self, e17, e19, cond_true, cond_false, List.cons_append, List.nil_append, List.append_nil]) (fun x => rfl) (OpR.rowIndexM e_cell_Cell 1 hx22 rfl rfl rfl rfl rfl rfl rfl)
 refine OpsS.cons' true ?_ (fun _ _ _ _ _ _ _ => rfl) ?_
 · intro D env21 hA
   have e17 : D 17 = false := hA.no 17 _ rfl rfl
   have e19 : D 19 = false := hA.no 19 _ rfl rfl
   exact OpS.yes (o0 := [.var (blk p1) [.val (.slice none 0 0), .val (.int .i64 0), .val (.bool false)] 49, .row (vn w8 0) (List.map e_cell_Cell s12.2) 5 108]) (o1 := fun x => [.var (blk p1) [.val (.slice none 0 0), .val (.int .i64 0), .val (.bool false)] 49, .row (vn w8 0) (List.map e_cell_Cell s12.2) 5 108]) (d := fun x => .agg [.sl 2 (List.map e_arena_Span x22.fText.fL), .val (.int .i64 x22.fText.fN), .val (.int .i64 x22.fRaw.fAt), .val (.int .i64 x22.fRaw.fN), .val (.bool x22.fKept)]) (Want.plain rfl) (by first | rfl | simp only [e17, e19, cond_true, cond_false, List.cons_append, List.nil_append, List.append_nil]) (fun x => by first | rfl | simp only [ins_self, ins_ne D (show 11 ≠ 17 by decide), ins_ne D (show 11 ≠ 19 by decide), upd_self, e17, e19, cond_true, cond_false, List.cons_append, List.nil_append, List.append_nil]) (fun x => rfl) (OpR.rowLoad0M (j := w64 (s12.1 + t9)) e_cell_Cell 1 hx22 rfl rfl rfl rfl)
 refine oS (d := .val (vn w8 0)) (fun _ => Want.plain rfl) (fun _ => rfl) (fun _ _ _ => rfl) (fun _ _ => OpR.pure rfl) (fun _ _ _ _ _ _ _ => rfl) ?_
 refine oS (d := .val (.int .i64 s12.1)) (fun _ => Want.plain rfl) (fun _ => rfl) (fun _ _ _ => rfl) (fun _ _ => OpR.pure rfl) (fun _ _ _ _ _ _ _ => rfl) ?_
 refine OpsS.cons' true ?_ (fun _ _ _ _ _ _ _ => rfl) ?_
 · intro D env21 hA
   have e17 : D 17 = false := hA.no 17 _ rfl rfl
   have e19 : D 19 = false := hA.no 19 _ rfl rfl
   exact OpS.yes (o0 := [.var (blk p1) [.val (.slice none 0 0), .val (.int .i64 0), .val (.bool false)] 49, .row (vn w8 0) (List.map e_cell_Cell s12.2) 5 108]) (o1 := fun x => [.var (blk p1) [.val (.slice none 0 0), .val (.int .i64 0), .val (.bool false)] 49, .row (vn w8 0) (List.map e_cell_Cell s12.2) 5 108]) (d := fun x => .val (.pointer (some ⟨blk (vn w8 0), s12.1.toNat * 5, none⟩))) (Want.plain rfl) (by first | rfl | simp only [e17, e19, cond_true, cond_false, List.cons_append, List.nil_append, List.append_nil]) (fun x => by first | rfl | simp only [ins_self, ins_ne D (show 14 ≠ 17 by decide), ins_ne D (show 14 ≠ 19 by decide), upd_self, e17, e19, cond_true, cond_false, List.cons_append, List.nil_append, List.append_nil]) (fun x => rfl) (OpR.rowIndexM e_cell_Cell 1 hx23 rfl rfl rfl rfl rfl rfl rfl)
 refine OpsS.cons' true ?_ (fun _ _ _ _ _ _ _ => rfl) ?_
 · intro D env21 hA
   have e17 : D 17 = false := hA.no 17 _ rfl rfl
   have e19 : D 19 = false := hA.no 19 _ rfl rfl
   exact OpS.yes (o0 := [.var (blk p1) [.val (.slice none 0 0), .val (.int .i64 0), .val (.bool false)] 49, .row (vn w8 0) (List.map e_cell_Cell s12.2) 5 108]) (o1 := fun x => [.var (blk p1) [.val (.slice none 0 0), .val (.int .i64 0), .val (.bool false)] 49, .row (vn w8 0) (List.map e_cell_Cell s12.2) 5 108]) (d := fun x => .agg [.sl 2 (List.map e_arena_Span x23.fText.fL), .val (.int .i64 x23.fText.fN), .val (.int .i64 x23.fRaw.fAt), .val (.int .i64 x23.fRaw.fN), .val (.bool x23.fKept)]) (Want.plain rfl) (by first | rfl | simp only [e17, e19, cond_true, cond_false, List.cons_append, List.nil_append, List.append_nil]) (fun x => by first | rfl | simp only [ins_self, ins_ne D (show 15 ≠ 17 by decide), ins_ne D (show 15 ≠ 19 by decide), upd_self, e17, e19, cond_true, cond_false, List.cons_append, List.nil_append, List.append_nil]) (fun x => rfl) (OpR.rowLoad0M (j := s12.1) e_cell_Cell 1 hx23 rfl rfl rfl rfl)
 refine OpsS.cons' true ?_ (fun _ _ _ _ _ _ _ => rfl) ?_
 · intro D env21 hA
   have e17 : D 17 = false := hA.no 17 _ rfl rfl
   have e19 : D 19 = false := hA.no 19 _ rfl rfl
   exact OpS.yes (o0 := [.var (blk p1) [.val (.slice none 0 0), .val (.int .i64 0), .val (.bool false)] 49, .row (vn w8 0) (List.map e_cell_Cell s12.2) 5 108]) (o1 := fun x => [.var (blk p1) [.val (.slice none 0 0), .val (.int .i64 0), .val (.bool false)] 49, .row (vn w8 0) (List.map e_cell_Cell s12.2) 5 108]) (d := fun x => .val (.pointer (some ⟨blk (vn w8 0), s12.1.toNat * 5, none⟩))) (Want.plain rfl) (by first | rfl | simp only [e17, e19, cond_true, cond_false, List.cons_append, List.nil_append, List.append_nil]) (fun x => by first | rfl | simp only [ins_self, ins_ne D (show 16 ≠ 17 by decide), ins_ne D (show 16 ≠ 19 by decide), upd_self, e17, e19, cond_true, cond_false, List.cons_append, List.nil_append, List.append_nil]) (fun x => rfl) (OpR.rowIndexM e_cell_Cell 1 hx23 rfl rfl rfl rfl rfl rfl rfl)
 refine OpsS.cons' true ?_ (fun _ _ _ _ _ _ _ => rfl) ?_
 · intro D env21 hA
   have e19 : D 19 = false := hA.no 19 _ rfl rfl
   exact OpS.yes (o0 := [.var (blk p1) [.val (.slice none 0 0), .val (.int .i64 0), .val (.bool false)] 49, .row (vn w8 0) (List.map e_cell_Cell s12.2) 5 108]) (o1 := fun x => [.var (blk p1) [.val (.slice none 0 0), .val (.int .i64 0), .val (.bool false)] 49, .row (vn w8 0) (List.map e_cell_Cell (s12.2.set s12.1.toNat x22)) 5 108]) (d := fun x => .dead) (Want.plain rfl) (by first | rfl | simp only [e19, hA.me, cond_true, cond_false, List.cons_append, List.nil_append, List.append_nil]) (fun x => by first | rfl | simp only [ins_self, ins_ne D (show 17 ≠ 19 by decide), upd_self, e19, hA.me, cond_true, cond_false, List.cons_append, List.nil_append, List.append_nil]) (fun x => rfl) (OpR.rowStore0M (j := s12.1) e_cell_Cell x22 1 hx23 rfl rfl rfl rfl rfl rfl rfl rfl rfl)
 refine OpsS.cons' true ?_ (fun _ _ _ _ _ _ _ => rfl) ?_
 · intro D env21 hA
   have e17 : D 17 = true := hA.yes 17 _ rfl rfl
   have e19 : D 19 = false := hA.no 19 _ rfl rfl
   exact OpS.yes (o0 := [.var (blk p1) [.val (.slice none 0 0), .val (.int .i64 0), .val (.bool false)] 49, .row (vn w8 0) (List.map e_cell_Cell (s12.2.set s12.1.toNat x22)) 5 108]) (o1 := fun x => [.var (blk p1) [.val (.slice none 0 0), .val (.int .i64 0), .val (.bool false)] 49, .row (vn w8 0) (List.map e_cell_Cell (s12.2.set s12.1.toNat x22)) 5 108]) (d := fun x => .val (.pointer (some ⟨blk (vn w8 0), (w64 (s12.1 + t9)).toNat * 5, none⟩))) (Want.plain rfl) (by first | rfl | simp only [e17, e19, cond_true, cond_false, List.cons_append, List.nil_append, List.append_nil]) (fun x => by first | rfl | simp only [ins_self, ins_ne D (show 18 ≠ 17 by decide), ins_ne D (show 18 ≠ 19 by decide), upd_self, e17, e19, cond_true, cond_false, List.cons_append, List.nil_append, List.append_nil]) (fun x => rfl) (OpR.rowIndexM e_cell_Cell 1 hx24 rfl rfl rfl rfl rfl rfl rfl)
 refine OpsS.cons' true ?_ (fun _ _ _ _ _ _ _ => rfl) ?_
 · intro D env21 hA
   have e17 : D 17 = true := hA.yes 17 _ rfl rfl
   exact OpS.yes (o0 := [.var (blk p1) [.val (.slice none 0 0), .val (.int .i64 0), .val (.bool false)] 49, .row (vn w8 0) (List.map e_cell_Cell (s12.2.set s12.1.toNat x22)) 5 108]) (o1 := fun x => [.var (blk p1) [.val (.slice none 0 0), .val (.int .i64 0), .val (.bool false)] 49, .row (vn w8 0) (List.map e_cell_Cell ((s12.2.set s12.1.toNat x22).set (w64 (s12.1 + t9)).toNat x23)) 5 108]) (d := fun x => .dead) (Want.plain rfl) (by first | rfl | simp only [e17, hA.me, cond_true, cond_false, List.cons_append, List.nil_append, List.append_nil]) (fun x => by first | rfl | simp only [ins_self, ins_ne D (show 19 ≠ 17 by decide), upd_self, e17, hA.me, cond_true, cond_false, List.cons_append, List.nil_append, List.append_nil]) (fun x => rfl) (OpR.rowStore0M (j := w64 (s12.1 + t9)) e_cell_Cell x23 1 hx24 rfl rfl rfl rfl rfl rfl rfl rfl rfl)
 exact trivial
end Go.Proofs.Ytbcbggdgkdfciaa.S
