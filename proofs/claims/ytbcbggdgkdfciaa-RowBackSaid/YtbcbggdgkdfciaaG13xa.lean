/- Printed by a program of this session's own (gen.py): Lean functions for Go functions, and the proofs that the Go code comes to their answers. -/
import Derived.Test.YtbcbggdgkdfciaaG11xa
import Derived.Test.YtbcbggdgkdfciaaG8xa
import Derived.Test.YtbcbggdgkdfciaaG1xa
import Derived.Test.YtbcbggdgkdfciaaG1xb
set_option linter.unusedVariables false
set_option linter.unusedSimpArgs false
set_option maxRecDepth 20000
namespace Go.Proofs.Ytbcbggdgkdfciaa.S
open Go Go.Sm
attribute [local irreducible] T TL OpR CallT iter loop
noncomputable def law08_RowBack (a0 : List UInt8) (a1 : Int) (a2 : Int) : Option Bool :=
  bnd (law08_begun a0) fun x1 =>
  match x1 with
  | .inl x1 =>
      some false
  | .inr x1 =>
      if x1.2.2.1 = true then
        bnd (row_Row_Insert x1.1 a1 (⟨(⟨[], 0⟩ : piece_Text), (⟨0, 0⟩ : arena_Span), false⟩ : cell_Cell)) fun x8 =>
        bnd (if x8.2 = 0 then
          bnd (row_Row_Delete x8.1 a1) fun x13 =>
          bnd (if x13.2 = 0 then
            bnd (row_Same x1.1 x13.1 x1.2.2.2) fun x18 =>
            if x18 = true then
              bnd (row_Row_Len x8.1) fun x20 =>
              bnd (row_Row_Len x1.1) fun x21 =>
              some (!(x20 == (w64 (x21 + 1))))
            else
              some true
          else
            some true : Option Bool) fun t15 =>
          if t15 = true then
            some (Ex.ret false)
          else
            some (Ex.brk ())
        else
          some (Ex.brk ()) : Option (Ex Unit Bool)) fun t10 => match t10 with
          | .brk u11 =>
            bnd (row_Row_Move x1.1 a1 a2) fun x23 =>
            bnd (if x23.2 = 0 then
              bnd (row_Row_Move x23.1 a2 a1) fun x28 =>
              bnd (if x28.2 = 0 then
                bnd (row_Same x1.1 x28.1 x1.2.2.2) fun x32 =>
                some (!x32)
              else
                some true : Option Bool) fun t30 =>
              if t30 = true then
                some (Ex.ret false)
              else
                some (Ex.brk ())
            else
              some (Ex.brk ()) : Option (Ex Unit Bool)) fun t25 => match t25 with
              | .brk u26 =>
                bnd (bnd (law08_Plain x1.1 x1.2.2.2) fun x36 =>
                bnd (ref08_Same x36 x1.2.1) fun x37 =>
                if x37 = true then
                  bnd (law08_awake) fun x39 =>
                  some x39
                else
                  some false : Option Bool) fun t34 =>
                some t34
              | .ret u26 => some u26
          | .ret u11 => some u11
      else
        bnd (law08_awake) fun x40 =>
        some x40
set_option maxHeartbeats 4000000 in
theorem law08_RowBack_c {a0 : List UInt8} {a1 : Int} {a2 : Int} {res : Bool} (h0 : law08_RowBack a0 a1 a2 = some res) : CallF X 10 [.val (.string (bs a0)), .val (.int .i64 a1), .val (.int .i64 a2)] [] (fun x => .val (.bool res)) (fun x => []) := by
 unfold law08_RowBack at h0
 refine CallF.mkG (X := X) Try.func10 rfl rfl Try.ntmps10 rfl rfl ?_
 refine T.seq ?_
 refine T.region ?_
 refine TL.op1 (OpR.pure rfl) rfl ?_
 refine TL.nil ?_
 show T X _ _ _
 refine T.seq ?_
 refine T.region ?_
 refine TL.op1 (OpR.pure rfl) rfl ?_
 obtain ⟨x1, hx1, h0⟩ := bnd_some h0
 rcases x1 with x1 | x1
 · dsimp only at h0
   refine TL.op1 (OpR.call0 fn49 (law08_begun_cx1 hx1) rfl) rfl ?_
   refine TL.op1 (OpR.pure rfl) rfl ?_
   refine TL.op1 (OpR.pure rfl) rfl ?_
   refine TL.op1 (OpR.pure rfl) rfl ?_
   refine TL.op1 (OpR.pure rfl) rfl ?_
   refine TL.op1 (OpR.pure rfl) rfl ?_
   refine TL.op (OpR.alloc rfl rfl (fun _ => rfl)) rfl (fun p3 => ?_)
   refine TL.op (OpR.alloc rfl rfl (fun _ => rfl)) rfl (fun p4 => ?_)
   refine TL.op1 (OpR.pure rfl) rfl ?_
   refine TL.op0 (OpR.store 0 rfl rfl rfl rfl rfl rfl rfl rfl) ?_
   refine TL.op0 (OpR.store 1 rfl rfl rfl rfl rfl rfl rfl rfl) ?_
   refine TL.op1 (OpR.pure rfl) rfl ?_
   refine TL.nil ?_
   show T X _ _ _
   refine T.seq ?_
   refine T.seq ?_
   refine T.region ?_
   refine TL.op1 (OpR.pure rfl) rfl ?_
   refine TL.op1 (OpR.pure rfl) rfl ?_
   refine TL.nil ?_
   show T X _ _ _
   refine T.condT rfl rfl ?_
   refine T.seq ?_
   refine T.region ?_
   refine TL.op1 (OpR.pure rfl) rfl ?_
   refine TL.op1 (OpR.ptrNe rfl rfl rfl) rfl ?_
   refine TL.op1 (OpR.pure rfl) rfl ?_
   refine TL.off rfl rfl rfl rfl rfl rfl rfl ?_
   refine TL.op1 (OpR.pickF rfl rfl rfl) rfl ?_
   refine TL.op1 (OpR.pure rfl) rfl ?_
   refine TL.nil ?_
   show T X _ _ _
   refine T.ret ?_
   obtain rfl := Option.some.inj h0
   exact PostG.retP (ks := []) (Gst.trans (Gst.only [6] rfl) (Gst.pick [] rfl rfl)) undef (ResL.cons (ResV.tmp rfl) ResL.nil) rfl rfl rfl rfl
 dsimp only at h0
 refine TL.op (OpR.call [] fn49 (law08_begun_cx2 hx1) rfl rfl rfl (fun _ => rfl)) rfl (fun w2 => ?_)
 refine TL.op1 (OpR.pure rfl) rfl ?_
 refine TL.op1 (OpR.pure rfl) rfl ?_
 refine TL.op1 (OpR.pure rfl) rfl ?_
 refine TL.op1 (OpR.pure rfl) rfl ?_
 refine TL.op1 (OpR.pure rfl) rfl ?_
 refine TL.op (OpR.alloc rfl rfl (fun _ => rfl)) rfl (fun p5 => ?_)
 refine TL.op (OpR.alloc rfl rfl (fun _ => rfl)) rfl (fun p6 => ?_)
 refine TL.op1 (OpR.pure rfl) rfl ?_
 refine TL.op0 (OpR.store 2 rfl rfl rfl rfl rfl rfl rfl rfl) ?_
 refine TL.op0 (OpR.store 3 rfl rfl rfl rfl rfl rfl rfl rfl) ?_
 refine TL.op1 (OpR.pure rfl) rfl ?_
 refine TL.nil ?_
 show T X _ _ _
 refine T.seq ?_
 refine T.seq ?_
 refine T.region ?_
 refine TL.op1 (OpR.pure rfl) rfl ?_
 refine TL.op1 (OpR.pure rfl) rfl ?_
 refine TL.nil ?_
 show T X _ _ _
 rcases ite_some h0 with ⟨c7, h0⟩ | ⟨c7, h0⟩
 rotate_left
 · refine T.condT rfl (not_f (eq_false_of_ne_true c7)) ?_
   refine T.seq ?_
   refine T.region ?_
   refine TL.op1 (OpR.pure rfl) rfl ?_
   refine TL.op1 (OpR.ptrNe rfl rfl rfl) rfl ?_
   refine TL.op1 (OpR.pure rfl) rfl ?_
   refine TL.on rfl rfl rfl rfl rfl ?_
   obtain ⟨x40, hx40, h0⟩ := bnd_some h0
   refine TL.op1 (OpR.call0 fn35 (law08_awake_c hx40) rfl) rfl ?_
   refine TL.op1 (OpR.pickT rfl rfl rfl) rfl ?_
   refine TL.op1 (OpR.pure rfl) rfl ?_
   refine TL.nil ?_
   show T X _ _ _
   refine T.ret ?_
   obtain rfl := Option.some.inj h0
   exact PostG.retP (ks := []) (Gst.trans (Gst.only [6] rfl) (Gst.pick [] rfl rfl)) undef (ResL.cons (ResV.tmp rfl) ResL.nil) rfl rfl rfl rfl
 refine T.condF rfl (not_t (c7)) ?_
 refine T.skip ?_
 show T X _ _ _
 refine T.seq ?_
 refine T.seq ?_
 refine T.region ?_
 refine TL.op1 (OpR.loadPtr 2 rfl rfl rfl rfl) rfl ?_
 refine TL.op1 (OpR.pure rfl) rfl ?_
 refine TL.op1 (OpR.wk (d' := fun _ => .agg [.sl 2 (List.map e_arena_Span []), .val (.int .i64 0), .val (.int .i64 0), .val (.int .i64 0), .val (.bool false)]) (OpR.build rfl rfl rfl rfl rfl) (fun _ => Re.agg (ReL.cons (Re.base .nil) (ReL.cons Re.refl (ReL.cons Re.refl (ReL.cons Re.refl (ReL.cons Re.refl ReL.nil))))) (fun _ _ h => by cases h; exact ⟨_, rfl⟩))) rfl ?_
 obtain ⟨x8, hx8, h0⟩ := bnd_some h0
 refine TL.op1 (OpR.call0 fn59 (row_Row_Insert_c hx8) rfl) rfl ?_
 refine TL.op1 (OpR.pure rfl) rfl ?_
 refine TL.op1 (OpR.pure rfl) rfl ?_
 refine TL.op1 (OpR.pure rfl) rfl ?_
 refine TL.op (OpR.alloc rfl rfl (fun _ => rfl)) rfl (fun p9 => ?_)
 refine TL.op0 (OpR.store 4 rfl rfl rfl rfl rfl rfl rfl rfl) ?_
 refine TL.op1 (OpR.pure rfl) rfl ?_
 refine TL.nil ?_
 show T X _ _ _
 refine T.seq ?_
 refine T.region ?_
 refine TL.op1 (OpR.pure rfl) rfl ?_
 refine TL.op1 (OpR.pure rfl) rfl ?_
 refine TL.nil ?_
 show T X _ _ _
 obtain ⟨t10, ht10, h0⟩ := bnd_some h0
 refine T.cutC (fun S' => ∃ u11, t10 = Ex.brk u11 ∧ S' = ⟨[(9, .val (.pointer (some ⟨(blk p6), 0, none⟩))), (8, .val (.pointer (some ⟨(blk p5), 0, none⟩))), (7, .val (.pointer (some ⟨(blk (vn w2 0)), 0, none⟩))), (6, .val (.bool false)), (2, .val (.int .i64 a2)), (1, .val (.int .i64 a1))], [.var (blk (vn w2 0)) [.val (vn w2 1)] 142, .var (blk p5) [.sl 5 (List.map e_cell_Cell x1.1.fCells), .val (.int .i64 x1.1.fEnd), .val (.bool x1.1.fHidden)] 49, .var (blk p6) [.sl 3 (List.map e_ref07_Cell x1.2.1.fCells), .val (.int .i64 x1.2.1.fEnd), .val (.bool x1.2.1.fHidden)] 57, .row (vn w2 1) (List.map byteD x1.2.2.2) 1 5], 98⟩) (fun _ h => h) ?_ ?_
 rotate_left
 · rintro _ ⟨u11, rfl, rfl⟩
   show T X _ _ _
   refine T.seq ?_
   refine T.seq ?_
   refine T.region ?_
   refine TL.op1 (OpR.loadPtr 1 rfl rfl rfl rfl) rfl ?_
   refine TL.op1 (OpR.pure rfl) rfl ?_
   refine TL.op1 (OpR.pure rfl) rfl ?_
   obtain ⟨x23, hx23, h0⟩ := bnd_some h0
   refine TL.op1 (OpR.call0 fn61 (row_Row_Move_c hx23) rfl) rfl ?_
   refine TL.op1 (OpR.pure rfl) rfl ?_
   refine TL.op1 (OpR.pure rfl) rfl ?_
   refine TL.op1 (OpR.pure rfl) rfl ?_
   refine TL.op (OpR.alloc rfl rfl (fun _ => rfl)) rfl (fun p24 => ?_)
   refine TL.op0 (OpR.store 4 rfl rfl rfl rfl rfl rfl rfl rfl) ?_
   refine TL.op1 (OpR.pure rfl) rfl ?_
   refine TL.nil ?_
   show T X _ _ _
   refine T.seq ?_
   refine T.region ?_
   refine TL.op1 (OpR.pure rfl) rfl ?_
   refine TL.op1 (OpR.pure rfl) rfl ?_
   refine TL.nil ?_
   show T X _ _ _
   obtain ⟨t25, ht25, h0⟩ := bnd_some h0
   refine T.cutC (fun S' => ∃ u26, t25 = Ex.brk u26 ∧ S' = ⟨[(9, .val (.pointer (some ⟨(blk p6), 0, none⟩))), (8, .val (.pointer (some ⟨(blk p5), 0, none⟩))), (7, .val (.pointer (some ⟨(blk (vn w2 0)), 0, none⟩))), (6, .val (.bool false))], [.var (blk (vn w2 0)) [.val (vn w2 1)] 142, .var (blk p5) [.sl 5 (List.map e_cell_Cell x1.1.fCells), .val (.int .i64 x1.1.fEnd), .val (.bool x1.1.fHidden)] 49, .var (blk p6) [.sl 3 (List.map e_ref07_Cell x1.2.1.fCells), .val (.int .i64 x1.2.1.fEnd), .val (.bool x1.2.1.fHidden)] 57, .row (vn w2 1) (List.map byteD x1.2.2.2) 1 5], 98⟩) (fun _ h => h) ?_ ?_
   rotate_left
   · rintro _ ⟨u26, rfl, rfl⟩
     show T X _ _ _
     refine T.seq ?_
     obtain ⟨t34, ht34, h0⟩ := bnd_some h0
     refine T.cutC (fun S' => S' = ⟨[(6, .val (.bool t34))], [], 98⟩) (fun _ h => h) ?_ ?_
     rotate_left
     · rintro _ rfl
       show T X _ _ _
       refine T.ret ?_
       obtain rfl := Option.some.inj h0
       exact PostG.retP (ks := []) (Gst.only [6] rfl) undef (ResL.cons (ResV.tmp rfl) ResL.nil) rfl rfl rfl rfl
     obtain ⟨x36, hx36, ht34⟩ := bnd_some ht34
     obtain ⟨x37, hx37, ht34⟩ := bnd_some ht34
     rcases ite_some ht34 with ⟨c38, ht34⟩ | ⟨c38, ht34⟩
     rotate_left
     · refine T.drawQ drawsX [.val (.pointer (some ⟨(blk (vn w2 0)), 0, none⟩)), .agg [.sl 5 (List.map e_cell_Cell x1.1.fCells), .val (.int .i64 x1.1.fEnd), .val (.bool x1.1.fHidden)], .agg [.sl 3 (List.map e_ref07_Cell x36.fCells), .val (.int .i64 x36.fEnd), .val (.bool x36.fHidden)], .agg [.sl 3 (List.map e_ref07_Cell x1.2.1.fCells), .val (.int .i64 x1.2.1.fEnd), .val (.bool x1.2.1.fHidden)], .val (.bool x37), .val (.bool x37), .tup [], .val (.bool false), .val (.bool false)] [6, 7, 8, 9, 90, 91, 92, 93, 94, 95, 96, 97] (by decide +kernel) rfl ?_ rfl ?_
       rotate_left
       · obtain rfl := Option.some.inj ht34
         exact ⟨_, Gst.trans (Gst.only [6] rfl) (Gst.pick [] rfl rfl), rfl⟩
       refine OpsQ.yes (Want.plain rfl) rfl (OpR.pure rfl) ?_
       refine OpsQ.yes (Want.plain rfl) rfl (OpR.loadPtr 1 rfl rfl rfl rfl) ?_
       refine OpsQ.yes (Want.plain rfl) rfl (OpR.call [0, 3] fn31 (law08_Plain_c hx36) rfl rfl rfl (fun _ => rfl)) ?_
       refine OpsQ.yes (Want.plain rfl) rfl (OpR.loadPtr 2 rfl rfl rfl rfl) ?_
       refine OpsQ.yes (Want.plain rfl) rfl (OpR.call0 fn30 (ref08_Same_c hx37) rfl) ?_
       refine OpsQ.yes (Want.plain rfl) rfl (OpR.pure rfl) ?_
       refine OpsQ.no (Want.bool rfl rfl rfl rfl (by rw [(eq_false_of_ne_true c38)]; rfl)) rfl ?_
       refine OpsQ.yes (Want.plain rfl) rfl (OpR.pickF rfl (eq_false_of_ne_true c38) rfl) ?_
       refine OpsQ.yes (Want.plain rfl) rfl (OpR.pure rfl) ?_
       exact OpsQ.nil
     obtain ⟨x39, hx39, ht34⟩ := bnd_some ht34
     refine T.drawQ drawsX [.val (.pointer (some ⟨(blk (vn w2 0)), 0, none⟩)), .agg [.sl 5 (List.map e_cell_Cell x1.1.fCells), .val (.int .i64 x1.1.fEnd), .val (.bool x1.1.fHidden)], .agg [.sl 3 (List.map e_ref07_Cell x36.fCells), .val (.int .i64 x36.fEnd), .val (.bool x36.fHidden)], .agg [.sl 3 (List.map e_ref07_Cell x1.2.1.fCells), .val (.int .i64 x1.2.1.fEnd), .val (.bool x1.2.1.fHidden)], .val (.bool x37), .val (.bool x37), .val (.bool x39), .val (.bool x39), .val (.bool x39)] [6, 7, 8, 9, 90, 91, 92, 93, 94, 95, 96, 97] (by decide +kernel) rfl ?_ rfl ?_
     rotate_left
     · obtain rfl := Option.some.inj ht34
       exact ⟨_, Gst.trans (Gst.only [6] rfl) (Gst.pick [] rfl rfl), rfl⟩
     refine OpsQ.yes (Want.plain rfl) rfl (OpR.pure rfl) ?_
     refine OpsQ.yes (Want.plain rfl) rfl (OpR.loadPtr 1 rfl rfl rfl rfl) ?_
     refine OpsQ.yes (Want.plain rfl) rfl (OpR.call [0, 3] fn31 (law08_Plain_c hx36) rfl rfl rfl (fun _ => rfl)) ?_
     refine OpsQ.yes (Want.plain rfl) rfl (OpR.loadPtr 2 rfl rfl rfl rfl) ?_
     refine OpsQ.yes (Want.plain rfl) rfl (OpR.call0 fn30 (ref08_Same_c hx37) rfl) ?_
     refine OpsQ.yes (Want.plain rfl) rfl (OpR.pure rfl) ?_
     refine OpsQ.yes (Want.bool rfl rfl rfl rfl (by rw [(c38)]; rfl)) rfl (OpR.call0 fn35 (law08_awake_c hx39) rfl) ?_
     refine OpsQ.yes (Want.plain rfl) rfl (OpR.pickT rfl (c38) rfl) ?_
     refine OpsQ.yes (Want.plain rfl) rfl (OpR.pure rfl) ?_
     exact OpsQ.nil
   rcases ite_some ht25 with ⟨c27, ht25⟩ | ⟨c27, ht25⟩
   rotate_left
   · refine T.condF rfl (beq_eq_false_iff_ne.2 c27) ?_
     refine T.skip ?_
     obtain rfl := Option.some.inj ht25
     exact ⟨_, Gst.trans (Gst.only [6, 7, 8, 9] rfl) (Gst.pick [0, 1, 2, 3] rfl rfl), _, rfl, rfl⟩
   refine T.condT rfl (beq_iff_eq.2 c27) ?_
   refine T.seq ?_
   refine T.region ?_
   refine TL.op1 (OpR.loadPtr 4 rfl rfl rfl rfl) rfl ?_
   refine TL.op1 (OpR.pure rfl) rfl ?_
   refine TL.op1 (OpR.pure rfl) rfl ?_
   obtain ⟨x28, hx28, ht25⟩ := bnd_some ht25
   refine TL.op1 (OpR.call0 fn61 (row_Row_Move_c hx28) rfl) rfl ?_
   refine TL.op1 (OpR.pure rfl) rfl ?_
   refine TL.op1 (OpR.pure rfl) rfl ?_
   refine TL.op1 (OpR.pure rfl) rfl ?_
   refine TL.op (OpR.alloc rfl rfl (fun _ => rfl)) rfl (fun p29 => ?_)
   refine TL.op0 (OpR.store 5 rfl rfl rfl rfl rfl rfl rfl rfl) ?_
   refine TL.op1 (OpR.pure rfl) rfl ?_
   refine TL.nil ?_
   show T X _ _ _
   refine T.seq ?_
   obtain ⟨t30, ht30, ht25⟩ := bnd_some ht25
   refine T.cutC (fun S' => S' = ⟨[(89, .val (.bool t30)), (9, .val (.pointer (some ⟨(blk p6), 0, none⟩))), (8, .val (.pointer (some ⟨(blk p5), 0, none⟩))), (7, .val (.pointer (some ⟨(blk (vn w2 0)), 0, none⟩))), (6, .val (.bool false))], [.var (blk (vn w2 0)) [.val (vn w2 1)] 142, .var (blk p5) [.sl 5 (List.map e_cell_Cell x1.1.fCells), .val (.int .i64 x1.1.fEnd), .val (.bool x1.1.fHidden)] 49, .var (blk p6) [.sl 3 (List.map e_ref07_Cell x1.2.1.fCells), .val (.int .i64 x1.2.1.fEnd), .val (.bool x1.2.1.fHidden)] 57, .row (vn w2 1) (List.map byteD x1.2.2.2) 1 5], 98⟩) (fun _ h => h) ?_ ?_
   rotate_left
   · rintro _ rfl
     show T X _ _ _
     rcases ite_some ht25 with ⟨c33, ht25⟩ | ⟨c33, ht25⟩
     rotate_left
     · refine T.condF rfl (eq_false_of_ne_true c33) ?_
       refine T.skip ?_
       obtain rfl := Option.some.inj ht25
       exact ⟨_, Gst.only [6, 7, 8, 9] rfl, _, rfl, rfl⟩
     refine T.condT rfl (c33) ?_
     refine T.seq ?_
     refine T.region ?_
     refine TL.op1 (OpR.pure rfl) rfl ?_
     refine TL.nil ?_
     show T X _ _ _
     refine T.ret ?_
     obtain rfl := Option.some.inj ht25
     obtain rfl := Option.some.inj h0
     exact PostG.retP (ks := []) (Gst.trans (Gst.only [6] rfl) (Gst.pick [] rfl rfl)) undef (ResL.cons (ResV.tmp rfl) ResL.nil) rfl rfl rfl rfl
   refine T.region ?_
   refine TL.op1 (OpR.pure rfl) rfl ?_
   refine TL.op1 (OpR.pure rfl) rfl ?_
   refine TL.op1 (OpR.pure rfl) rfl ?_
   rcases ite_some ht30 with ⟨c31, ht30⟩ | ⟨c31, ht30⟩
   rotate_left
   · refine TL.off rfl rfl rfl rfl (not_f (beq_eq_false_iff_ne.2 c31)) rfl rfl ?_
     refine TL.off rfl rfl rfl rfl (not_f (beq_eq_false_iff_ne.2 c31)) rfl rfl ?_
     refine TL.off rfl rfl rfl rfl (not_f (beq_eq_false_iff_ne.2 c31)) rfl rfl ?_
     refine TL.off rfl rfl rfl rfl (not_f (beq_eq_false_iff_ne.2 c31)) rfl rfl ?_
     refine TL.off rfl rfl rfl rfl (not_f (beq_eq_false_iff_ne.2 c31)) rfl rfl ?_
     refine TL.op1 (OpR.pickT rfl (not_f (beq_eq_false_iff_ne.2 c31)) rfl) rfl ?_
     refine TL.nil ?_
     obtain rfl := Option.some.inj ht30
     exact ⟨_, Gst.trans (Gst.only [6, 7, 8, 9, 89] rfl) (Gst.pick [0, 1, 2, 3] rfl rfl), rfl⟩
   refine TL.on rfl rfl rfl rfl (not_t (beq_iff_eq.2 c31)) ?_
   refine TL.op1 (OpR.pure rfl) rfl ?_
   refine TL.on rfl rfl rfl rfl (not_t (beq_iff_eq.2 c31)) ?_
   refine TL.op1 (OpR.loadPtr 1 rfl rfl rfl rfl) rfl ?_
   refine TL.on rfl rfl rfl rfl (not_t (beq_iff_eq.2 c31)) ?_
   refine TL.op1 (OpR.loadPtr 5 rfl rfl rfl rfl) rfl ?_
   refine TL.on rfl rfl rfl rfl (not_t (beq_iff_eq.2 c31)) ?_
   obtain ⟨x32, hx32, ht30⟩ := bnd_some ht30
   refine TL.op1 (OpR.call [0, 3] fn39 (row_Same_c hx32) rfl rfl rfl (fun _ => rfl)) rfl ?_
   refine TL.on rfl rfl rfl rfl (not_t (beq_iff_eq.2 c31)) ?_
   refine TL.op1 (OpR.pure rfl) rfl ?_
   refine TL.op1 (OpR.pickF rfl (not_t (beq_iff_eq.2 c31)) rfl) rfl ?_
   refine TL.nil ?_
   obtain rfl := Option.some.inj ht30
   exact ⟨_, Gst.trans (Gst.only [6, 7, 8, 9, 89] rfl) (Gst.pick [0, 1, 2, 3] rfl rfl), rfl⟩
 rcases ite_some ht10 with ⟨c12, ht10⟩ | ⟨c12, ht10⟩
 rotate_left
 · refine T.condF rfl (beq_eq_false_iff_ne.2 c12) ?_
   refine T.skip ?_
   obtain rfl := Option.some.inj ht10
   exact ⟨_, Gst.trans (Gst.only [1, 2, 6, 7, 8, 9] rfl) (Gst.pick [0, 2, 3, 1] rfl rfl), _, rfl, rfl⟩
 refine T.condT rfl (beq_iff_eq.2 c12) ?_
 refine T.seq ?_
 refine T.region ?_
 refine TL.op1 (OpR.loadPtr 4 rfl rfl rfl rfl) rfl ?_
 refine TL.op1 (OpR.pure rfl) rfl ?_
 obtain ⟨x13, hx13, ht10⟩ := bnd_some ht10
 refine TL.op1 (OpR.call0 fn60 (row_Row_Delete_c hx13) rfl) rfl ?_
 refine TL.op1 (OpR.pure rfl) rfl ?_
 refine TL.op1 (OpR.pure rfl) rfl ?_
 refine TL.op1 (OpR.pure rfl) rfl ?_
 refine TL.op (OpR.alloc rfl rfl (fun _ => rfl)) rfl (fun p14 => ?_)
 refine TL.op0 (OpR.store 5 rfl rfl rfl rfl rfl rfl rfl rfl) ?_
 refine TL.op1 (OpR.pure rfl) rfl ?_
 refine TL.nil ?_
 show T X _ _ _
 refine T.seq ?_
 obtain ⟨t15, ht15, ht10⟩ := bnd_some ht10
 refine T.cutC (fun S' => S' = ⟨[(64, .val (.bool t15)), (9, .val (.pointer (some ⟨(blk p6), 0, none⟩))), (8, .val (.pointer (some ⟨(blk p5), 0, none⟩))), (7, .val (.pointer (some ⟨(blk (vn w2 0)), 0, none⟩))), (6, .val (.bool false)), (2, .val (.int .i64 a2)), (1, .val (.int .i64 a1))], [.var (blk (vn w2 0)) [.val (vn w2 1)] 142, .var (blk p5) [.sl 5 (List.map e_cell_Cell x1.1.fCells), .val (.int .i64 x1.1.fEnd), .val (.bool x1.1.fHidden)] 49, .var (blk p6) [.sl 3 (List.map e_ref07_Cell x1.2.1.fCells), .val (.int .i64 x1.2.1.fEnd), .val (.bool x1.2.1.fHidden)] 57, .row (vn w2 1) (List.map byteD x1.2.2.2) 1 5], 98⟩) (fun _ h => h) ?_ ?_
 rotate_left
 · rintro _ rfl
   show T X _ _ _
   rcases ite_some ht10 with ⟨c22, ht10⟩ | ⟨c22, ht10⟩
   rotate_left
   · refine T.condF rfl (eq_false_of_ne_true c22) ?_
     refine T.skip ?_
     obtain rfl := Option.some.inj ht10
     exact ⟨_, Gst.only [1, 2, 6, 7, 8, 9] rfl, _, rfl, rfl⟩
   refine T.condT rfl (c22) ?_
   refine T.seq ?_
   refine T.region ?_
   refine TL.op1 (OpR.pure rfl) rfl ?_
   refine TL.nil ?_
   show T X _ _ _
   refine T.ret ?_
   obtain rfl := Option.some.inj ht10
   obtain rfl := Option.some.inj h0
   exact PostG.retP (ks := []) (Gst.trans (Gst.only [6] rfl) (Gst.pick [] rfl rfl)) undef (ResL.cons (ResV.tmp rfl) ResL.nil) rfl rfl rfl rfl
 rcases ite_some ht15 with ⟨c17, ht15⟩ | ⟨c17, ht15⟩
 rotate_left
 · refine T.drawQ drawsX [.val (.int .i64 x13.2), .val (.bool (!(x13.2 == 0))), .val (.bool (!(x13.2 == 0))), .tup [], .tup [], .tup [], .tup [], .tup [], .val (.bool true), .val (.bool true), .tup [], .tup [], .tup [], .tup [], .tup [], .tup [], .val (.bool true)] [0, 1, 2, 6, 7, 8, 9, 10, 11, 12, 13, 14, 19, 20, 21, 22, 23, 24, 25, 26, 27, 33, 34, 35, 36, 37, 38, 39, 40, 41, 42, 43, 44, 45, 46, 47, 48, 49, 50, 51, 52, 53, 54, 55, 56, 57, 58, 59, 60, 61, 62, 63, 64] (by decide +kernel) rfl ?_ rfl ?_
   rotate_left
   · obtain rfl := Option.some.inj ht15
     exact ⟨_, Gst.trans (Gst.only [1, 2, 6, 7, 8, 9, 64] rfl) (Gst.pick [0, 2, 3, 1] rfl rfl), rfl⟩
   refine OpsQ.yes (Want.plain rfl) rfl (OpR.pure rfl) ?_
   refine OpsQ.yes (Want.plain rfl) rfl (OpR.pure rfl) ?_
   refine OpsQ.yes (Want.plain rfl) rfl (OpR.pure rfl) ?_
   refine OpsQ.no (Want.bool rfl rfl rfl rfl (by rw [(not_f (beq_eq_false_iff_ne.2 c17))]; rfl)) rfl ?_
   refine OpsQ.no (Want.bool rfl rfl rfl rfl (by rw [(not_f (beq_eq_false_iff_ne.2 c17))]; rfl)) rfl ?_
   refine OpsQ.no (Want.bool rfl rfl rfl rfl (by rw [(not_f (beq_eq_false_iff_ne.2 c17))]; rfl)) rfl ?_
   refine OpsQ.no (Want.bool rfl rfl rfl rfl (by rw [(not_f (beq_eq_false_iff_ne.2 c17))]; rfl)) rfl ?_
   refine OpsQ.no (Want.bool rfl rfl rfl rfl (by rw [(not_f (beq_eq_false_iff_ne.2 c17))]; rfl)) rfl ?_
   refine OpsQ.yes (Want.plain rfl) rfl (OpR.pickT rfl (not_f (beq_eq_false_iff_ne.2 c17)) rfl) ?_
   refine OpsQ.yes (Want.plain rfl) rfl (OpR.pure rfl) ?_
   refine OpsQ.no (Want.bool rfl rfl rfl rfl rfl) rfl ?_
   refine OpsQ.no (Want.bool rfl rfl rfl rfl rfl) rfl ?_
   refine OpsQ.no (Want.bool rfl rfl rfl rfl rfl) rfl ?_
   refine OpsQ.no (Want.bool rfl rfl rfl rfl rfl) rfl ?_
   refine OpsQ.no (Want.bool rfl rfl rfl rfl rfl) rfl ?_
   refine OpsQ.no (Want.bool rfl rfl rfl rfl rfl) rfl ?_
   refine OpsQ.yes (Want.plain rfl) rfl (OpR.pickT rfl rfl rfl) ?_
   exact OpsQ.nil
 obtain ⟨x18, hx18, ht15⟩ := bnd_some ht15
 rcases ite_some ht15 with ⟨c19, ht15⟩ | ⟨c19, ht15⟩
 rotate_left
 · refine T.drawQ drawsX [.val (.int .i64 x13.2), .val (.bool (!(x13.2 == 0))), .val (.bool (!(x13.2 == 0))), .val (.pointer (some ⟨(blk (vn w2 0)), 0, none⟩)), .agg [.sl 5 (List.map e_cell_Cell x1.1.fCells), .val (.int .i64 x1.1.fEnd), .val (.bool x1.1.fHidden)], .agg [.sl 5 (List.map e_cell_Cell x13.1.fCells), .val (.int .i64 x13.1.fEnd), .val (.bool x13.1.fHidden)], .val (.bool x18), .val (.bool (!x18)), .val (.bool (!x18)), .val (.bool (!x18)), .tup [], .tup [], .tup [], .tup [], .tup [], .tup [], .val (.bool true)] [0, 1, 2, 6, 7, 8, 9, 10, 11, 12, 13, 14, 19, 20, 21, 22, 23, 24, 25, 26, 27, 33, 34, 35, 36, 37, 38, 39, 40, 41, 42, 43, 44, 45, 46, 47, 48, 49, 50, 51, 52, 53, 54, 55, 56, 57, 58, 59, 60, 61, 62, 63, 64] (by decide +kernel) rfl ?_ rfl ?_
   rotate_left
   · obtain rfl := Option.some.inj ht15
     exact ⟨_, Gst.trans (Gst.only [1, 2, 6, 7, 8, 9, 64] rfl) (Gst.pick [0, 2, 3, 1] rfl rfl), rfl⟩
   refine OpsQ.yes (Want.plain rfl) rfl (OpR.pure rfl) ?_
   refine OpsQ.yes (Want.plain rfl) rfl (OpR.pure rfl) ?_
   refine OpsQ.yes (Want.plain rfl) rfl (OpR.pure rfl) ?_
   refine OpsQ.yes (Want.bool rfl rfl rfl rfl (by rw [(not_t (beq_iff_eq.2 c17))]; rfl)) rfl (OpR.pure rfl) ?_
   refine OpsQ.yes (Want.bool rfl rfl rfl rfl (by rw [(not_t (beq_iff_eq.2 c17))]; rfl)) rfl (OpR.loadPtr 2 rfl rfl rfl rfl) ?_
   refine OpsQ.yes (Want.bool rfl rfl rfl rfl (by rw [(not_t (beq_iff_eq.2 c17))]; rfl)) rfl (OpR.loadPtr 5 rfl rfl rfl rfl) ?_
   refine OpsQ.yes (Want.bool rfl rfl rfl rfl (by rw [(not_t (beq_iff_eq.2 c17))]; rfl)) rfl (OpR.call [0, 1] fn39 (row_Same_c hx18) rfl rfl rfl (fun _ => rfl)) ?_
   refine OpsQ.yes (Want.bool rfl rfl rfl rfl (by rw [(not_t (beq_iff_eq.2 c17))]; rfl)) rfl (OpR.pure rfl) ?_
   refine OpsQ.yes (Want.plain rfl) rfl (OpR.pickF rfl (not_t (beq_iff_eq.2 c17)) rfl) ?_
   refine OpsQ.yes (Want.plain rfl) rfl (OpR.pure rfl) ?_
   refine OpsQ.no (Want.bool rfl rfl rfl rfl (by rw [(not_f (eq_false_of_ne_true c19))]; rfl)) rfl ?_
   refine OpsQ.no (Want.bool rfl rfl rfl rfl (by rw [(not_f (eq_false_of_ne_true c19))]; rfl)) rfl ?_
   refine OpsQ.no (Want.bool rfl rfl rfl rfl (by rw [(not_f (eq_false_of_ne_true c19))]; rfl)) rfl ?_
   refine OpsQ.no (Want.bool rfl rfl rfl rfl (by rw [(not_f (eq_false_of_ne_true c19))]; rfl)) rfl ?_
   refine OpsQ.no (Want.bool rfl rfl rfl rfl (by rw [(not_f (eq_false_of_ne_true c19))]; rfl)) rfl ?_
   refine OpsQ.no (Want.bool rfl rfl rfl rfl (by rw [(not_f (eq_false_of_ne_true c19))]; rfl)) rfl ?_
   refine OpsQ.yes (Want.plain rfl) rfl (OpR.pickT rfl (not_f (eq_false_of_ne_true c19)) rfl) ?_
   exact OpsQ.nil
 obtain ⟨x20, hx20, ht15⟩ := bnd_some ht15
 obtain ⟨x21, hx21, ht15⟩ := bnd_some ht15
 refine T.drawQ drawsX [.val (.int .i64 x13.2), .val (.bool (!(x13.2 == 0))), .val (.bool (!(x13.2 == 0))), .val (.pointer (some ⟨(blk (vn w2 0)), 0, none⟩)), .agg [.sl 5 (List.map e_cell_Cell x1.1.fCells), .val (.int .i64 x1.1.fEnd), .val (.bool x1.1.fHidden)], .agg [.sl 5 (List.map e_cell_Cell x13.1.fCells), .val (.int .i64 x13.1.fEnd), .val (.bool x13.1.fHidden)], .val (.bool x18), .val (.bool (!x18)), .val (.bool (!x18)), .val (.bool (!x18)), .agg [.sl 5 (List.map e_cell_Cell x8.1.fCells), .val (.int .i64 x8.1.fEnd), .val (.bool x8.1.fHidden)], .val (.int .i64 x20), .agg [.sl 5 (List.map e_cell_Cell x1.1.fCells), .val (.int .i64 x1.1.fEnd), .val (.bool x1.1.fHidden)], .val (.int .i64 x21), .val (.int .i64 (w64 (x21 + 1))), .val (.bool (!(x20 == (w64 (x21 + 1))))), .val (.bool (!(x20 == (w64 (x21 + 1)))))] [0, 1, 2, 6, 7, 8, 9, 10, 11, 12, 13, 14, 19, 20, 21, 22, 23, 24, 25, 26, 27, 33, 34, 35, 36, 37, 38, 39, 40, 41, 42, 43, 44, 45, 46, 47, 48, 49, 50, 51, 52, 53, 54, 55, 56, 57, 58, 59, 60, 61, 62, 63, 64] (by decide +kernel) rfl ?_ rfl ?_
 rotate_left
 · obtain rfl := Option.some.inj ht15
   exact ⟨_, Gst.trans (Gst.only [1, 2, 6, 7, 8, 9, 64] rfl) (Gst.pick [0, 2, 3, 1] rfl rfl), rfl⟩
 refine OpsQ.yes (Want.plain rfl) rfl (OpR.pure rfl) ?_
 refine OpsQ.yes (Want.plain rfl) rfl (OpR.pure rfl) ?_
 refine OpsQ.yes (Want.plain rfl) rfl (OpR.pure rfl) ?_
 refine OpsQ.yes (Want.bool rfl rfl rfl rfl (by rw [(not_t (beq_iff_eq.2 c17))]; rfl)) rfl (OpR.pure rfl) ?_
 refine OpsQ.yes (Want.bool rfl rfl rfl rfl (by rw [(not_t (beq_iff_eq.2 c17))]; rfl)) rfl (OpR.loadPtr 2 rfl rfl rfl rfl) ?_
 refine OpsQ.yes (Want.bool rfl rfl rfl rfl (by rw [(not_t (beq_iff_eq.2 c17))]; rfl)) rfl (OpR.loadPtr 5 rfl rfl rfl rfl) ?_
 refine OpsQ.yes (Want.bool rfl rfl rfl rfl (by rw [(not_t (beq_iff_eq.2 c17))]; rfl)) rfl (OpR.call [0, 1] fn39 (row_Same_c hx18) rfl rfl rfl (fun _ => rfl)) ?_
 refine OpsQ.yes (Want.bool rfl rfl rfl rfl (by rw [(not_t (beq_iff_eq.2 c17))]; rfl)) rfl (OpR.pure rfl) ?_
 refine OpsQ.yes (Want.plain rfl) rfl (OpR.pickF rfl (not_t (beq_iff_eq.2 c17)) rfl) ?_
 refine OpsQ.yes (Want.plain rfl) rfl (OpR.pure rfl) ?_
 refine OpsQ.yes (Want.bool rfl rfl rfl rfl (by rw [(not_t (c19))]; rfl)) rfl (OpR.loadPtr 4 rfl rfl rfl rfl) ?_
 refine OpsQ.yes (Want.bool rfl rfl rfl rfl (by rw [(not_t (c19))]; rfl)) rfl (OpR.call0 fn52 (row_Row_Len_c hx20) rfl) ?_
 refine OpsQ.yes (Want.bool rfl rfl rfl rfl (by rw [(not_t (c19))]; rfl)) rfl (OpR.loadPtr 2 rfl rfl rfl rfl) ?_
 refine OpsQ.yes (Want.bool rfl rfl rfl rfl (by rw [(not_t (c19))]; rfl)) rfl (OpR.call0 fn52 (row_Row_Len_c hx21) rfl) ?_
 refine OpsQ.yes (Want.bool rfl rfl rfl rfl (by rw [(not_t (c19))]; rfl)) rfl (OpR.pure rfl) ?_
 refine OpsQ.yes (Want.bool rfl rfl rfl rfl (by rw [(not_t (c19))]; rfl)) rfl (OpR.pure rfl) ?_
 refine OpsQ.yes (Want.plain rfl) rfl (OpR.pickF rfl (not_t (c19)) rfl) ?_
 exact OpsQ.nil
end Go.Proofs.Ytbcbggdgkdfciaa.S
