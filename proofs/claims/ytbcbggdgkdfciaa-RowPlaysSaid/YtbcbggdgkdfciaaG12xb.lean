/- Printed by a program of this session's own (gen.py): Lean functions for Go functions, and the proofs that the Go code comes to their answers. -/
import Derived.Test.YtbcbggdgkdfciaaG12xa
import Derived.Test.YtbcbggdgkdfciaaG11xa
import Derived.Test.YtbcbggdgkdfciaaG1xb
import Derived.Test.YtbcbggdgkdfciaaG1xa
set_option linter.unusedVariables false
set_option linter.unusedSimpArgs false
set_option maxRecDepth 20000
namespace Go.Proofs.Ytbcbggdgkdfciaa.S
open Go Go.Sm
attribute [local irreducible] T TL OpR CallT iter loop
noncomputable def law08_RowPlays.l1 (a1 : List law08_Op) (s12 : Bool × Int × (List cell_Cell) × Int × Bool × (List ref07_Cell) × Int × Bool × (List UInt8)) : Option (Lp (Bool × Int × (List cell_Cell) × Int × Bool × (List ref07_Cell) × Int × Bool × (List UInt8)) (Ex ((List cell_Cell) × Int × Bool × (List ref07_Cell) × Int × Bool × (List UInt8)) Bool)) :=
  if s12.2.1 < (a1.length : Int) then
    bnd (idx a1 s12.2.1) fun x21 =>
    if s12.2.1 ≥ 40 then
      some (Lp.done (Ex.brk (s12.2.2.1, s12.2.2.2.1, s12.2.2.2.2.1, s12.2.2.2.2.2.1, s12.2.2.2.2.2.2.1, s12.2.2.2.2.2.2.2.1, s12.2.2.2.2.2.2.2.2)))
    else
      bnd (law08_step (⟨s12.2.2.1, s12.2.2.2.1, s12.2.2.2.2.1⟩ : row_Row) (⟨s12.2.2.2.2.2.1, s12.2.2.2.2.2.2.1, s12.2.2.2.2.2.2.2.1⟩ : ref08_Row) x21 s12.2.2.2.2.2.2.2.2) fun x24 =>
      if x24.2.2.1 = true then
        bnd (bnd (law08_Plain x24.1 x24.2.2.2) fun x29 =>
        bnd (ref08_Same x29 x24.2.1) fun x30 =>
        if x30 = true then
          bnd (row_Row_Print x24.1 x24.2.2.2) fun x32 =>
          bnd (ref08_Print x24.2.1) fun x33 =>
          if x32 = x33 then
            bnd (row_Row_Len x24.1) fun x35 =>
            some (!(x35 == (x24.2.1.fCells.length : Int)))
          else
            some true
        else
          some true : Option Bool) fun t27 =>
        if t27 = true then
          some (Lp.done (Ex.ret false))
        else
          some (Lp.next (x24.2.2.1, w64 (s12.2.1 + 1), x24.1.fCells, x24.1.fEnd, x24.1.fHidden, x24.2.1.fCells, x24.2.1.fEnd, x24.2.1.fHidden, x24.2.2.2))
      else
        some (Lp.done (Ex.ret false))
  else
    some (Lp.done (Ex.brk (s12.2.2.1, s12.2.2.2.1, s12.2.2.2.2.1, s12.2.2.2.2.2.1, s12.2.2.2.2.2.2.1, s12.2.2.2.2.2.2.2.1, s12.2.2.2.2.2.2.2.2)))
noncomputable def law08_RowPlays (a0 : List UInt8) (a1 : List law08_Op) (a2 : Int) : Option Bool :=
  bnd (law08_begun a0) fun x1 =>
  match x1 with
  | .inl x1 =>
      some false
  | .inr x1 =>
      if x1.2.2.1 = true then
        bnd (loop (law08_RowPlays.l1 a1) (x1.2.2.1, 0, x1.1.fCells, x1.1.fEnd, x1.1.fHidden, x1.2.1.fCells, x1.2.1.fEnd, x1.2.1.fHidden, x1.2.2.2) : Option (Ex ((List cell_Cell) × Int × Bool × (List ref07_Cell) × Int × Bool × (List UInt8)) Bool)) fun t8 => match t8 with
          | .brk u9 =>
            bnd (row_Row_At (⟨u9.1, u9.2.1, u9.2.2.1⟩ : row_Row) a2) fun x37 =>
            bnd (if a2 ≥ 0 then
              some (!(x37.2 == (decide (a2 < (u9.2.2.2.1.length : Int)))))
            else
              some (!(x37.2 == false)) : Option Bool) fun t39 =>
            if t39 = true then
              some false
            else
              bnd (if x37.2 = true then
                bnd (law07_Plain x37.1 u9.2.2.2.2.2.2) fun x45 =>
                bnd (idx u9.2.2.2.1 a2) fun x46 =>
                if x45 = x46 then
                  bnd (law08_awake) fun x48 =>
                  some x48
                else
                  some false
              else
                bnd (law07_Plain x37.1 u9.2.2.2.2.2.2) fun x49 =>
                if x49 = (⟨[], [], false⟩ : ref07_Cell) then
                  bnd (law08_awake) fun x51 =>
                  some x51
                else
                  some false : Option Bool) fun t42 =>
              some t42
          | .ret u9 => some u9
      else
        bnd (law08_awake) fun x52 =>
        some x52
set_option maxHeartbeats 4000000 in
theorem law08_RowPlays_c {a0 : List UInt8} {a1 : List law08_Op} {a2 : Int} {res : Bool} (h0 : law08_RowPlays a0 a1 a2 = some res) : CallF X 8 [.val (.string (bs a0)), .sl 5 (List.map e_law08_Op a1), .val (.int .i64 a2)] [] (fun x => .val (.bool res)) (fun x => []) := by
 unfold law08_RowPlays at h0
 refine CallF.mkG (X := X) Try.func8 rfl rfl Try.ntmps8 rfl rfl ?_
 refine T.seq ?_
 refine T.region ?_
 refine TL.op1 (OpR.pure rfl) rfl ?_
 refine TL.nil ?_
 show T X _ _ _
 refine T.seq ?_
 refine T.region ?_
 refine TL.op1 (OpR.pure rfl) rfl ?_
 obtain ⟨x1, hx1, h0⟩ := bnd_some h0
 rcases x1 with x1 | x1
 · dsimp only at h0
   refine TL.op1 (OpR.call0 fn49 (law08_begun_cx1 hx1) rfl) rfl ?_
   refine TL.op1 (OpR.pure rfl) rfl ?_
   refine TL.op1 (OpR.pure rfl) rfl ?_
   refine TL.op1 (OpR.pure rfl) rfl ?_
   refine TL.op1 (OpR.pure rfl) rfl ?_
   refine TL.op1 (OpR.pure rfl) rfl ?_
   refine TL.op (OpR.alloc rfl rfl (fun _ => rfl)) rfl (fun p3 => ?_)
   refine TL.op (OpR.alloc rfl rfl (fun _ => rfl)) rfl (fun p4 => ?_)
   refine TL.op1 (OpR.pure rfl) rfl ?_
   refine TL.op0 (OpR.store 0 rfl rfl rfl rfl rfl rfl rfl rfl) ?_
   refine TL.op0 (OpR.store 1 rfl rfl rfl rfl rfl rfl rfl rfl) ?_
   refine TL.op1 (OpR.pure rfl) rfl ?_
   refine TL.nil ?_
   show T X _ _ _
   refine T.seq ?_
   refine T.seq ?_
   refine T.region ?_
   refine TL.op1 (OpR.pure rfl) rfl ?_
   refine TL.op1 (OpR.pure rfl) rfl ?_
   refine TL.nil ?_
   show T X _ _ _
   refine T.condT rfl rfl ?_
   refine T.seq ?_
   refine T.region ?_
   refine TL.op1 (OpR.pure rfl) rfl ?_
   refine TL.op1 (OpR.ptrNe rfl rfl rfl) rfl ?_
   refine TL.op1 (OpR.pure rfl) rfl ?_
   refine TL.off rfl rfl rfl rfl rfl rfl rfl ?_
   refine TL.op1 (OpR.pickF rfl rfl rfl) rfl ?_
   refine TL.op1 (OpR.pure rfl) rfl ?_
   refine TL.nil ?_
   show T X _ _ _
   refine T.ret ?_
   obtain rfl := Option.some.inj h0
   exact PostG.retP (ks := []) (Gst.trans (Gst.only [6] rfl) (Gst.pick [] rfl rfl)) undef (ResL.cons (ResV.tmp rfl) ResL.nil) rfl rfl rfl rfl
 dsimp only at h0
 refine TL.op (OpR.call [] fn49 (law08_begun_cx2 hx1) rfl rfl rfl (fun _ => rfl)) rfl (fun w2 => ?_)
 refine TL.op1 (OpR.pure rfl) rfl ?_
 refine TL.op1 (OpR.pure rfl) rfl ?_
 refine TL.op1 (OpR.pure rfl) rfl ?_
 refine TL.op1 (OpR.pure rfl) rfl ?_
 refine TL.op1 (OpR.pure rfl) rfl ?_
 refine TL.op (OpR.alloc rfl rfl (fun _ => rfl)) rfl (fun p5 => ?_)
 refine TL.op (OpR.alloc rfl rfl (fun _ => rfl)) rfl (fun p6 => ?_)
 refine TL.op1 (OpR.pure rfl) rfl ?_
 refine TL.op0 (OpR.store 2 rfl rfl rfl rfl rfl rfl rfl rfl) ?_
 refine TL.op0 (OpR.store 3 rfl rfl rfl rfl rfl rfl rfl rfl) ?_
 refine TL.op1 (OpR.pure rfl) rfl ?_
 refine TL.nil ?_
 show T X _ _ _
 refine T.seq ?_
 refine T.seq ?_
 refine T.region ?_
 refine TL.op1 (OpR.pure rfl) rfl ?_
 refine TL.op1 (OpR.pure rfl) rfl ?_
 refine TL.nil ?_
 show T X _ _ _
 rcases ite_some h0 with ⟨c7, h0⟩ | ⟨c7, h0⟩
 rotate_left
 · refine T.condT rfl (not_f (eq_false_of_ne_true c7)) ?_
   refine T.seq ?_
   refine T.region ?_
   refine TL.op1 (OpR.pure rfl) rfl ?_
   refine TL.op1 (OpR.ptrNe rfl rfl rfl) rfl ?_
   refine TL.op1 (OpR.pure rfl) rfl ?_
   refine TL.on rfl rfl rfl rfl rfl ?_
   obtain ⟨x52, hx52, h0⟩ := bnd_some h0
   refine TL.op1 (OpR.call0 fn35 (law08_awake_c hx52) rfl) rfl ?_
   refine TL.op1 (OpR.pickT rfl rfl rfl) rfl ?_
   refine TL.op1 (OpR.pure rfl) rfl ?_
   refine TL.nil ?_
   show T X _ _ _
   refine T.ret ?_
   obtain rfl := Option.some.inj h0
   exact PostG.retP (ks := []) (Gst.trans (Gst.only [6] rfl) (Gst.pick [] rfl rfl)) undef (ResL.cons (ResV.tmp rfl) ResL.nil) rfl rfl rfl rfl
 refine T.condF rfl (not_t (c7)) ?_
 refine T.skip ?_
 show T X _ _ _
 refine T.seq ?_
 refine T.seq ?_
 refine T.region ?_
 refine TL.op1 (OpR.pure rfl) rfl ?_
 refine TL.op1 (OpR.cast (OpR.pure rfl) (intE (lenM _ _))) rfl ?_
 refine TL.op1 (OpR.pure rfl) rfl ?_
 refine TL.nil ?_
 show T X _ _ _
 obtain ⟨t8, ht8, h0⟩ := bnd_some h0
 refine T.cutC (fun S' => ∃ u9, t8 = Ex.brk u9 ∧ ∃ y10 : Value, S' = ⟨[(9, .val (.pointer (some ⟨(blk p6), 0, none⟩))), (8, .val (.pointer (some ⟨(blk p5), 0, none⟩))), (7, .val (.pointer (some ⟨(blk (vn w2 0)), 0, none⟩))), (6, .val (.bool false)), (2, .val (.int .i64 a2))], [.var (blk (vn w2 0)) [.val y10] 142, .var (blk p5) [.sl 5 (List.map e_cell_Cell u9.1), .val (.int .i64 u9.2.1), .val (.bool u9.2.2.1)] 49, .var (blk p6) [.sl 3 (List.map e_ref07_Cell u9.2.2.2.1), .val (.int .i64 u9.2.2.2.2.1), .val (.bool u9.2.2.2.2.2.1)] 57, .row y10 (List.map byteD u9.2.2.2.2.2.2) 1 5], 116⟩) (fun _ h => h) ?_ ?_
 · refine T.block ?_
   obtain ⟨n13, n18⟩ := loop_some ht8
   refine T.loop (fun n S' => ∃ S'', Gst S' S'' ∧ ∃ y11 : Value, ∃ s12 : Bool × Int × (List cell_Cell) × Int × Bool × (List ref07_Cell) × Int × Bool × (List UInt8), S'' = ⟨[(31, .val (.int .i64 s12.2.1)), (30, .val (.int .i64 (a1.length : Int))), (29, .sl 5 (List.map e_law08_Op a1)), (10, .val (.bool s12.1)), (9, .val (.pointer (some ⟨(blk p6), 0, none⟩))), (8, .val (.pointer (some ⟨(blk p5), 0, none⟩))), (7, .val (.pointer (some ⟨(blk (vn w2 0)), 0, none⟩))), (6, .val (.bool false)), (2, .val (.int .i64 a2))], [.var (blk (vn w2 0)) [.val y11] 142, .var (blk p5) [.sl 5 (List.map e_cell_Cell s12.2.2.1), .val (.int .i64 s12.2.2.2.1), .val (.bool s12.2.2.2.2.1)] 49, .var (blk p6) [.sl 3 (List.map e_ref07_Cell s12.2.2.2.2.2.1), .val (.int .i64 s12.2.2.2.2.2.2.1), .val (.bool s12.2.2.2.2.2.2.2.1)] 57, .row y11 (List.map byteD s12.2.2.2.2.2.2.2.2) 1 5], 116⟩ ∧ iter (law08_RowPlays.l1 a1) n s12 = some t8) n13 ?_ ?_
   · exact ⟨_, Gst.trans (Gst.only [2, 6, 7, 8, 9, 10, 29, 30, 31] rfl) (Gst.pick [0, 2, 3, 1] rfl rfl), (vn w2 1), (x1.2.2.1, 0, x1.1.fCells, x1.1.fEnd, x1.1.fHidden, x1.2.1.fCells, x1.2.1.fEnd, x1.2.1.fHidden, x1.2.2.2), rfl, n18⟩
   rintro n13 _ ⟨_, g, y11, s12, rfl, i17⟩
   refine T.ghost g ?_
   obtain ⟨m14, q15, rfl, q16, i17⟩ := iter_succ i17
   unfold law08_RowPlays.l1 at q16
   refine T.seq ?_
   refine T.region ?_
   refine TL.op1 (OpR.pure rfl) rfl ?_
   refine TL.nil ?_
   show T X _ _ _
   refine T.seq ?_
   rcases ite_some q16 with ⟨c20, q16⟩ | ⟨c20, q16⟩
   rotate_left
   · refine T.condF rfl (decide_eq_false c20) ?_
     refine T.exit ?_
     obtain rfl := Option.some.inj q16
     obtain rfl : _ = _ := i17
     exact ⟨_, Gst.only [2, 6, 7, 8, 9] rfl, _, rfl, y11, rfl⟩
   refine T.condT rfl (decide_eq_true c20) ?_
   refine T.skip ?_
   show T X _ _ _
   refine T.seq ?_
   refine T.block ?_
   refine T.seq ?_
   refine T.region ?_
   refine TL.op1 (OpR.pure rfl) rfl ?_
   obtain ⟨x21, hx21, q16⟩ := bnd_some q16
   refine TL.op1 (OpR.indexM e_law08_Op hx21 rfl rfl rfl rfl rfl) rfl ?_
   refine TL.op1 (OpR.pure rfl) rfl ?_
   refine TL.op (OpR.alloc rfl rfl (fun _ => rfl)) rfl (fun p22 => ?_)
   refine TL.op1 (OpR.pure rfl) rfl ?_
   refine TL.op0 (OpR.store 4 rfl rfl rfl rfl rfl rfl rfl rfl) ?_
   refine TL.nil ?_
   show T X _ _ _
   refine T.seq ?_
   refine T.seq ?_
   refine T.region ?_
   refine TL.op1 (OpR.pure rfl) rfl ?_
   refine TL.op1 (OpR.pure rfl) rfl ?_
   refine TL.nil ?_
   show T X _ _ _
   rcases ite_some q16 with ⟨c23, q16⟩ | ⟨c23, q16⟩
   · refine T.condT rfl (decide_eq_true c23) ?_
     refine T.exit ?_
     obtain rfl := Option.some.inj q16
     obtain rfl : _ = _ := i17
     exact ⟨_, Gst.trans (Gst.only [2, 6, 7, 8, 9] rfl) (Gst.pick [0, 1, 2, 3] rfl rfl), _, rfl, y11, rfl⟩
   refine T.condF rfl (decide_eq_false c23) ?_
   refine T.skip ?_
   show T X _ _ _
   refine T.seq ?_
   refine T.seq ?_
   refine T.region ?_
   refine TL.op1 (OpR.pure rfl) rfl ?_
   refine TL.op1 (OpR.loadPtr 1 rfl rfl rfl rfl) rfl ?_
   refine TL.op1 (OpR.loadPtr 2 rfl rfl rfl rfl) rfl ?_
   refine TL.op1 (OpR.loadPtr 4 rfl rfl rfl rfl) rfl ?_
   obtain ⟨x24, hx24, q16⟩ := bnd_some q16
   refine TL.op (OpR.call [0, 3] fn50 (law08_step_c hx24) rfl rfl rfl (fun _ => rfl)) rfl (fun w25 => ?_)
   refine TL.op1 (OpR.pure rfl) rfl ?_
   refine TL.op1 (OpR.pure rfl) rfl ?_
   refine TL.op1 (OpR.pure rfl) rfl ?_
   refine TL.op1 (OpR.pure rfl) rfl ?_
   refine TL.op0 (OpR.store 1 rfl rfl rfl rfl rfl rfl rfl rfl) ?_
   refine TL.op0 (OpR.store 2 rfl rfl rfl rfl rfl rfl rfl rfl) ?_
   refine TL.op1 (OpR.pure rfl) rfl ?_
   refine TL.nil ?_
   show T X _ _ _
   refine T.seq ?_
   refine T.region ?_
   refine TL.op1 (OpR.pure rfl) rfl ?_
   refine TL.op1 (OpR.pure rfl) rfl ?_
   refine TL.nil ?_
   show T X _ _ _
   rcases ite_some q16 with ⟨c26, q16⟩ | ⟨c26, q16⟩
   rotate_left
   · refine T.condT rfl (not_f (eq_false_of_ne_true c26)) ?_
     refine T.seq ?_
     refine T.region ?_
     refine TL.op1 (OpR.pure rfl) rfl ?_
     refine TL.nil ?_
     show T X _ _ _
     refine T.ret ?_
     obtain rfl := Option.some.inj q16
     obtain rfl : _ = _ := i17
     obtain rfl := Option.some.inj h0
     exact PostG.retP (ks := []) (Gst.trans (Gst.only [6] rfl) (Gst.pick [] rfl rfl)) undef (ResL.cons (ResV.tmp rfl) ResL.nil) rfl rfl rfl rfl
   refine T.condF rfl (not_t (c26)) ?_
   refine T.skip ?_
   show T X _ _ _
   refine T.seq ?_
   obtain ⟨t27, ht27, q16⟩ := bnd_some q16
   refine T.cutC (fun S' => S' = ⟨[(71, .val (.bool t27)), (31, .val (.int .i64 s12.2.1)), (30, .val (.int .i64 (a1.length : Int))), (29, .sl 5 (List.map e_law08_Op a1)), (10, .val (.bool x24.2.2.1)), (9, .val (.pointer (some ⟨(blk p6), 0, none⟩))), (8, .val (.pointer (some ⟨(blk p5), 0, none⟩))), (7, .val (.pointer (some ⟨(blk (vn w2 0)), 0, none⟩))), (6, .val (.bool false)), (2, .val (.int .i64 a2))], [.var (blk (vn w2 0)) [.val (vn w25 0)] 142, .var (blk p5) [.sl 5 (List.map e_cell_Cell x24.1.fCells), .val (.int .i64 x24.1.fEnd), .val (.bool x24.1.fHidden)] 49, .var (blk p6) [.sl 3 (List.map e_ref07_Cell x24.2.1.fCells), .val (.int .i64 x24.2.1.fEnd), .val (.bool x24.2.1.fHidden)] 57, .row (vn w25 0) (List.map byteD x24.2.2.2) 1 5], 116⟩) (fun _ h => h) ?_ ?_
   rotate_left
   · rintro _ rfl
     show T X _ _ _
     rcases ite_some q16 with ⟨c36, q16⟩ | ⟨c36, q16⟩
     · refine T.condT rfl (c36) ?_
       refine T.seq ?_
       refine T.region ?_
       refine TL.op1 (OpR.pure rfl) rfl ?_
       refine TL.nil ?_
       show T X _ _ _
       refine T.ret ?_
       obtain rfl := Option.some.inj q16
       obtain rfl : _ = _ := i17
       obtain rfl := Option.some.inj h0
       exact PostG.retP (ks := []) (Gst.trans (Gst.only [6] rfl) (Gst.pick [] rfl rfl)) undef (ResL.cons (ResV.tmp rfl) ResL.nil) rfl rfl rfl rfl
     refine T.condF rfl (eq_false_of_ne_true c36) ?_
     refine T.skip ?_
     show T X _ _ _
     refine T.region ?_
     refine TL.op1 (OpR.pure rfl) rfl ?_
     refine TL.op1 (OpR.pure rfl) rfl ?_
     refine TL.nil ?_
     obtain rfl := Option.some.inj q16
     exact ⟨m14, Nat.lt_succ_self _, _, Gst.only [2, 6, 7, 8, 9, 10, 29, 30, 31] rfl, (vn w25 0), (x24.2.2.1, w64 (s12.2.1 + 1), x24.1.fCells, x24.1.fEnd, x24.1.fHidden, x24.2.1.fCells, x24.2.1.fEnd, x24.2.1.fHidden, x24.2.2.2), rfl, i17⟩
   obtain ⟨x29, hx29, ht27⟩ := bnd_some ht27
   obtain ⟨x30, hx30, ht27⟩ := bnd_some ht27
   rcases ite_some ht27 with ⟨c31, ht27⟩ | ⟨c31, ht27⟩
   rotate_left
   · refine T.drawQ drawsX [.val (.pointer (some ⟨(blk (vn w2 0)), 0, none⟩)), .agg [.sl 5 (List.map e_cell_Cell x24.1.fCells), .val (.int .i64 x24.1.fEnd), .val (.bool x24.1.fHidden)], .agg [.sl 3 (List.map e_ref07_Cell x29.fCells), .val (.int .i64 x29.fEnd), .val (.bool x29.fHidden)], .agg [.sl 3 (List.map e_ref07_Cell x24.2.1.fCells), .val (.int .i64 x24.2.1.fEnd), .val (.bool x24.2.1.fHidden)], .val (.bool x30), .val (.bool (!x30)), .val (.bool (!x30)), .tup [], .tup [], .tup [], .tup [], .tup [], .tup [], .tup [], .val (.bool true), .val (.bool true), .tup [], .tup [], .tup [], .tup [], .tup [], .tup [], .val (.bool true)] [2, 6, 7, 8, 9, 10, 11, 12, 29, 30, 31, 32, 33, 34, 35, 36, 37, 38, 39, 40, 41, 42, 43, 44, 45, 46, 47, 48, 49, 50, 51, 52, 53, 54, 55, 56, 57, 58, 59, 60, 61, 62, 63, 64, 65, 66, 67, 68, 69, 70, 71] (by decide +kernel) rfl ?_ rfl ?_
     rotate_left
     · obtain rfl := Option.some.inj ht27
       exact ⟨_, Gst.trans (Gst.only [2, 6, 7, 8, 9, 10, 29, 30, 31, 71] rfl) (Gst.pick [0, 1, 2, 3] rfl rfl), rfl⟩
     refine OpsQ.yes (Want.plain rfl) rfl (OpR.pure rfl) ?_
     refine OpsQ.yes (Want.plain rfl) rfl (OpR.loadPtr 1 rfl rfl rfl rfl) ?_
     refine OpsQ.yes (Want.plain rfl) rfl (OpR.call [0, 3] fn31 (law08_Plain_c hx29) rfl rfl rfl (fun _ => rfl)) ?_
     refine OpsQ.yes (Want.plain rfl) rfl (OpR.loadPtr 2 rfl rfl rfl rfl) ?_
     refine OpsQ.yes (Want.plain rfl) rfl (OpR.call0 fn30 (ref08_Same_c hx30) rfl) ?_
     refine OpsQ.yes (Want.plain rfl) rfl (OpR.pure rfl) ?_
     refine OpsQ.yes (Want.plain rfl) rfl (OpR.pure rfl) ?_
     refine OpsQ.no (Want.bool rfl rfl rfl rfl (by rw [(not_f (eq_false_of_ne_true c31))]; rfl)) rfl ?_
     refine OpsQ.no (Want.bool rfl rfl rfl rfl (by rw [(not_f (eq_false_of_ne_true c31))]; rfl)) rfl ?_
     refine OpsQ.no (Want.bool rfl rfl rfl rfl (by rw [(not_f (eq_false_of_ne_true c31))]; rfl)) rfl ?_
     refine OpsQ.no (Want.bool rfl rfl rfl rfl (by rw [(not_f (eq_false_of_ne_true c31))]; rfl)) rfl ?_
     refine OpsQ.no (Want.bool rfl rfl rfl rfl (by rw [(not_f (eq_false_of_ne_true c31))]; rfl)) rfl ?_
     refine OpsQ.no (Want.bool rfl rfl rfl rfl (by rw [(not_f (eq_false_of_ne_true c31))]; rfl)) rfl ?_
     refine OpsQ.no (Want.bool rfl rfl rfl rfl (by rw [(not_f (eq_false_of_ne_true c31))]; rfl)) rfl ?_
     refine OpsQ.yes (Want.plain rfl) rfl (OpR.pickT rfl (not_f (eq_false_of_ne_true c31)) rfl) ?_
     refine OpsQ.yes (Want.plain rfl) rfl (OpR.pure rfl) ?_
     refine OpsQ.no (Want.bool rfl rfl rfl rfl rfl) rfl ?_
     refine OpsQ.no (Want.bool rfl rfl rfl rfl rfl) rfl ?_
     refine OpsQ.no (Want.bool rfl rfl rfl rfl rfl) rfl ?_
     refine OpsQ.no (Want.bool rfl rfl rfl rfl rfl) rfl ?_
     refine OpsQ.no (Want.bool rfl rfl rfl rfl rfl) rfl ?_
     refine OpsQ.no (Want.bool rfl rfl rfl rfl rfl) rfl ?_
     refine OpsQ.yes (Want.plain rfl) rfl (OpR.pickT rfl rfl rfl) ?_
     exact OpsQ.nil
   obtain ⟨x32, hx32, ht27⟩ := bnd_some ht27
   obtain ⟨x33, hx33, ht27⟩ := bnd_some ht27
   rcases ite_some ht27 with ⟨c34, ht27⟩ | ⟨c34, ht27⟩
   rotate_left
   · refine T.drawQ drawsX [.val (.pointer (some ⟨(blk (vn w2 0)), 0, none⟩)), .agg [.sl 5 (List.map e_cell_Cell x24.1.fCells), .val (.int .i64 x24.1.fEnd), .val (.bool x24.1.fHidden)], .agg [.sl 3 (List.map e_ref07_Cell x29.fCells), .val (.int .i64 x29.fEnd), .val (.bool x29.fHidden)], .agg [.sl 3 (List.map e_ref07_Cell x24.2.1.fCells), .val (.int .i64 x24.2.1.fEnd), .val (.bool x24.2.1.fHidden)], .val (.bool x30), .val (.bool (!x30)), .val (.bool (!x30)), .agg [.sl 5 (List.map e_cell_Cell x24.1.fCells), .val (.int .i64 x24.1.fEnd), .val (.bool x24.1.fHidden)], .val (.pointer (some ⟨(blk (vn w2 0)), 0, none⟩)), .sl 1 (List.map byteD x32), .val (.string (bs x32)), .agg [.sl 3 (List.map e_ref07_Cell x24.2.1.fCells), .val (.int .i64 x24.2.1.fEnd), .val (.bool x24.2.1.fHidden)], .val (.string (bs x33)), .val (.bool (!(x32 == x33))), .val (.bool (!(x32 == x33))), .val (.bool (!(x32 == x33))), .tup [], .tup [], .tup [], .tup [], .tup [], .tup [], .val (.bool true)] [2, 6, 7, 8, 9, 10, 11, 12, 29, 30, 31, 32, 33, 34, 35, 36, 37, 38, 39, 40, 41, 42, 43, 44, 45, 46, 47, 48, 49, 50, 51, 52, 53, 54, 55, 56, 57, 58, 59, 60, 61, 62, 63, 64, 65, 66, 67, 68, 69, 70, 71] (by decide +kernel) rfl ?_ rfl ?_
     rotate_left
     · obtain rfl := Option.some.inj ht27
       exact ⟨_, Gst.trans (Gst.only [2, 6, 7, 8, 9, 10, 29, 30, 31, 71] rfl) (Gst.pick [0, 1, 2, 3] rfl rfl), rfl⟩
     refine OpsQ.yes (Want.plain rfl) rfl (OpR.pure rfl) ?_
     refine OpsQ.yes (Want.plain rfl) rfl (OpR.loadPtr 1 rfl rfl rfl rfl) ?_
     refine OpsQ.yes (Want.plain rfl) rfl (OpR.call [0, 3] fn31 (law08_Plain_c hx29) rfl rfl rfl (fun _ => rfl)) ?_
     refine OpsQ.yes (Want.plain rfl) rfl (OpR.loadPtr 2 rfl rfl rfl rfl) ?_
     refine OpsQ.yes (Want.plain rfl) rfl (OpR.call0 fn30 (ref08_Same_c hx30) rfl) ?_
     refine OpsQ.yes (Want.plain rfl) rfl (OpR.pure rfl) ?_
     refine OpsQ.yes (Want.plain rfl) rfl (OpR.pure rfl) ?_
     refine OpsQ.yes (Want.bool rfl rfl rfl rfl (by rw [(not_t (c31))]; rfl)) rfl (OpR.loadPtr 1 rfl rfl rfl rfl) ?_
     refine OpsQ.yes (Want.bool rfl rfl rfl rfl (by rw [(not_t (c31))]; rfl)) rfl (OpR.pure rfl) ?_
     refine OpsQ.yes (Want.bool rfl rfl rfl rfl (by rw [(not_t (c31))]; rfl)) rfl (OpR.call [0, 3] fn33 (row_Row_Print_c hx32) rfl rfl rfl (fun _ => rfl)) ?_
     refine OpsQ.yes (Want.bool rfl rfl rfl rfl (by rw [(not_t (c31))]; rfl)) rfl (OpR.toStr (bs := x32) rfl rfl rfl rfl rfl rfl rfl) ?_
     refine OpsQ.yes (Want.bool rfl rfl rfl rfl (by rw [(not_t (c31))]; rfl)) rfl (OpR.loadPtr 2 rfl rfl rfl rfl) ?_
     refine OpsQ.yes (Want.bool rfl rfl rfl rfl (by rw [(not_t (c31))]; rfl)) rfl (OpR.call0 fn51 (ref08_Print_c hx33) rfl) ?_
     refine OpsQ.yes (Want.bool rfl rfl rfl rfl (by rw [(not_t (c31))]; rfl)) rfl (OpR.cast (OpR.pure rfl) (boolE (strNe _ _))) ?_
     refine OpsQ.yes (Want.plain rfl) rfl (OpR.pickF rfl (not_t (c31)) rfl) ?_
     refine OpsQ.yes (Want.plain rfl) rfl (OpR.pure rfl) ?_
     refine OpsQ.no (Want.bool rfl rfl rfl rfl (by rw [(not_f (beq_eq_false_iff_ne.2 c34))]; rfl)) rfl ?_
     refine OpsQ.no (Want.bool rfl rfl rfl rfl (by rw [(not_f (beq_eq_false_iff_ne.2 c34))]; rfl)) rfl ?_
     refine OpsQ.no (Want.bool rfl rfl rfl rfl (by rw [(not_f (beq_eq_false_iff_ne.2 c34))]; rfl)) rfl ?_
     refine OpsQ.no (Want.bool rfl rfl rfl rfl (by rw [(not_f (beq_eq_false_iff_ne.2 c34))]; rfl)) rfl ?_
     refine OpsQ.no (Want.bool rfl rfl rfl rfl (by rw [(not_f (beq_eq_false_iff_ne.2 c34))]; rfl)) rfl ?_
     refine OpsQ.no (Want.bool rfl rfl rfl rfl (by rw [(not_f (beq_eq_false_iff_ne.2 c34))]; rfl)) rfl ?_
     refine OpsQ.yes (Want.plain rfl) rfl (OpR.pickT rfl (not_f (beq_eq_false_iff_ne.2 c34)) rfl) ?_
     exact OpsQ.nil
   obtain ⟨x35, hx35, ht27⟩ := bnd_some ht27
   refine T.drawQ drawsX [.val (.pointer (some ⟨(blk (vn w2 0)), 0, none⟩)), .agg [.sl 5 (List.map e_cell_Cell x24.1.fCells), .val (.int .i64 x24.1.fEnd), .val (.bool x24.1.fHidden)], .agg [.sl 3 (List.map e_ref07_Cell x29.fCells), .val (.int .i64 x29.fEnd), .val (.bool x29.fHidden)], .agg [.sl 3 (List.map e_ref07_Cell x24.2.1.fCells), .val (.int .i64 x24.2.1.fEnd), .val (.bool x24.2.1.fHidden)], .val (.bool x30), .val (.bool (!x30)), .val (.bool (!x30)), .agg [.sl 5 (List.map e_cell_Cell x24.1.fCells), .val (.int .i64 x24.1.fEnd), .val (.bool x24.1.fHidden)], .val (.pointer (some ⟨(blk (vn w2 0)), 0, none⟩)), .sl 1 (List.map byteD x32), .val (.string (bs x32)), .agg [.sl 3 (List.map e_ref07_Cell x24.2.1.fCells), .val (.int .i64 x24.2.1.fEnd), .val (.bool x24.2.1.fHidden)], .val (.string (bs x33)), .val (.bool (!(x32 == x33))), .val (.bool (!(x32 == x33))), .val (.bool (!(x32 == x33))), .agg [.sl 5 (List.map e_cell_Cell x24.1.fCells), .val (.int .i64 x24.1.fEnd), .val (.bool x24.1.fHidden)], .val (.int .i64 x35), .val (.pointer (some ⟨(blk p6), 0, none⟩)), .sl 3 (List.map e_ref07_Cell x24.2.1.fCells), .val (.int .i64 (x24.2.1.fCells.length : Int)), .val (.bool (!(x35 == (x24.2.1.fCells.length : Int)))), .val (.bool (!(x35 == (x24.2.1.fCells.length : Int))))] [2, 6, 7, 8, 9, 10, 11, 12, 29, 30, 31, 32, 33, 34, 35, 36, 37, 38, 39, 40, 41, 42, 43, 44, 45, 46, 47, 48, 49, 50, 51, 52, 53, 54, 55, 56, 57, 58, 59, 60, 61, 62, 63, 64, 65, 66, 67, 68, 69, 70, 71] (by decide +kernel) rfl ?_ rfl ?_
   rotate_left
   · obtain rfl := Option.some.inj ht27
     exact ⟨_, Gst.trans (Gst.only [2, 6, 7, 8, 9, 10, 29, 30, 31, 71] rfl) (Gst.pick [0, 1, 2, 3] rfl rfl), rfl⟩
   refine OpsQ.yes (Want.plain rfl) rfl (OpR.pure rfl) ?_
   refine OpsQ.yes (Want.plain rfl) rfl (OpR.loadPtr 1 rfl rfl rfl rfl) ?_
   refine OpsQ.yes (Want.plain rfl) rfl (OpR.call [0, 3] fn31 (law08_Plain_c hx29) rfl rfl rfl (fun _ => rfl)) ?_
   refine OpsQ.yes (Want.plain rfl) rfl (OpR.loadPtr 2 rfl rfl rfl rfl) ?_
   refine OpsQ.yes (Want.plain rfl) rfl (OpR.call0 fn30 (ref08_Same_c hx30) rfl) ?_
   refine OpsQ.yes (Want.plain rfl) rfl (OpR.pure rfl) ?_
   refine OpsQ.yes (Want.plain rfl) rfl (OpR.pure rfl) ?_
   refine OpsQ.yes (Want.bool rfl rfl rfl rfl (by rw [(not_t (c31))]; rfl)) rfl (OpR.loadPtr 1 rfl rfl rfl rfl) ?_
   refine OpsQ.yes (Want.bool rfl rfl rfl rfl (by rw [(not_t (c31))]; rfl)) rfl (OpR.pure rfl) ?_
   refine OpsQ.yes (Want.bool rfl rfl rfl rfl (by rw [(not_t (c31))]; rfl)) rfl (OpR.call [0, 3] fn33 (row_Row_Print_c hx32) rfl rfl rfl (fun _ => rfl)) ?_
   refine OpsQ.yes (Want.bool rfl rfl rfl rfl (by rw [(not_t (c31))]; rfl)) rfl (OpR.toStr (bs := x32) rfl rfl rfl rfl rfl rfl rfl) ?_
   refine OpsQ.yes (Want.bool rfl rfl rfl rfl (by rw [(not_t (c31))]; rfl)) rfl (OpR.loadPtr 2 rfl rfl rfl rfl) ?_
   refine OpsQ.yes (Want.bool rfl rfl rfl rfl (by rw [(not_t (c31))]; rfl)) rfl (OpR.call0 fn51 (ref08_Print_c hx33) rfl) ?_
   refine OpsQ.yes (Want.bool rfl rfl rfl rfl (by rw [(not_t (c31))]; rfl)) rfl (OpR.cast (OpR.pure rfl) (boolE (strNe _ _))) ?_
   refine OpsQ.yes (Want.plain rfl) rfl (OpR.pickF rfl (not_t (c31)) rfl) ?_
   refine OpsQ.yes (Want.plain rfl) rfl (OpR.pure rfl) ?_
   refine OpsQ.yes (Want.bool rfl rfl rfl rfl (by rw [(not_t (beq_iff_eq.2 c34))]; rfl)) rfl (OpR.loadPtr 1 rfl rfl rfl rfl) ?_
   refine OpsQ.yes (Want.bool rfl rfl rfl rfl (by rw [(not_t (beq_iff_eq.2 c34))]; rfl)) rfl (OpR.call0 fn52 (row_Row_Len_c hx35) rfl) ?_
   refine OpsQ.yes (Want.bool rfl rfl rfl rfl (by rw [(not_t (beq_iff_eq.2 c34))]; rfl)) rfl (OpR.pure rfl) ?_
   refine OpsQ.yes (Want.bool rfl rfl rfl rfl (by rw [(not_t (beq_iff_eq.2 c34))]; rfl)) rfl (OpR.loadPtr 2 rfl rfl rfl rfl) ?_
   refine OpsQ.yes (Want.bool rfl rfl rfl rfl (by rw [(not_t (beq_iff_eq.2 c34))]; rfl)) rfl (OpR.cast (OpR.pure rfl) (intE (lenM _ _))) ?_
   refine OpsQ.yes (Want.bool rfl rfl rfl rfl (by rw [(not_t (beq_iff_eq.2 c34))]; rfl)) rfl (OpR.pure rfl) ?_
   refine OpsQ.yes (Want.plain rfl) rfl (OpR.pickF rfl (not_t (beq_iff_eq.2 c34)) rfl) ?_
   exact OpsQ.nil
 rintro _ ⟨u9, rfl, y10, rfl⟩
 show T X _ _ _
 refine T.seq ?_
 refine T.region ?_
 refine TL.op1 (OpR.loadPtr 1 rfl rfl rfl rfl) rfl ?_
 refine TL.op1 (OpR.pure rfl) rfl ?_
 obtain ⟨x37, hx37, h0⟩ := bnd_some h0
 refine TL.op1 (OpR.call0 fn53 (row_Row_At_c hx37) rfl) rfl ?_
 refine TL.op1 (OpR.pure rfl) rfl ?_
 refine TL.op1 (OpR.pure rfl) rfl ?_
 refine TL.op1 (OpR.pure rfl) rfl ?_
 refine TL.op (OpR.alloc rfl rfl (fun _ => rfl)) rfl (fun p38 => ?_)
 refine TL.op0 (OpR.store 4 rfl rfl rfl rfl rfl rfl rfl rfl) ?_
 refine TL.op1 (OpR.pure rfl) rfl ?_
 refine TL.nil ?_
 show T X _ _ _
 refine T.seq ?_
 refine T.seq ?_
 obtain ⟨t39, ht39, h0⟩ := bnd_some h0
 refine T.cutC (fun S' => S' = ⟨[(89, .val (.bool t39)), (14, .val (.bool x37.2)), (13, .val (.pointer (some ⟨(blk p38), 0, none⟩))), (9, .val (.pointer (some ⟨(blk p6), 0, none⟩))), (7, .val (.pointer (some ⟨(blk (vn w2 0)), 0, none⟩))), (6, .val (.bool false)), (2, .val (.int .i64 a2))], [.var (blk (vn w2 0)) [.val y10] 142, .var (blk p6) [.sl 3 (List.map e_ref07_Cell u9.2.2.2.1), .val (.int .i64 u9.2.2.2.2.1), .val (.bool u9.2.2.2.2.2.1)] 57, .var (blk p38) [.sl 2 (List.map e_arena_Span x37.1.fText.fL), .val (.int .i64 x37.1.fText.fN), .val (.int .i64 x37.1.fRaw.fAt), .val (.int .i64 x37.1.fRaw.fN), .val (.bool x37.1.fKept)] 108, .row y10 (List.map byteD u9.2.2.2.2.2.2) 1 5], 116⟩) (fun _ h => h) ?_ ?_
 · refine T.region ?_
   refine TL.op1 (OpR.pure rfl) rfl ?_
   refine TL.op1 (OpR.pure rfl) rfl ?_
   refine TL.op1 (OpR.pure rfl) rfl ?_
   refine TL.op1 (OpR.pure rfl) rfl ?_
   rcases ite_some ht39 with ⟨c40, ht39⟩ | ⟨c40, ht39⟩
   rotate_left
   · refine TL.off rfl rfl rfl rfl (decide_eq_false c40) rfl rfl ?_
     refine TL.off rfl rfl rfl rfl (decide_eq_false c40) rfl rfl ?_
     refine TL.off rfl rfl rfl rfl (decide_eq_false c40) rfl rfl ?_
     refine TL.off rfl rfl rfl rfl (decide_eq_false c40) rfl rfl ?_
     refine TL.off rfl rfl rfl rfl (decide_eq_false c40) rfl rfl ?_
     refine TL.op1 (OpR.pickF rfl (decide_eq_false c40) rfl) rfl ?_
     refine TL.op1 (OpR.neBool rfl rfl rfl rfl) rfl ?_
     refine TL.nil ?_
     obtain rfl := Option.some.inj ht39
     exact ⟨_, Gst.trans (Gst.only [2, 6, 7, 9, 13, 14, 89] rfl) (Gst.pick [0, 2, 4, 3] rfl rfl), rfl⟩
   refine TL.on rfl rfl rfl rfl (decide_eq_true c40) ?_
   refine TL.op1 (OpR.pure rfl) rfl ?_
   refine TL.on rfl rfl rfl rfl (decide_eq_true c40) ?_
   refine TL.op1 (OpR.pure rfl) rfl ?_
   refine TL.on rfl rfl rfl rfl (decide_eq_true c40) ?_
   refine TL.op1 (OpR.loadPtr 2 rfl rfl rfl rfl) rfl ?_
   refine TL.on rfl rfl rfl rfl (decide_eq_true c40) ?_
   refine TL.op1 (OpR.cast (OpR.pure rfl) (intE (lenM _ _))) rfl ?_
   refine TL.on rfl rfl rfl rfl (decide_eq_true c40) ?_
   refine TL.op1 (OpR.pure rfl) rfl ?_
   refine TL.op1 (OpR.pickT rfl (decide_eq_true c40) rfl) rfl ?_
   refine TL.op1 (OpR.neBool rfl rfl rfl rfl) rfl ?_
   refine TL.nil ?_
   obtain rfl := Option.some.inj ht39
   exact ⟨_, Gst.trans (Gst.only [2, 6, 7, 9, 13, 14, 89] rfl) (Gst.pick [0, 2, 4, 3] rfl rfl), rfl⟩
 rintro _ rfl
 show T X _ _ _
 rcases ite_some h0 with ⟨c41, h0⟩ | ⟨c41, h0⟩
 · refine T.condT rfl (c41) ?_
   refine T.seq ?_
   refine T.region ?_
   refine TL.op1 (OpR.pure rfl) rfl ?_
   refine TL.nil ?_
   show T X _ _ _
   refine T.ret ?_
   obtain rfl := Option.some.inj h0
   exact PostG.retP (ks := []) (Gst.trans (Gst.only [6] rfl) (Gst.pick [] rfl rfl)) undef (ResL.cons (ResV.tmp rfl) ResL.nil) rfl rfl rfl rfl
 refine T.condF rfl (eq_false_of_ne_true c41) ?_
 refine T.skip ?_
 show T X _ _ _
 refine T.seq ?_
 obtain ⟨t42, ht42, h0⟩ := bnd_some h0
 refine T.cutC (fun S' => S' = ⟨[(6, .val (.bool t42))], [], 116⟩) (fun _ h => h) ?_ ?_
 rotate_left
 · rintro _ rfl
   show T X _ _ _
   refine T.ret ?_
   obtain rfl := Option.some.inj h0
   exact PostG.retP (ks := []) (Gst.only [6] rfl) undef (ResL.cons (ResV.tmp rfl) ResL.nil) rfl rfl rfl rfl
 rcases ite_some ht42 with ⟨c44, ht42⟩ | ⟨c44, ht42⟩
 · obtain ⟨x45, hx45, ht42⟩ := bnd_some ht42
   obtain ⟨x46, hx46, ht42⟩ := bnd_some ht42
   rcases ite_some ht42 with ⟨c47, ht42⟩ | ⟨c47, ht42⟩
   · obtain ⟨x48, hx48, ht42⟩ := bnd_some ht42
     refine T.drawQ drawsX [.val (.bool x37.2), .val (.bool x37.2), .val (.pointer (some ⟨(blk (vn w2 0)), 0, none⟩)), .agg [.sl 2 (List.map e_arena_Span x37.1.fText.fL), .val (.int .i64 x37.1.fText.fN), .val (.int .i64 x37.1.fRaw.fAt), .val (.int .i64 x37.1.fRaw.fN), .val (.bool x37.1.fKept)], .agg [.val (.string (bs x45.fS)), .val (.string (bs x45.fRaw)), .val (.bool x45.fKept)], .val (.pointer (some ⟨(blk p6), 0, none⟩)), .sl 3 (List.map e_ref07_Cell u9.2.2.2.1), .val (.int .i64 a2), .nod [.val (.string (bs x46.fS)), .val (.string (bs x46.fRaw)), .val (.bool x46.fKept)], .agg [.val (.string (bs x46.fS)), .val (.string (bs x46.fRaw)), .val (.bool x46.fKept)], .val (.bool (x45 == x46)), .val (.bool (x45 == x46)), .val (.bool (x45 == x46)), .tup [], .tup [], .tup [], .tup [], .tup [], .tup [], .tup [], .tup [], .tup [], .val (.bool true), .val (.bool true), .val (.bool x48), .val (.bool x48), .val (.bool x48)] [2, 6, 7, 9, 13, 14, 89, 90, 91, 92, 93, 94, 95, 96, 97, 98, 99, 100, 101, 102, 103, 104, 105, 106, 107, 108, 109, 110, 111, 112, 113, 114, 115] (by decide +kernel) rfl ?_ rfl ?_
     rotate_left
     · obtain rfl := Option.some.inj ht42
       exact ⟨_, Gst.trans (Gst.only [6] rfl) (Gst.pick [] rfl rfl), rfl⟩
     refine OpsQ.yes (Want.plain rfl) rfl (OpR.pure rfl) ?_
     refine OpsQ.yes (Want.plain rfl) rfl (OpR.pure rfl) ?_
     refine OpsQ.yes (Want.bool rfl rfl rfl rfl (by rw [(c44)]; rfl)) rfl (OpR.pure rfl) ?_
     refine OpsQ.yes (Want.bool rfl rfl rfl rfl (by rw [(c44)]; rfl)) rfl (OpR.loadPtr 2 rfl rfl rfl rfl) ?_
     refine OpsQ.yes (Want.bool rfl rfl rfl rfl (by rw [(c44)]; rfl)) rfl (OpR.call [0, 3] fn54 (law07_Plain_c hx45) rfl rfl rfl (fun _ => rfl)) ?_
     refine OpsQ.yes (Want.bool rfl rfl rfl rfl (by rw [(c44)]; rfl)) rfl (OpR.pure rfl) ?_
     refine OpsQ.yes (Want.bool rfl rfl rfl rfl (by rw [(c44)]; rfl)) rfl (OpR.loadPtr 1 rfl rfl rfl rfl) ?_
     refine OpsQ.yes (Want.bool rfl rfl rfl rfl (by rw [(c44)]; rfl)) rfl (OpR.pure rfl) ?_
     refine OpsQ.yes (Want.bool rfl rfl rfl rfl (by rw [(c44)]; rfl)) rfl (OpR.indexM e_ref07_Cell hx46 rfl rfl rfl rfl rfl) ?_
     refine OpsQ.yes (Want.bool rfl rfl rfl rfl (by rw [(c44)]; rfl)) rfl (OpR.pure rfl) ?_
     refine OpsQ.yes (Want.bool rfl rfl rfl rfl (by rw [(c44)]; rfl)) rfl (OpR.cast (OpR.eqStruct rfl rfl rfl rfl rfl (by kernel_rfl) (by kernel_rfl)) (boolE (beq_ref07_Cell x45 x46))) ?_
     refine OpsQ.yes (Want.plain rfl) rfl (OpR.pickT rfl (c44) rfl) ?_
     refine OpsQ.yes (Want.plain rfl) rfl (OpR.pure rfl) ?_
     refine OpsQ.no (Want.bool rfl rfl rfl rfl (by rw [(beq_iff_eq.2 c47)]; rfl)) rfl ?_
     refine OpsQ.no (Want.bool rfl rfl rfl rfl (by rw [(beq_iff_eq.2 c47)]; rfl)) rfl ?_
     refine OpsQ.no (Want.bool rfl rfl rfl rfl (by rw [(beq_iff_eq.2 c47)]; rfl)) rfl ?_
     refine OpsQ.no (Want.unit rfl rfl rfl rfl) rfl ?_
     refine OpsQ.no (Want.unit rfl rfl rfl rfl) rfl ?_
     refine OpsQ.no (Want.unit rfl rfl rfl rfl) rfl ?_
     refine OpsQ.no (Want.unit rfl rfl rfl rfl) rfl ?_
     refine OpsQ.no (Want.unit rfl rfl rfl rfl) rfl ?_
     refine OpsQ.no (Want.bool rfl rfl rfl rfl (by rw [(beq_iff_eq.2 c47)]; rfl)) rfl ?_
     refine OpsQ.yes (Want.plain rfl) rfl (OpR.pickT rfl (beq_iff_eq.2 c47) rfl) ?_
     refine OpsQ.yes (Want.plain rfl) rfl (OpR.pure rfl) ?_
     refine OpsQ.yes (Want.bool rfl rfl rfl rfl rfl) rfl (OpR.call0 fn35 (law08_awake_c hx48) rfl) ?_
     refine OpsQ.yes (Want.plain rfl) rfl (OpR.pickT rfl rfl rfl) ?_
     refine OpsQ.yes (Want.plain rfl) rfl (OpR.pure rfl) ?_
     exact OpsQ.nil
   refine T.drawQ drawsX [.val (.bool x37.2), .val (.bool x37.2), .val (.pointer (some ⟨(blk (vn w2 0)), 0, none⟩)), .agg [.sl 2 (List.map e_arena_Span x37.1.fText.fL), .val (.int .i64 x37.1.fText.fN), .val (.int .i64 x37.1.fRaw.fAt), .val (.int .i64 x37.1.fRaw.fN), .val (.bool x37.1.fKept)], .agg [.val (.string (bs x45.fS)), .val (.string (bs x45.fRaw)), .val (.bool x45.fKept)], .val (.pointer (some ⟨(blk p6), 0, none⟩)), .sl 3 (List.map e_ref07_Cell u9.2.2.2.1), .val (.int .i64 a2), .nod [.val (.string (bs x46.fS)), .val (.string (bs x46.fRaw)), .val (.bool x46.fKept)], .agg [.val (.string (bs x46.fS)), .val (.string (bs x46.fRaw)), .val (.bool x46.fKept)], .val (.bool (x45 == x46)), .val (.bool (x45 == x46)), .val (.bool (x45 == x46)), .val (.bool x37.2), .val (.bool (!x37.2)), .val (.bool (!x37.2)), .tup [], .tup [], .tup [], .tup [], .tup [], .val (.bool false), .val (.bool false), .val (.bool false), .tup [], .val (.bool false), .val (.bool false)] [2, 6, 7, 9, 13, 14, 89, 90, 91, 92, 93, 94, 95, 96, 97, 98, 99, 100, 101, 102, 103, 104, 105, 106, 107, 108, 109, 110, 111, 112, 113, 114, 115] (by decide +kernel) rfl ?_ rfl ?_
   rotate_left
   · obtain rfl := Option.some.inj ht42
     exact ⟨_, Gst.trans (Gst.only [6] rfl) (Gst.pick [] rfl rfl), rfl⟩
   refine OpsQ.yes (Want.plain rfl) rfl (OpR.pure rfl) ?_
   refine OpsQ.yes (Want.plain rfl) rfl (OpR.pure rfl) ?_
   refine OpsQ.yes (Want.bool rfl rfl rfl rfl (by rw [(c44)]; rfl)) rfl (OpR.pure rfl) ?_
   refine OpsQ.yes (Want.bool rfl rfl rfl rfl (by rw [(c44)]; rfl)) rfl (OpR.loadPtr 2 rfl rfl rfl rfl) ?_
   refine OpsQ.yes (Want.bool rfl rfl rfl rfl (by rw [(c44)]; rfl)) rfl (OpR.call [0, 3] fn54 (law07_Plain_c hx45) rfl rfl rfl (fun _ => rfl)) ?_
   refine OpsQ.yes (Want.bool rfl rfl rfl rfl (by rw [(c44)]; rfl)) rfl (OpR.pure rfl) ?_
   refine OpsQ.yes (Want.bool rfl rfl rfl rfl (by rw [(c44)]; rfl)) rfl (OpR.loadPtr 1 rfl rfl rfl rfl) ?_
   refine OpsQ.yes (Want.bool rfl rfl rfl rfl (by rw [(c44)]; rfl)) rfl (OpR.pure rfl) ?_
   refine OpsQ.yes (Want.bool rfl rfl rfl rfl (by rw [(c44)]; rfl)) rfl (OpR.indexM e_ref07_Cell hx46 rfl rfl rfl rfl rfl) ?_
   refine OpsQ.yes (Want.bool rfl rfl rfl rfl (by rw [(c44)]; rfl)) rfl (OpR.pure rfl) ?_
   refine OpsQ.yes (Want.bool rfl rfl rfl rfl (by rw [(c44)]; rfl)) rfl (OpR.cast (OpR.eqStruct rfl rfl rfl rfl rfl (by kernel_rfl) (by kernel_rfl)) (boolE (beq_ref07_Cell x45 x46))) ?_
   refine OpsQ.yes (Want.plain rfl) rfl (OpR.pickT rfl (c44) rfl) ?_
   refine OpsQ.yes (Want.plain rfl) rfl (OpR.pure rfl) ?_
   refine OpsQ.yes (Want.bool rfl rfl rfl rfl (by rw [(beq_eq_false_iff_ne.2 c47)]; rfl)) rfl (OpR.pure rfl) ?_
   refine OpsQ.yes (Want.bool rfl rfl rfl rfl (by rw [(beq_eq_false_iff_ne.2 c47)]; rfl)) rfl (OpR.pure rfl) ?_
   refine OpsQ.yes (Want.bool rfl rfl rfl rfl (by rw [(beq_eq_false_iff_ne.2 c47)]; rfl)) rfl (OpR.pure rfl) ?_
   refine OpsQ.no (Want.bool rfl rfl rfl rfl (by rw [(not_t (c44))]; rfl)) rfl ?_
   refine OpsQ.no (Want.bool rfl rfl rfl rfl (by rw [(not_t (c44))]; rfl)) rfl ?_
   refine OpsQ.no (Want.bool rfl rfl rfl rfl (by rw [(not_t (c44))]; rfl)) rfl ?_
   refine OpsQ.no (Want.bool rfl rfl rfl rfl (by rw [(not_t (c44))]; rfl)) rfl ?_
   refine OpsQ.no (Want.bool rfl rfl rfl rfl (by rw [(not_t (c44))]; rfl)) rfl ?_
   refine OpsQ.yes (Want.bool rfl rfl rfl rfl (by rw [(beq_eq_false_iff_ne.2 c47)]; rfl)) rfl (OpR.pickF rfl (not_t (c44)) rfl) ?_
   refine OpsQ.yes (Want.plain rfl) rfl (OpR.pickF rfl (beq_eq_false_iff_ne.2 c47) rfl) ?_
   refine OpsQ.yes (Want.plain rfl) rfl (OpR.pure rfl) ?_
   refine OpsQ.no (Want.bool rfl rfl rfl rfl rfl) rfl ?_
   refine OpsQ.yes (Want.plain rfl) rfl (OpR.pickF rfl rfl rfl) ?_
   refine OpsQ.yes (Want.plain rfl) rfl (OpR.pure rfl) ?_
   exact OpsQ.nil
 obtain ⟨x49, hx49, ht42⟩ := bnd_some ht42
 rcases ite_some ht42 with ⟨c50, ht42⟩ | ⟨c50, ht42⟩
 rotate_left
 · refine T.drawQ drawsX [.val (.bool x37.2), .val (.bool x37.2), .tup [], .tup [], .tup [], .tup [], .tup [], .tup [], .tup [], .tup [], .tup [], .val (.bool false), .val (.bool false), .val (.bool x37.2), .val (.bool (!x37.2)), .val (.bool (!x37.2)), .val (.pointer (some ⟨(blk (vn w2 0)), 0, none⟩)), .agg [.sl 2 (List.map e_arena_Span x37.1.fText.fL), .val (.int .i64 x37.1.fText.fN), .val (.int .i64 x37.1.fRaw.fAt), .val (.int .i64 x37.1.fRaw.fN), .val (.bool x37.1.fKept)], .agg [.val (.string (bs x49.fS)), .val (.string (bs x49.fRaw)), .val (.bool x49.fKept)], .agg [.val (.string (bs [])), .val (.string (bs [])), .val (.bool false)], .val (.bool (x49 == (⟨[], [], false⟩ : ref07_Cell))), .val (.bool (x49 == (⟨[], [], false⟩ : ref07_Cell))), .val (.bool (x49 == (⟨[], [], false⟩ : ref07_Cell))), .val (.bool (x49 == (⟨[], [], false⟩ : ref07_Cell))), .tup [], .val (.bool false), .val (.bool false)] [2, 6, 7, 9, 13, 14, 89, 90, 91, 92, 93, 94, 95, 96, 97, 98, 99, 100, 101, 102, 103, 104, 105, 106, 107, 108, 109, 110, 111, 112, 113, 114, 115] (by decide +kernel) rfl ?_ rfl ?_
   rotate_left
   · obtain rfl := Option.some.inj ht42
     exact ⟨_, Gst.trans (Gst.only [6] rfl) (Gst.pick [] rfl rfl), rfl⟩
   refine OpsQ.yes (Want.plain rfl) rfl (OpR.pure rfl) ?_
   refine OpsQ.yes (Want.plain rfl) rfl (OpR.pure rfl) ?_
   refine OpsQ.no (Want.bool rfl rfl rfl rfl (by rw [(eq_false_of_ne_true c44)]; rfl)) rfl ?_
   refine OpsQ.no (Want.bool rfl rfl rfl rfl (by rw [(eq_false_of_ne_true c44)]; rfl)) rfl ?_
   refine OpsQ.no (Want.bool rfl rfl rfl rfl (by rw [(eq_false_of_ne_true c44)]; rfl)) rfl ?_
   refine OpsQ.no (Want.bool rfl rfl rfl rfl (by rw [(eq_false_of_ne_true c44)]; rfl)) rfl ?_
   refine OpsQ.no (Want.bool rfl rfl rfl rfl (by rw [(eq_false_of_ne_true c44)]; rfl)) rfl ?_
   refine OpsQ.no (Want.bool rfl rfl rfl rfl (by rw [(eq_false_of_ne_true c44)]; rfl)) rfl ?_
   refine OpsQ.no (Want.bool rfl rfl rfl rfl (by rw [(eq_false_of_ne_true c44)]; rfl)) rfl ?_
   refine OpsQ.no (Want.bool rfl rfl rfl rfl (by rw [(eq_false_of_ne_true c44)]; rfl)) rfl ?_
   refine OpsQ.no (Want.bool rfl rfl rfl rfl (by rw [(eq_false_of_ne_true c44)]; rfl)) rfl ?_
   refine OpsQ.yes (Want.plain rfl) rfl (OpR.pickF rfl (eq_false_of_ne_true c44) rfl) ?_
   refine OpsQ.yes (Want.plain rfl) rfl (OpR.pure rfl) ?_
   refine OpsQ.yes (Want.bool rfl rfl rfl rfl rfl) rfl (OpR.pure rfl) ?_
   refine OpsQ.yes (Want.bool rfl rfl rfl rfl rfl) rfl (OpR.pure rfl) ?_
   refine OpsQ.yes (Want.bool rfl rfl rfl rfl rfl) rfl (OpR.pure rfl) ?_
   refine OpsQ.yes (Want.bool rfl rfl rfl rfl (by rw [(not_f (eq_false_of_ne_true c44))]; rfl)) rfl (OpR.pure rfl) ?_
   refine OpsQ.yes (Want.bool rfl rfl rfl rfl (by rw [(not_f (eq_false_of_ne_true c44))]; rfl)) rfl (OpR.loadPtr 2 rfl rfl rfl rfl) ?_
   refine OpsQ.yes (Want.bool rfl rfl rfl rfl (by rw [(not_f (eq_false_of_ne_true c44))]; rfl)) rfl (OpR.call [0, 3] fn54 (law07_Plain_c hx49) rfl rfl rfl (fun _ => rfl)) ?_
   refine OpsQ.yes (Want.bool rfl rfl rfl rfl (by rw [(not_f (eq_false_of_ne_true c44))]; rfl)) rfl (OpR.build rfl rfl rfl rfl rfl) ?_
   refine OpsQ.yes (Want.bool rfl rfl rfl rfl (by rw [(not_f (eq_false_of_ne_true c44))]; rfl)) rfl (OpR.cast (OpR.eqStruct rfl rfl rfl rfl rfl (by kernel_rfl) (by kernel_rfl)) (boolE (beq_ref07_Cell x49 (⟨[], [], false⟩ : ref07_Cell)))) ?_
   refine OpsQ.yes (Want.bool rfl rfl rfl rfl rfl) rfl (OpR.pickT rfl (not_f (eq_false_of_ne_true c44)) rfl) ?_
   refine OpsQ.yes (Want.plain rfl) rfl (OpR.pickF rfl rfl rfl) ?_
   refine OpsQ.yes (Want.plain rfl) rfl (OpR.pure rfl) ?_
   refine OpsQ.no (Want.bool rfl rfl rfl rfl (by rw [(beq_eq_false_iff_ne.2 c50)]; rfl)) rfl ?_
   refine OpsQ.yes (Want.plain rfl) rfl (OpR.pickF rfl (beq_eq_false_iff_ne.2 c50) rfl) ?_
   refine OpsQ.yes (Want.plain rfl) rfl (OpR.pure rfl) ?_
   exact OpsQ.nil
 obtain ⟨x51, hx51, ht42⟩ := bnd_some ht42
 refine T.drawQ drawsX [.val (.bool x37.2), .val (.bool x37.2), .tup [], .tup [], .tup [], .tup [], .tup [], .tup [], .tup [], .tup [], .tup [], .val (.bool false), .val (.bool false), .val (.bool x37.2), .val (.bool (!x37.2)), .val (.bool (!x37.2)), .val (.pointer (some ⟨(blk (vn w2 0)), 0, none⟩)), .agg [.sl 2 (List.map e_arena_Span x37.1.fText.fL), .val (.int .i64 x37.1.fText.fN), .val (.int .i64 x37.1.fRaw.fAt), .val (.int .i64 x37.1.fRaw.fN), .val (.bool x37.1.fKept)], .agg [.val (.string (bs x49.fS)), .val (.string (bs x49.fRaw)), .val (.bool x49.fKept)], .agg [.val (.string (bs [])), .val (.string (bs [])), .val (.bool false)], .val (.bool (x49 == (⟨[], [], false⟩ : ref07_Cell))), .val (.bool (x49 == (⟨[], [], false⟩ : ref07_Cell))), .val (.bool (x49 == (⟨[], [], false⟩ : ref07_Cell))), .val (.bool (x49 == (⟨[], [], false⟩ : ref07_Cell))), .val (.bool x51), .val (.bool x51), .val (.bool x51)] [2, 6, 7, 9, 13, 14, 89, 90, 91, 92, 93, 94, 95, 96, 97, 98, 99, 100, 101, 102, 103, 104, 105, 106, 107, 108, 109, 110, 111, 112, 113, 114, 115] (by decide +kernel) rfl ?_ rfl ?_
 rotate_left
 · obtain rfl := Option.some.inj ht42
   exact ⟨_, Gst.trans (Gst.only [6] rfl) (Gst.pick [] rfl rfl), rfl⟩
 refine OpsQ.yes (Want.plain rfl) rfl (OpR.pure rfl) ?_
 refine OpsQ.yes (Want.plain rfl) rfl (OpR.pure rfl) ?_
 refine OpsQ.no (Want.bool rfl rfl rfl rfl (by rw [(eq_false_of_ne_true c44)]; rfl)) rfl ?_
 refine OpsQ.no (Want.bool rfl rfl rfl rfl (by rw [(eq_false_of_ne_true c44)]; rfl)) rfl ?_
 refine OpsQ.no (Want.bool rfl rfl rfl rfl (by rw [(eq_false_of_ne_true c44)]; rfl)) rfl ?_
 refine OpsQ.no (Want.bool rfl rfl rfl rfl (by rw [(eq_false_of_ne_true c44)]; rfl)) rfl ?_
 refine OpsQ.no (Want.bool rfl rfl rfl rfl (by rw [(eq_false_of_ne_true c44)]; rfl)) rfl ?_
 refine OpsQ.no (Want.bool rfl rfl rfl rfl (by rw [(eq_false_of_ne_true c44)]; rfl)) rfl ?_
 refine OpsQ.no (Want.bool rfl rfl rfl rfl (by rw [(eq_false_of_ne_true c44)]; rfl)) rfl ?_
 refine OpsQ.no (Want.bool rfl rfl rfl rfl (by rw [(eq_false_of_ne_true c44)]; rfl)) rfl ?_
 refine OpsQ.no (Want.bool rfl rfl rfl rfl (by rw [(eq_false_of_ne_true c44)]; rfl)) rfl ?_
 refine OpsQ.yes (Want.plain rfl) rfl (OpR.pickF rfl (eq_false_of_ne_true c44) rfl) ?_
 refine OpsQ.yes (Want.plain rfl) rfl (OpR.pure rfl) ?_
 refine OpsQ.yes (Want.bool rfl rfl rfl rfl rfl) rfl (OpR.pure rfl) ?_
 refine OpsQ.yes (Want.bool rfl rfl rfl rfl rfl) rfl (OpR.pure rfl) ?_
 refine OpsQ.yes (Want.bool rfl rfl rfl rfl rfl) rfl (OpR.pure rfl) ?_
 refine OpsQ.yes (Want.bool rfl rfl rfl rfl (by rw [(not_f (eq_false_of_ne_true c44))]; rfl)) rfl (OpR.pure rfl) ?_
 refine OpsQ.yes (Want.bool rfl rfl rfl rfl (by rw [(not_f (eq_false_of_ne_true c44))]; rfl)) rfl (OpR.loadPtr 2 rfl rfl rfl rfl) ?_
 refine OpsQ.yes (Want.bool rfl rfl rfl rfl (by rw [(not_f (eq_false_of_ne_true c44))]; rfl)) rfl (OpR.call [0, 3] fn54 (law07_Plain_c hx49) rfl rfl rfl (fun _ => rfl)) ?_
 refine OpsQ.yes (Want.bool rfl rfl rfl rfl (by rw [(not_f (eq_false_of_ne_true c44))]; rfl)) rfl (OpR.build rfl rfl rfl rfl rfl) ?_
 refine OpsQ.yes (Want.bool rfl rfl rfl rfl (by rw [(not_f (eq_false_of_ne_true c44))]; rfl)) rfl (OpR.cast (OpR.eqStruct rfl rfl rfl rfl rfl (by kernel_rfl) (by kernel_rfl)) (boolE (beq_ref07_Cell x49 (⟨[], [], false⟩ : ref07_Cell)))) ?_
 refine OpsQ.yes (Want.bool rfl rfl rfl rfl rfl) rfl (OpR.pickT rfl (not_f (eq_false_of_ne_true c44)) rfl) ?_
 refine OpsQ.yes (Want.plain rfl) rfl (OpR.pickF rfl rfl rfl) ?_
 refine OpsQ.yes (Want.plain rfl) rfl (OpR.pure rfl) ?_
 refine OpsQ.yes (Want.bool rfl rfl rfl rfl (by rw [(beq_iff_eq.2 c50)]; rfl)) rfl (OpR.call0 fn35 (law08_awake_c hx51) rfl) ?_
 refine OpsQ.yes (Want.plain rfl) rfl (OpR.pickT rfl (beq_iff_eq.2 c50) rfl) ?_
 refine OpsQ.yes (Want.plain rfl) rfl (OpR.pure rfl) ?_
 exact OpsQ.nil
end Go.Proofs.Ytbcbggdgkdfciaa.S
