/- Printed by a program of this session's own (gen.py): Lean functions for Go functions, and the proofs that the Go code comes to their answers. -/
import Derived.Test.YtbcbggdgkdfciaaG1xb
import Derived.Test.YtbcbggdgkdfciaaG1xa
import Derived.Test.YtbcbggdgkdfciaaG2xa
set_option linter.unusedVariables false
set_option linter.unusedSimpArgs false
set_option maxRecDepth 20000
namespace Go.Proofs.Ytbcbggdgkdfciaa.S
open Go Go.Sm
attribute [local irreducible] T TL OpR CallT iter loop
noncomputable def law08_RowLoads.l1 (x1 : (List UInt8)) (x4 : (List scan_Row)) (x5 : (List ref05_Row)) (s11 : Int × Int) : Option (Lp (Int × Int) (Ex Unit Bool)) :=
  if s11.2 < (x4.length : Int) then
    bnd (idx x4 s11.2) fun x20 =>
    bnd (row_Load x20) fun x21 =>
    bnd (idx x5 s11.2) fun x23 =>
    bnd (ref08_Load x1 x23) fun x24 =>
    bnd (if x21.2 = x24.2 then
      bnd (law08_Plain_nil x21.1) fun x29 =>
      bnd (ref08_Same x29 x24.1) fun x30 =>
      some (!x30)
    else
      some true : Option Bool) fun t26 =>
    if t26 = true then
      some (Lp.done (Ex.ret false))
    else
      bnd (ref05_One x1 s11.1) fun x32 =>
      bnd (if x21.2 = 0 then
        bnd (row_Row_Print_nil x21.1) fun x37 =>
        bnd (ref05_Mark x21.1.fEnd) fun x38 =>
        bnd (catS x37 x38) fun x39 =>
        bnd (cut x1 s11.1 x32.2) fun x40 =>
        some (!(x39 == x40))
      else
        some false : Option Bool) fun t34 =>
      if t34 = true then
        some (Lp.done (Ex.ret false))
      else
        some (Lp.next (x32.2, w64 (s11.2 + 1)))
  else
    some (Lp.done (Ex.brk ()))
noncomputable def law08_RowLoads.l2 (x1 : (List UInt8)) (x2 : Int × (List UInt8)) (x43 : (List scan_Row)) (x44 : (List ref05_Row)) (s50 : Int × Int) : Option (Lp (Int × Int) (Ex Unit Bool)) :=
  if s50.2 < (x43.length : Int) then
    bnd (idx x43 s50.2) fun x59 =>
    bnd (row_Load x59) fun x60 =>
    bnd (idx x44 s50.2) fun x62 =>
    bnd (ref08_Load x1 x62) fun x63 =>
    bnd (if x60.2 = x63.2 then
      bnd (law08_Plain x60.1 x2.2) fun x68 =>
      bnd (ref08_Same x68 x63.1) fun x69 =>
      some (!x69)
    else
      some true : Option Bool) fun t65 =>
    if t65 = true then
      some (Lp.done (Ex.ret false))
    else
      bnd (ref05_One x1 s50.1) fun x71 =>
      bnd (if x60.2 = 0 then
        bnd (row_Row_Print x60.1 x2.2) fun x76 =>
        bnd (ref05_Mark x60.1.fEnd) fun x77 =>
        bnd (catS x76 x77) fun x78 =>
        bnd (cut x1 s50.1 x71.2) fun x79 =>
        some (!(x78 == x79))
      else
        some false : Option Bool) fun t73 =>
      if t73 = true then
        some (Lp.done (Ex.ret false))
      else
        some (Lp.next (x71.2, w64 (s50.2 + 1)))
  else
    some (Lp.done (Ex.brk ()))
noncomputable def law08_RowLoads (a0 : List UInt8) : Option Bool :=
  bnd (law08_cut a0 4000) fun x1 =>
  bnd (arena_New x1) fun x2 =>
  match x2 with
  | .inl x2 =>
      bnd (scan_All x1) fun x4 =>
      bnd (ref05_All x1) fun x5 =>
      bnd (if (x4.length : Int) = (x5.length : Int) then
        some true
      else
        some true : Option Bool) fun t6 =>
      if t6 = true then
        some false
      else
        bnd (loop (law08_RowLoads.l1 x1 x4 x5) (0, 0) : Option (Ex Unit Bool)) fun t9 => match t9 with
          | .brk u10 =>
            bnd (law08_awake) fun x42 =>
            some x42
          | .ret u10 => some u10
  | .inr x2 =>
      bnd (scan_All x1) fun x43 =>
      bnd (ref05_All x1) fun x44 =>
      bnd (if (x43.length : Int) = (x44.length : Int) then
        some false
      else
        some true : Option Bool) fun t45 =>
      if t45 = true then
        some false
      else
        bnd (loop (law08_RowLoads.l2 x1 x2 x43 x44) (0, 0) : Option (Ex Unit Bool)) fun t48 => match t48 with
          | .brk u49 =>
            bnd (law08_awake) fun x81 =>
            some x81
          | .ret u49 => some u49
set_option maxHeartbeats 4000000 in
theorem law08_RowLoads_c {a0 : List UInt8} {res : Bool} (h0 : law08_RowLoads a0 = some res) : CallF X 5 [.val (.string (bs a0))] [] (fun x => .val (.bool res)) (fun x => []) := by
 unfold law08_RowLoads at h0
 refine CallF.mkG (X := X) Try.func5 rfl rfl Try.ntmps5 rfl rfl ?_
 refine T.seq ?_
 refine T.region ?_
 refine TL.op1 (OpR.pure rfl) rfl ?_
 refine TL.nil ?_
 show T X _ _ _
 refine T.seq ?_
 refine T.region ?_
 refine TL.op1 (OpR.pure rfl) rfl ?_
 obtain ⟨x1, hx1, h0⟩ := bnd_some h0
 refine TL.op1 (OpR.call0 fn24 (law08_cut_c hx1) rfl) rfl ?_
 refine TL.op1 (OpR.pure rfl) rfl ?_
 refine TL.nil ?_
 show T X _ _ _
 refine T.seq ?_
 refine T.region ?_
 refine TL.op1 (OpR.pure rfl) rfl ?_
 refine TL.op1 (OpR.toBytesM rfl rfl rfl rfl rfl rfl rfl) rfl ?_
 obtain ⟨x2, hx2, h0⟩ := bnd_some h0
 rcases x2 with x2 | x2
 · dsimp only at h0
   refine TL.op1 (OpR.call0 fn25 (arena_New_cx1 hx2) rfl) rfl ?_
   refine TL.op1 (OpR.pure rfl) rfl ?_
   refine TL.op1 (OpR.pure rfl) rfl ?_
   refine TL.op1 (OpR.pure rfl) rfl ?_
   refine TL.op1 (OpR.pure rfl) rfl ?_
   refine TL.op1 (OpR.pure rfl) rfl ?_
   refine TL.nil ?_
   show T X _ _ _
   refine T.seq ?_
   refine T.region ?_
   refine TL.op1 (OpR.pure rfl) rfl ?_
   refine TL.op1 (OpR.toBytesM rfl rfl rfl rfl rfl rfl rfl) rfl ?_
   obtain ⟨x4, hx4, h0⟩ := bnd_some h0
   refine TL.op1 (OpR.call0 fn26 (scan_All_c hx4) rfl) rfl ?_
   refine TL.op1 (OpR.pure rfl) rfl ?_
   obtain ⟨x5, hx5, h0⟩ := bnd_some h0
   refine TL.op1 (OpR.call0 fn27 (ref05_All_c hx5) rfl) rfl ?_
   refine TL.op1 (OpR.pure rfl) rfl ?_
   refine TL.op1 (OpR.pure rfl) rfl ?_
   refine TL.nil ?_
   show T X _ _ _
   refine T.seq ?_
   refine T.seq ?_
   obtain ⟨t6, ht6, h0⟩ := bnd_some h0
   refine T.cutC (fun S' => S' = ⟨[(36, .val (.bool t6)), (6, .sl 2 (List.map e_ref05_Row x5)), (5, .sl 2 (List.map e_scan_Row x4)), (3, .val (.pointer none)), (2, .val (.bool false)), (0, .val (.string (bs x1)))], [], 96⟩) (fun _ h => h) ?_ ?_
   · refine T.region ?_
     refine TL.op1 (OpR.pure rfl) rfl ?_
     refine TL.op1 (OpR.cast (OpR.pure rfl) (intE (lenM _ _))) rfl ?_
     refine TL.op1 (OpR.pure rfl) rfl ?_
     refine TL.op1 (OpR.cast (OpR.pure rfl) (intE (lenM _ _))) rfl ?_
     refine TL.op1 (OpR.pure rfl) rfl ?_
     refine TL.op1 (OpR.pure rfl) rfl ?_
     rcases ite_some ht6 with ⟨c7, ht6⟩ | ⟨c7, ht6⟩
     rotate_left
     · refine TL.off rfl rfl rfl rfl (not_f (beq_eq_false_iff_ne.2 c7)) rfl rfl ?_
       refine TL.off rfl rfl rfl rfl (not_f (beq_eq_false_iff_ne.2 c7)) rfl rfl ?_
       refine TL.op1 (OpR.pickT rfl (not_f (beq_eq_false_iff_ne.2 c7)) rfl) rfl ?_
       refine TL.nil ?_
       obtain rfl := Option.some.inj ht6
       exact ⟨_, Gst.only [0, 2, 3, 5, 6, 36] rfl, rfl⟩
     refine TL.on rfl rfl rfl rfl (not_t (beq_iff_eq.2 c7)) ?_
     refine TL.op1 (OpR.pure rfl) rfl ?_
     refine TL.on rfl rfl rfl rfl (not_t (beq_iff_eq.2 c7)) ?_
     refine TL.op1 (OpR.ptrNil rfl rfl rfl) rfl ?_
     refine TL.op1 (OpR.pickF rfl (not_t (beq_iff_eq.2 c7)) rfl) rfl ?_
     refine TL.nil ?_
     obtain rfl := Option.some.inj ht6
     exact ⟨_, Gst.only [0, 2, 3, 5, 6, 36] rfl, rfl⟩
   rintro _ rfl
   show T X _ _ _
   rcases ite_some h0 with ⟨c8, h0⟩ | ⟨c8, h0⟩
   · refine T.condT rfl (c8) ?_
     refine T.seq ?_
     refine T.region ?_
     refine TL.op1 (OpR.pure rfl) rfl ?_
     refine TL.nil ?_
     show T X _ _ _
     refine T.ret ?_
     obtain rfl := Option.some.inj h0
     exact PostG.retP (ks := []) (Gst.only [2] rfl) undef (ResL.cons (ResV.tmp rfl) ResL.nil) rfl rfl rfl rfl
   refine T.condF rfl (eq_false_of_ne_true c8) ?_
   refine T.skip ?_
   show T X _ _ _
   refine T.seq ?_
   refine T.region ?_
   refine TL.op1 (OpR.pure rfl) rfl ?_
   refine TL.nil ?_
   show T X _ _ _
   refine T.seq ?_
   refine T.seq ?_
   refine T.region ?_
   refine TL.op1 (OpR.pure rfl) rfl ?_
   refine TL.op1 (OpR.cast (OpR.pure rfl) (intE (lenM _ _))) rfl ?_
   refine TL.op1 (OpR.pure rfl) rfl ?_
   refine TL.nil ?_
   show T X _ _ _
   obtain ⟨t9, ht9, h0⟩ := bnd_some h0
   refine T.cutC (fun S' => ∃ u10, t9 = Ex.brk u10 ∧ S' = ⟨[(2, .val (.bool false))], [], 96⟩) (fun _ h => h) ?_ ?_
   rotate_left
   · rintro _ ⟨u10, rfl, rfl⟩
     show T X _ _ _
     refine T.seq ?_
     refine T.region ?_
     obtain ⟨x42, hx42, h0⟩ := bnd_some h0
     refine TL.op1 (OpR.call0 fn35 (law08_awake_c hx42) rfl) rfl ?_
     refine TL.op1 (OpR.pure rfl) rfl ?_
     refine TL.nil ?_
     show T X _ _ _
     refine T.ret ?_
     obtain rfl := Option.some.inj h0
     exact PostG.retP (ks := []) (Gst.only [2] rfl) undef (ResL.cons (ResV.tmp rfl) ResL.nil) rfl rfl rfl rfl
   refine T.block ?_
   obtain ⟨n12, n17⟩ := loop_some ht9
   refine T.loop (fun n S' => ∃ S'', Gst S' S'' ∧ ∃ s11 : Int × Int, S'' = ⟨[(39, .val (.int .i64 s11.2)), (38, .val (.int .i64 (x4.length : Int))), (7, .val (.int .i64 s11.1)), (6, .sl 2 (List.map e_ref05_Row x5)), (5, .sl 2 (List.map e_scan_Row x4)), (3, .val (.pointer none)), (2, .val (.bool false)), (0, .val (.string (bs x1)))], [], 96⟩ ∧ iter (law08_RowLoads.l1 x1 x4 x5) n s11 = some t9) n12 ?_ ?_
   · exact ⟨_, Gst.only [0, 2, 3, 5, 6, 7, 38, 39] rfl, (0, 0), rfl, n17⟩
   rintro n12 _ ⟨_, g, s11, rfl, i16⟩
   refine T.ghost g ?_
   obtain ⟨m13, q14, rfl, q15, i16⟩ := iter_succ i16
   unfold law08_RowLoads.l1 at q15
   refine T.seq ?_
   refine T.region ?_
   refine TL.op1 (OpR.pure rfl) rfl ?_
   refine TL.nil ?_
   show T X _ _ _
   refine T.seq ?_
   rcases ite_some q15 with ⟨c19, q15⟩ | ⟨c19, q15⟩
   rotate_left
   · refine T.condF rfl (decide_eq_false c19) ?_
     refine T.exit ?_
     obtain rfl := Option.some.inj q15
     obtain rfl : _ = _ := i16
     exact ⟨_, Gst.only [2] rfl, _, rfl, rfl⟩
   refine T.condT rfl (decide_eq_true c19) ?_
   refine T.skip ?_
   show T X _ _ _
   refine T.seq ?_
   refine T.block ?_
   refine T.seq ?_
   refine T.region ?_
   refine TL.op1 (OpR.pure rfl) rfl ?_
   refine TL.op1 (OpR.pure rfl) rfl ?_
   refine TL.nil ?_
   show T X _ _ _
   refine T.seq ?_
   refine T.region ?_
   refine TL.op1 (OpR.pure rfl) rfl ?_
   refine TL.op1 (OpR.pure rfl) rfl ?_
   obtain ⟨x20, hx20, q15⟩ := bnd_some q15
   refine TL.op1 (OpR.indexM e_scan_Row hx20 rfl rfl rfl rfl rfl) rfl ?_
   refine TL.op1 (OpR.pure rfl) rfl ?_
   obtain ⟨x21, hx21, q15⟩ := bnd_some q15
   refine TL.op1 (OpR.call0 fn28 (row_Load_c hx21) rfl) rfl ?_
   refine TL.op1 (OpR.pure rfl) rfl ?_
   refine TL.op1 (OpR.pure rfl) rfl ?_
   refine TL.op1 (OpR.pure rfl) rfl ?_
   refine TL.op (OpR.alloc rfl rfl (fun _ => rfl)) rfl (fun p22 => ?_)
   refine TL.op0 (OpR.store 0 rfl rfl rfl rfl rfl rfl rfl rfl) ?_
   refine TL.op1 (OpR.pure rfl) rfl ?_
   refine TL.nil ?_
   show T X _ _ _
   refine T.seq ?_
   refine T.region ?_
   refine TL.op1 (OpR.pure rfl) rfl ?_
   refine TL.op1 (OpR.pure rfl) rfl ?_
   refine TL.op1 (OpR.pure rfl) rfl ?_
   obtain ⟨x23, hx23, q15⟩ := bnd_some q15
   refine TL.op1 (OpR.indexM e_ref05_Row hx23 rfl rfl rfl rfl rfl) rfl ?_
   refine TL.op1 (OpR.pure rfl) rfl ?_
   obtain ⟨x24, hx24, q15⟩ := bnd_some q15
   refine TL.op1 (OpR.call0 fn29 (ref08_Load_c hx24) rfl) rfl ?_
   refine TL.op1 (OpR.pure rfl) rfl ?_
   refine TL.op1 (OpR.pure rfl) rfl ?_
   refine TL.op1 (OpR.pure rfl) rfl ?_
   refine TL.op (OpR.alloc rfl rfl (fun _ => rfl)) rfl (fun p25 => ?_)
   refine TL.op0 (OpR.store 1 rfl rfl rfl rfl rfl rfl rfl rfl) ?_
   refine TL.op1 (OpR.pure rfl) rfl ?_
   refine TL.nil ?_
   show T X _ _ _
   refine T.seq ?_
   refine T.seq ?_
   obtain ⟨t26, ht26, q15⟩ := bnd_some q15
   refine T.cutC (fun S' => S' = ⟨[(69, .val (.bool t26)), (39, .val (.int .i64 s11.2)), (38, .val (.int .i64 (x4.length : Int))), (10, .val (.int .i64 x21.2)), (9, .val (.pointer (some ⟨(blk p22), 0, none⟩))), (7, .val (.int .i64 s11.1)), (6, .sl 2 (List.map e_ref05_Row x5)), (5, .sl 2 (List.map e_scan_Row x4)), (3, .val (.pointer none)), (2, .val (.bool false)), (0, .val (.string (bs x1)))], [.var (blk p22) [.sl 5 (List.map e_cell_Cell x21.1.fCells), .val (.int .i64 x21.1.fEnd), .val (.bool x21.1.fHidden)] 49], 96⟩) (fun _ h => h) ?_ ?_
   · rcases ite_some ht26 with ⟨c28, ht26⟩ | ⟨c28, ht26⟩
     rotate_left
     · refine T.drawQ drawsX [.val (.int .i64 x21.2), .val (.int .i64 x24.2), .val (.bool (!(x21.2 == x24.2))), .val (.bool (!(x21.2 == x24.2))), .tup [], .tup [], .tup [], .tup [], .tup [], .tup [], .val (.bool true)] [0, 2, 3, 5, 6, 7, 8, 9, 10, 11, 12, 38, 39, 40, 41, 42, 43, 44, 45, 46, 47, 48, 49, 50, 51, 52, 53, 54, 55, 56, 57, 58, 59, 60, 61, 62, 63, 64, 65, 66, 67, 68, 69] (by decide +kernel) rfl ?_ rfl ?_
       rotate_left
       · obtain rfl := Option.some.inj ht26
         exact ⟨_, Gst.trans (Gst.only [0, 2, 3, 5, 6, 7, 9, 10, 38, 39, 69] rfl) (Gst.pick [0] rfl rfl), rfl⟩
       refine OpsQ.yes (Want.plain rfl) rfl (OpR.pure rfl) ?_
       refine OpsQ.yes (Want.plain rfl) rfl (OpR.pure rfl) ?_
       refine OpsQ.yes (Want.plain rfl) rfl (OpR.pure rfl) ?_
       refine OpsQ.yes (Want.plain rfl) rfl (OpR.pure rfl) ?_
       refine OpsQ.no (Want.bool rfl rfl rfl rfl (by rw [(not_f (beq_eq_false_iff_ne.2 c28))]; rfl)) rfl ?_
       refine OpsQ.no (Want.bool rfl rfl rfl rfl (by rw [(not_f (beq_eq_false_iff_ne.2 c28))]; rfl)) rfl ?_
       refine OpsQ.no (Want.bool rfl rfl rfl rfl (by rw [(not_f (beq_eq_false_iff_ne.2 c28))]; rfl)) rfl ?_
       refine OpsQ.no (Want.bool rfl rfl rfl rfl (by rw [(not_f (beq_eq_false_iff_ne.2 c28))]; rfl)) rfl ?_
       refine OpsQ.no (Want.bool rfl rfl rfl rfl (by rw [(not_f (beq_eq_false_iff_ne.2 c28))]; rfl)) rfl ?_
       refine OpsQ.no (Want.bool rfl rfl rfl rfl (by rw [(not_f (beq_eq_false_iff_ne.2 c28))]; rfl)) rfl ?_
       refine OpsQ.yes (Want.plain rfl) rfl (OpR.pickT rfl (not_f (beq_eq_false_iff_ne.2 c28)) rfl) ?_
       exact OpsQ.nil
     obtain ⟨x29, hx29, ht26⟩ := bnd_some ht26
     obtain ⟨x30, hx30, ht26⟩ := bnd_some ht26
     refine T.drawQ drawsX [.val (.int .i64 x21.2), .val (.int .i64 x24.2), .val (.bool (!(x21.2 == x24.2))), .val (.bool (!(x21.2 == x24.2))), .val (.pointer none), .agg [.sl 5 (List.map e_cell_Cell x21.1.fCells), .val (.int .i64 x21.1.fEnd), .val (.bool x21.1.fHidden)], .agg [.sl 3 (List.map e_ref07_Cell x29.fCells), .val (.int .i64 x29.fEnd), .val (.bool x29.fHidden)], .agg [.sl 3 (List.map e_ref07_Cell x24.1.fCells), .val (.int .i64 x24.1.fEnd), .val (.bool x24.1.fHidden)], .val (.bool x30), .val (.bool (!x30)), .val (.bool (!x30))] [0, 2, 3, 5, 6, 7, 8, 9, 10, 11, 12, 38, 39, 40, 41, 42, 43, 44, 45, 46, 47, 48, 49, 50, 51, 52, 53, 54, 55, 56, 57, 58, 59, 60, 61, 62, 63, 64, 65, 66, 67, 68, 69] (by decide +kernel) rfl ?_ rfl ?_
     rotate_left
     · obtain rfl := Option.some.inj ht26
       exact ⟨_, Gst.trans (Gst.only [0, 2, 3, 5, 6, 7, 9, 10, 38, 39, 69] rfl) (Gst.pick [0] rfl rfl), rfl⟩
     refine OpsQ.yes (Want.plain rfl) rfl (OpR.pure rfl) ?_
     refine OpsQ.yes (Want.plain rfl) rfl (OpR.pure rfl) ?_
     refine OpsQ.yes (Want.plain rfl) rfl (OpR.pure rfl) ?_
     refine OpsQ.yes (Want.plain rfl) rfl (OpR.pure rfl) ?_
     refine OpsQ.yes (Want.bool rfl rfl rfl rfl (by rw [(not_t (beq_iff_eq.2 c28))]; rfl)) rfl (OpR.pure rfl) ?_
     refine OpsQ.yes (Want.bool rfl rfl rfl rfl (by rw [(not_t (beq_iff_eq.2 c28))]; rfl)) rfl (OpR.loadPtr 0 rfl rfl rfl rfl) ?_
     refine OpsQ.yes (Want.bool rfl rfl rfl rfl (by rw [(not_t (beq_iff_eq.2 c28))]; rfl)) rfl (OpR.call0 fn31 (law08_Plain_nil_c hx29) rfl) ?_
     refine OpsQ.yes (Want.bool rfl rfl rfl rfl (by rw [(not_t (beq_iff_eq.2 c28))]; rfl)) rfl (OpR.loadPtr 1 rfl rfl rfl rfl) ?_
     refine OpsQ.yes (Want.bool rfl rfl rfl rfl (by rw [(not_t (beq_iff_eq.2 c28))]; rfl)) rfl (OpR.call0 fn30 (ref08_Same_c hx30) rfl) ?_
     refine OpsQ.yes (Want.bool rfl rfl rfl rfl (by rw [(not_t (beq_iff_eq.2 c28))]; rfl)) rfl (OpR.pure rfl) ?_
     refine OpsQ.yes (Want.plain rfl) rfl (OpR.pickF rfl (not_t (beq_iff_eq.2 c28)) rfl) ?_
     exact OpsQ.nil
   rintro _ rfl
   show T X _ _ _
   rcases ite_some q15 with ⟨c31, q15⟩ | ⟨c31, q15⟩
   · refine T.condT rfl (c31) ?_
     refine T.seq ?_
     refine T.region ?_
     refine TL.op1 (OpR.pure rfl) rfl ?_
     refine TL.nil ?_
     show T X _ _ _
     refine T.ret ?_
     obtain rfl := Option.some.inj q15
     obtain rfl : _ = _ := i16
     obtain rfl := Option.some.inj h0
     exact PostG.retP (ks := []) (Gst.trans (Gst.only [2] rfl) (Gst.pick [] rfl rfl)) undef (ResL.cons (ResV.tmp rfl) ResL.nil) rfl rfl rfl rfl
   refine T.condF rfl (eq_false_of_ne_true c31) ?_
   refine T.skip ?_
   show T X _ _ _
   refine T.seq ?_
   refine T.region ?_
   refine TL.op1 (OpR.pure rfl) rfl ?_
   refine TL.op1 (OpR.pure rfl) rfl ?_
   obtain ⟨x32, hx32, q15⟩ := bnd_some q15
   refine TL.op1 (OpR.call0 fn32 (ref05_One_c hx32) rfl) rfl ?_
   refine TL.op1 (OpR.pure rfl) rfl ?_
   refine TL.op1 (OpR.pure rfl) rfl ?_
   refine TL.op1 (OpR.pure rfl) rfl ?_
   refine TL.op (OpR.alloc rfl rfl (fun _ => rfl)) rfl (fun p33 => ?_)
   refine TL.op0 (OpR.store 1 rfl rfl rfl rfl rfl rfl rfl rfl) ?_
   refine TL.op1 (OpR.pure rfl) rfl ?_
   refine TL.nil ?_
   show T X _ _ _
   refine T.seq ?_
   refine T.seq ?_
   obtain ⟨t34, ht34, q15⟩ := bnd_some q15
   refine T.cutC (fun S' => S' = ⟨[(92, .val (.bool t34)), (39, .val (.int .i64 s11.2)), (38, .val (.int .i64 (x4.length : Int))), (14, .val (.int .i64 x32.2)), (7, .val (.int .i64 s11.1)), (6, .sl 2 (List.map e_ref05_Row x5)), (5, .sl 2 (List.map e_scan_Row x4)), (3, .val (.pointer none)), (2, .val (.bool false)), (0, .val (.string (bs x1)))], [], 96⟩) (fun _ h => h) ?_ ?_
   rotate_left
   · rintro _ rfl
     show T X _ _ _
     rcases ite_some q15 with ⟨c41, q15⟩ | ⟨c41, q15⟩
     · refine T.condT rfl (c41) ?_
       refine T.seq ?_
       refine T.region ?_
       refine TL.op1 (OpR.pure rfl) rfl ?_
       refine TL.nil ?_
       show T X _ _ _
       refine T.ret ?_
       obtain rfl := Option.some.inj q15
       obtain rfl : _ = _ := i16
       obtain rfl := Option.some.inj h0
       exact PostG.retP (ks := []) (Gst.only [2] rfl) undef (ResL.cons (ResV.tmp rfl) ResL.nil) rfl rfl rfl rfl
     refine T.condF rfl (eq_false_of_ne_true c41) ?_
     refine T.skip ?_
     show T X _ _ _
     refine T.region ?_
     refine TL.op1 (OpR.pure rfl) rfl ?_
     refine TL.op1 (OpR.pure rfl) rfl ?_
     refine TL.nil ?_
     show T X _ _ _
     refine T.region ?_
     refine TL.op1 (OpR.pure rfl) rfl ?_
     refine TL.op1 (OpR.pure rfl) rfl ?_
     refine TL.nil ?_
     obtain rfl := Option.some.inj q15
     exact ⟨m13, Nat.lt_succ_self _, _, Gst.only [0, 2, 3, 5, 6, 7, 38, 39] rfl, (x32.2, w64 (s11.2 + 1)), rfl, i16⟩
   rcases ite_some ht34 with ⟨c36, ht34⟩ | ⟨c36, ht34⟩
   rotate_left
   · refine T.drawQ drawsX [.val (.int .i64 x21.2), .val (.bool (x21.2 == 0)), .val (.bool (x21.2 == 0)), .tup [], .tup [], .tup [], .tup [], .tup [], .tup [], .tup [], .tup [], .tup [], .tup [], .tup [], .tup [], .tup [], .val (.bool false)] [0, 2, 3, 5, 6, 7, 9, 10, 13, 14, 38, 39, 69, 70, 71, 72, 73, 74, 75, 76, 77, 78, 79, 80, 81, 82, 83, 84, 85, 86, 87, 88, 89, 90, 91, 92] (by decide +kernel) rfl ?_ rfl ?_
     rotate_left
     · obtain rfl := Option.some.inj ht34
       exact ⟨_, Gst.trans (Gst.only [0, 2, 3, 5, 6, 7, 14, 38, 39, 92] rfl) (Gst.pick [] rfl rfl), rfl⟩
     refine OpsQ.yes (Want.plain rfl) rfl (OpR.pure rfl) ?_
     refine OpsQ.yes (Want.plain rfl) rfl (OpR.pure rfl) ?_
     refine OpsQ.yes (Want.plain rfl) rfl (OpR.pure rfl) ?_
     refine OpsQ.no (Want.bool rfl rfl rfl rfl (by rw [(beq_eq_false_iff_ne.2 c36)]; rfl)) rfl ?_
     refine OpsQ.no (Want.bool rfl rfl rfl rfl (by rw [(beq_eq_false_iff_ne.2 c36)]; rfl)) rfl ?_
     refine OpsQ.no (Want.bool rfl rfl rfl rfl (by rw [(beq_eq_false_iff_ne.2 c36)]; rfl)) rfl ?_
     refine OpsQ.no (Want.bool rfl rfl rfl rfl (by rw [(beq_eq_false_iff_ne.2 c36)]; rfl)) rfl ?_
     refine OpsQ.no (Want.bool rfl rfl rfl rfl (by rw [(beq_eq_false_iff_ne.2 c36)]; rfl)) rfl ?_
     refine OpsQ.no (Want.bool rfl rfl rfl rfl (by rw [(beq_eq_false_iff_ne.2 c36)]; rfl)) rfl ?_
     refine OpsQ.no (Want.bool rfl rfl rfl rfl (by rw [(beq_eq_false_iff_ne.2 c36)]; rfl)) rfl ?_
     refine OpsQ.no (Want.bool rfl rfl rfl rfl (by rw [(beq_eq_false_iff_ne.2 c36)]; rfl)) rfl ?_
     refine OpsQ.no (Want.bool rfl rfl rfl rfl (by rw [(beq_eq_false_iff_ne.2 c36)]; rfl)) rfl ?_
     refine OpsQ.no (Want.bool rfl rfl rfl rfl (by rw [(beq_eq_false_iff_ne.2 c36)]; rfl)) rfl ?_
     refine OpsQ.no (Want.bool rfl rfl rfl rfl (by rw [(beq_eq_false_iff_ne.2 c36)]; rfl)) rfl ?_
     refine OpsQ.no (Want.bool rfl rfl rfl rfl (by rw [(beq_eq_false_iff_ne.2 c36)]; rfl)) rfl ?_
     refine OpsQ.no (Want.bool rfl rfl rfl rfl (by rw [(beq_eq_false_iff_ne.2 c36)]; rfl)) rfl ?_
     refine OpsQ.yes (Want.plain rfl) rfl (OpR.pickF rfl (beq_eq_false_iff_ne.2 c36) rfl) ?_
     exact OpsQ.nil
   obtain ⟨x37, hx37, ht34⟩ := bnd_some ht34
   obtain ⟨x38, hx38, ht34⟩ := bnd_some ht34
   obtain ⟨x39, hx39, ht34⟩ := bnd_some ht34
   obtain ⟨x40, hx40, ht34⟩ := bnd_some ht34
   refine T.drawQ drawsX [.val (.int .i64 x21.2), .val (.bool (x21.2 == 0)), .val (.bool (x21.2 == 0)), .agg [.sl 5 (List.map e_cell_Cell x21.1.fCells), .val (.int .i64 x21.1.fEnd), .val (.bool x21.1.fHidden)], .val (.pointer none), .sl 1 (List.map byteD x37), .val (.string (bs x37)), .val (.pointer (some ⟨(blk p22), 1, none⟩)), .val (.int .i64 x21.1.fEnd), .val (.string (bs x38)), .val (.string (bs x39)), .val (.string (bs x1)), .val (.int .i64 s11.1), .val (.int .i64 x32.2), .val (.string (bs x40)), .val (.bool (!(x39 == x40))), .val (.bool (!(x39 == x40)))] [0, 2, 3, 5, 6, 7, 9, 10, 13, 14, 38, 39, 69, 70, 71, 72, 73, 74, 75, 76, 77, 78, 79, 80, 81, 82, 83, 84, 85, 86, 87, 88, 89, 90, 91, 92] (by decide +kernel) rfl ?_ rfl ?_
   rotate_left
   · obtain rfl := Option.some.inj ht34
     exact ⟨_, Gst.trans (Gst.only [0, 2, 3, 5, 6, 7, 14, 38, 39, 92] rfl) (Gst.pick [] rfl rfl), rfl⟩
   refine OpsQ.yes (Want.plain rfl) rfl (OpR.pure rfl) ?_
   refine OpsQ.yes (Want.plain rfl) rfl (OpR.pure rfl) ?_
   refine OpsQ.yes (Want.plain rfl) rfl (OpR.pure rfl) ?_
   refine OpsQ.yes (Want.bool rfl rfl rfl rfl (by rw [(beq_iff_eq.2 c36)]; rfl)) rfl (OpR.loadPtr 0 rfl rfl rfl rfl) ?_
   refine OpsQ.yes (Want.bool rfl rfl rfl rfl (by rw [(beq_iff_eq.2 c36)]; rfl)) rfl (OpR.pure rfl) ?_
   refine OpsQ.yes (Want.bool rfl rfl rfl rfl (by rw [(beq_iff_eq.2 c36)]; rfl)) rfl (OpR.call0 fn33 (row_Row_Print_nil_c hx37) rfl) ?_
   refine OpsQ.yes (Want.bool rfl rfl rfl rfl (by rw [(beq_iff_eq.2 c36)]; rfl)) rfl (OpR.toStr (bs := x37) rfl rfl rfl rfl rfl rfl rfl) ?_
   refine OpsQ.yes (Want.bool rfl rfl rfl rfl (by rw [(beq_iff_eq.2 c36)]; rfl)) rfl (OpR.pure rfl) ?_
   refine OpsQ.yes (Want.bool rfl rfl rfl rfl (by rw [(beq_iff_eq.2 c36)]; rfl)) rfl (OpR.loadPtr 0 rfl rfl rfl rfl) ?_
   refine OpsQ.yes (Want.bool rfl rfl rfl rfl (by rw [(beq_iff_eq.2 c36)]; rfl)) rfl (OpR.call0 fn34 (ref05_Mark_c hx38) rfl) ?_
   refine OpsQ.yes (Want.bool rfl rfl rfl rfl (by rw [(beq_iff_eq.2 c36)]; rfl)) rfl (OpR.concatM hx39 rfl rfl) ?_
   refine OpsQ.yes (Want.bool rfl rfl rfl rfl (by rw [(beq_iff_eq.2 c36)]; rfl)) rfl (OpR.pure rfl) ?_
   refine OpsQ.yes (Want.bool rfl rfl rfl rfl (by rw [(beq_iff_eq.2 c36)]; rfl)) rfl (OpR.pure rfl) ?_
   refine OpsQ.yes (Want.bool rfl rfl rfl rfl (by rw [(beq_iff_eq.2 c36)]; rfl)) rfl (OpR.pure rfl) ?_
   refine OpsQ.yes (Want.bool rfl rfl rfl rfl (by rw [(beq_iff_eq.2 c36)]; rfl)) rfl (OpR.sliceS hx40 rfl rfl rfl (BdM.some rfl) (BdM.some rfl)) ?_
   refine OpsQ.yes (Want.bool rfl rfl rfl rfl (by rw [(beq_iff_eq.2 c36)]; rfl)) rfl (OpR.cast (OpR.pure rfl) (boolE (strNe _ _))) ?_
   refine OpsQ.yes (Want.plain rfl) rfl (OpR.pickT rfl (beq_iff_eq.2 c36) rfl) ?_
   exact OpsQ.nil
 dsimp only at h0
 refine TL.op (OpR.call [] fn25 (arena_New_cx2 hx2) rfl rfl rfl (fun _ => rfl)) rfl (fun w3 => ?_)
 refine TL.op1 (OpR.pure rfl) rfl ?_
 refine TL.op1 (OpR.pure rfl) rfl ?_
 refine TL.op1 (OpR.pure rfl) rfl ?_
 refine TL.op1 (OpR.pure rfl) rfl ?_
 refine TL.op1 (OpR.pure rfl) rfl ?_
 refine TL.nil ?_
 show T X _ _ _
 refine T.seq ?_
 refine T.region ?_
 refine TL.op1 (OpR.pure rfl) rfl ?_
 refine TL.op1 (OpR.toBytesM rfl rfl rfl rfl rfl rfl rfl) rfl ?_
 obtain ⟨x43, hx43, h0⟩ := bnd_some h0
 refine TL.op1 (OpR.call0 fn26 (scan_All_c hx43) rfl) rfl ?_
 refine TL.op1 (OpR.pure rfl) rfl ?_
 obtain ⟨x44, hx44, h0⟩ := bnd_some h0
 refine TL.op1 (OpR.call0 fn27 (ref05_All_c hx44) rfl) rfl ?_
 refine TL.op1 (OpR.pure rfl) rfl ?_
 refine TL.op1 (OpR.pure rfl) rfl ?_
 refine TL.nil ?_
 show T X _ _ _
 refine T.seq ?_
 refine T.seq ?_
 obtain ⟨t45, ht45, h0⟩ := bnd_some h0
 refine T.cutC (fun S' => S' = ⟨[(36, .val (.bool t45)), (6, .sl 2 (List.map e_ref05_Row x44)), (5, .sl 2 (List.map e_scan_Row x43)), (3, .val (.pointer (some ⟨(blk (vn w3 0)), 0, none⟩))), (2, .val (.bool false)), (0, .val (.string (bs x1)))], [.var (blk (vn w3 0)) [.val (vn w3 1)] 142, .row (vn w3 1) (List.map byteD x2.2) 1 5], 96⟩) (fun _ h => h) ?_ ?_
 · refine T.region ?_
   refine TL.op1 (OpR.pure rfl) rfl ?_
   refine TL.op1 (OpR.cast (OpR.pure rfl) (intE (lenM _ _))) rfl ?_
   refine TL.op1 (OpR.pure rfl) rfl ?_
   refine TL.op1 (OpR.cast (OpR.pure rfl) (intE (lenM _ _))) rfl ?_
   refine TL.op1 (OpR.pure rfl) rfl ?_
   refine TL.op1 (OpR.pure rfl) rfl ?_
   rcases ite_some ht45 with ⟨c46, ht45⟩ | ⟨c46, ht45⟩
   rotate_left
   · refine TL.off rfl rfl rfl rfl (not_f (beq_eq_false_iff_ne.2 c46)) rfl rfl ?_
     refine TL.off rfl rfl rfl rfl (not_f (beq_eq_false_iff_ne.2 c46)) rfl rfl ?_
     refine TL.op1 (OpR.pickT rfl (not_f (beq_eq_false_iff_ne.2 c46)) rfl) rfl ?_
     refine TL.nil ?_
     obtain rfl := Option.some.inj ht45
     exact ⟨_, Gst.only [0, 2, 3, 5, 6, 36] rfl, rfl⟩
   refine TL.on rfl rfl rfl rfl (not_t (beq_iff_eq.2 c46)) ?_
   refine TL.op1 (OpR.pure rfl) rfl ?_
   refine TL.on rfl rfl rfl rfl (not_t (beq_iff_eq.2 c46)) ?_
   refine TL.op1 (OpR.ptrNil rfl rfl rfl) rfl ?_
   refine TL.op1 (OpR.pickF rfl (not_t (beq_iff_eq.2 c46)) rfl) rfl ?_
   refine TL.nil ?_
   obtain rfl := Option.some.inj ht45
   exact ⟨_, Gst.only [0, 2, 3, 5, 6, 36] rfl, rfl⟩
 rintro _ rfl
 show T X _ _ _
 rcases ite_some h0 with ⟨c47, h0⟩ | ⟨c47, h0⟩
 · refine T.condT rfl (c47) ?_
   refine T.seq ?_
   refine T.region ?_
   refine TL.op1 (OpR.pure rfl) rfl ?_
   refine TL.nil ?_
   show T X _ _ _
   refine T.ret ?_
   obtain rfl := Option.some.inj h0
   exact PostG.retP (ks := []) (Gst.trans (Gst.only [2] rfl) (Gst.pick [] rfl rfl)) undef (ResL.cons (ResV.tmp rfl) ResL.nil) rfl rfl rfl rfl
 refine T.condF rfl (eq_false_of_ne_true c47) ?_
 refine T.skip ?_
 show T X _ _ _
 refine T.seq ?_
 refine T.region ?_
 refine TL.op1 (OpR.pure rfl) rfl ?_
 refine TL.nil ?_
 show T X _ _ _
 refine T.seq ?_
 refine T.seq ?_
 refine T.region ?_
 refine TL.op1 (OpR.pure rfl) rfl ?_
 refine TL.op1 (OpR.cast (OpR.pure rfl) (intE (lenM _ _))) rfl ?_
 refine TL.op1 (OpR.pure rfl) rfl ?_
 refine TL.nil ?_
 show T X _ _ _
 obtain ⟨t48, ht48, h0⟩ := bnd_some h0
 refine T.cutC (fun S' => ∃ u49, t48 = Ex.brk u49 ∧ S' = ⟨[(2, .val (.bool false))], [], 96⟩) (fun _ h => h) ?_ ?_
 rotate_left
 · rintro _ ⟨u49, rfl, rfl⟩
   show T X _ _ _
   refine T.seq ?_
   refine T.region ?_
   obtain ⟨x81, hx81, h0⟩ := bnd_some h0
   refine TL.op1 (OpR.call0 fn35 (law08_awake_c hx81) rfl) rfl ?_
   refine TL.op1 (OpR.pure rfl) rfl ?_
   refine TL.nil ?_
   show T X _ _ _
   refine T.ret ?_
   obtain rfl := Option.some.inj h0
   exact PostG.retP (ks := []) (Gst.only [2] rfl) undef (ResL.cons (ResV.tmp rfl) ResL.nil) rfl rfl rfl rfl
 refine T.block ?_
 obtain ⟨n51, n56⟩ := loop_some ht48
 refine T.loop (fun n S' => ∃ S'', Gst S' S'' ∧ ∃ s50 : Int × Int, S'' = ⟨[(39, .val (.int .i64 s50.2)), (38, .val (.int .i64 (x43.length : Int))), (7, .val (.int .i64 s50.1)), (6, .sl 2 (List.map e_ref05_Row x44)), (5, .sl 2 (List.map e_scan_Row x43)), (3, .val (.pointer (some ⟨(blk (vn w3 0)), 0, none⟩))), (2, .val (.bool false)), (0, .val (.string (bs x1)))], [.var (blk (vn w3 0)) [.val (vn w3 1)] 142, .row (vn w3 1) (List.map byteD x2.2) 1 5], 96⟩ ∧ iter (law08_RowLoads.l2 x1 x2 x43 x44) n s50 = some t48) n51 ?_ ?_
 · exact ⟨_, Gst.only [0, 2, 3, 5, 6, 7, 38, 39] rfl, (0, 0), rfl, n56⟩
 rintro n51 _ ⟨_, g, s50, rfl, i55⟩
 refine T.ghost g ?_
 obtain ⟨m52, q53, rfl, q54, i55⟩ := iter_succ i55
 unfold law08_RowLoads.l2 at q54
 refine T.seq ?_
 refine T.region ?_
 refine TL.op1 (OpR.pure rfl) rfl ?_
 refine TL.nil ?_
 show T X _ _ _
 refine T.seq ?_
 rcases ite_some q54 with ⟨c58, q54⟩ | ⟨c58, q54⟩
 rotate_left
 · refine T.condF rfl (decide_eq_false c58) ?_
   refine T.exit ?_
   obtain rfl := Option.some.inj q54
   obtain rfl : _ = _ := i55
   exact ⟨_, Gst.trans (Gst.only [2] rfl) (Gst.pick [] rfl rfl), _, rfl, rfl⟩
 refine T.condT rfl (decide_eq_true c58) ?_
 refine T.skip ?_
 show T X _ _ _
 refine T.seq ?_
 refine T.block ?_
 refine T.seq ?_
 refine T.region ?_
 refine TL.op1 (OpR.pure rfl) rfl ?_
 refine TL.op1 (OpR.pure rfl) rfl ?_
 refine TL.nil ?_
 show T X _ _ _
 refine T.seq ?_
 refine T.region ?_
 refine TL.op1 (OpR.pure rfl) rfl ?_
 refine TL.op1 (OpR.pure rfl) rfl ?_
 obtain ⟨x59, hx59, q54⟩ := bnd_some q54
 refine TL.op1 (OpR.indexM e_scan_Row hx59 rfl rfl rfl rfl rfl) rfl ?_
 refine TL.op1 (OpR.pure rfl) rfl ?_
 obtain ⟨x60, hx60, q54⟩ := bnd_some q54
 refine TL.op1 (OpR.call0 fn28 (row_Load_c hx60) rfl) rfl ?_
 refine TL.op1 (OpR.pure rfl) rfl ?_
 refine TL.op1 (OpR.pure rfl) rfl ?_
 refine TL.op1 (OpR.pure rfl) rfl ?_
 refine TL.op (OpR.alloc rfl rfl (fun _ => rfl)) rfl (fun p61 => ?_)
 refine TL.op0 (OpR.store 2 rfl rfl rfl rfl rfl rfl rfl rfl) ?_
 refine TL.op1 (OpR.pure rfl) rfl ?_
 refine TL.nil ?_
 show T X _ _ _
 refine T.seq ?_
 refine T.region ?_
 refine TL.op1 (OpR.pure rfl) rfl ?_
 refine TL.op1 (OpR.pure rfl) rfl ?_
 refine TL.op1 (OpR.pure rfl) rfl ?_
 obtain ⟨x62, hx62, q54⟩ := bnd_some q54
 refine TL.op1 (OpR.indexM e_ref05_Row hx62 rfl rfl rfl rfl rfl) rfl ?_
 refine TL.op1 (OpR.pure rfl) rfl ?_
 obtain ⟨x63, hx63, q54⟩ := bnd_some q54
 refine TL.op1 (OpR.call0 fn29 (ref08_Load_c hx63) rfl) rfl ?_
 refine TL.op1 (OpR.pure rfl) rfl ?_
 refine TL.op1 (OpR.pure rfl) rfl ?_
 refine TL.op1 (OpR.pure rfl) rfl ?_
 refine TL.op (OpR.alloc rfl rfl (fun _ => rfl)) rfl (fun p64 => ?_)
 refine TL.op0 (OpR.store 3 rfl rfl rfl rfl rfl rfl rfl rfl) ?_
 refine TL.op1 (OpR.pure rfl) rfl ?_
 refine TL.nil ?_
 show T X _ _ _
 refine T.seq ?_
 refine T.seq ?_
 obtain ⟨t65, ht65, q54⟩ := bnd_some q54
 refine T.cutC (fun S' => S' = ⟨[(69, .val (.bool t65)), (39, .val (.int .i64 s50.2)), (38, .val (.int .i64 (x43.length : Int))), (10, .val (.int .i64 x60.2)), (9, .val (.pointer (some ⟨(blk p61), 0, none⟩))), (7, .val (.int .i64 s50.1)), (6, .sl 2 (List.map e_ref05_Row x44)), (5, .sl 2 (List.map e_scan_Row x43)), (3, .val (.pointer (some ⟨(blk (vn w3 0)), 0, none⟩))), (2, .val (.bool false)), (0, .val (.string (bs x1)))], [.var (blk (vn w3 0)) [.val (vn w3 1)] 142, .var (blk p61) [.sl 5 (List.map e_cell_Cell x60.1.fCells), .val (.int .i64 x60.1.fEnd), .val (.bool x60.1.fHidden)] 49, .row (vn w3 1) (List.map byteD x2.2) 1 5], 96⟩) (fun _ h => h) ?_ ?_
 · rcases ite_some ht65 with ⟨c67, ht65⟩ | ⟨c67, ht65⟩
   rotate_left
   · refine T.drawQ drawsX [.val (.int .i64 x60.2), .val (.int .i64 x63.2), .val (.bool (!(x60.2 == x63.2))), .val (.bool (!(x60.2 == x63.2))), .tup [], .tup [], .tup [], .tup [], .tup [], .tup [], .val (.bool true)] [0, 2, 3, 5, 6, 7, 8, 9, 10, 11, 12, 38, 39, 40, 41, 42, 43, 44, 45, 46, 47, 48, 49, 50, 51, 52, 53, 54, 55, 56, 57, 58, 59, 60, 61, 62, 63, 64, 65, 66, 67, 68, 69] (by decide +kernel) rfl ?_ rfl ?_
     rotate_left
     · obtain rfl := Option.some.inj ht65
       exact ⟨_, Gst.trans (Gst.only [0, 2, 3, 5, 6, 7, 9, 10, 38, 39, 69] rfl) (Gst.pick [0, 2, 1] rfl rfl), rfl⟩
     refine OpsQ.yes (Want.plain rfl) rfl (OpR.pure rfl) ?_
     refine OpsQ.yes (Want.plain rfl) rfl (OpR.pure rfl) ?_
     refine OpsQ.yes (Want.plain rfl) rfl (OpR.pure rfl) ?_
     refine OpsQ.yes (Want.plain rfl) rfl (OpR.pure rfl) ?_
     refine OpsQ.no (Want.bool rfl rfl rfl rfl (by rw [(not_f (beq_eq_false_iff_ne.2 c67))]; rfl)) rfl ?_
     refine OpsQ.no (Want.bool rfl rfl rfl rfl (by rw [(not_f (beq_eq_false_iff_ne.2 c67))]; rfl)) rfl ?_
     refine OpsQ.no (Want.bool rfl rfl rfl rfl (by rw [(not_f (beq_eq_false_iff_ne.2 c67))]; rfl)) rfl ?_
     refine OpsQ.no (Want.bool rfl rfl rfl rfl (by rw [(not_f (beq_eq_false_iff_ne.2 c67))]; rfl)) rfl ?_
     refine OpsQ.no (Want.bool rfl rfl rfl rfl (by rw [(not_f (beq_eq_false_iff_ne.2 c67))]; rfl)) rfl ?_
     refine OpsQ.no (Want.bool rfl rfl rfl rfl (by rw [(not_f (beq_eq_false_iff_ne.2 c67))]; rfl)) rfl ?_
     refine OpsQ.yes (Want.plain rfl) rfl (OpR.pickT rfl (not_f (beq_eq_false_iff_ne.2 c67)) rfl) ?_
     exact OpsQ.nil
   obtain ⟨x68, hx68, ht65⟩ := bnd_some ht65
   obtain ⟨x69, hx69, ht65⟩ := bnd_some ht65
   refine T.drawQ drawsX [.val (.int .i64 x60.2), .val (.int .i64 x63.2), .val (.bool (!(x60.2 == x63.2))), .val (.bool (!(x60.2 == x63.2))), .val (.pointer (some ⟨(blk (vn w3 0)), 0, none⟩)), .agg [.sl 5 (List.map e_cell_Cell x60.1.fCells), .val (.int .i64 x60.1.fEnd), .val (.bool x60.1.fHidden)], .agg [.sl 3 (List.map e_ref07_Cell x68.fCells), .val (.int .i64 x68.fEnd), .val (.bool x68.fHidden)], .agg [.sl 3 (List.map e_ref07_Cell x63.1.fCells), .val (.int .i64 x63.1.fEnd), .val (.bool x63.1.fHidden)], .val (.bool x69), .val (.bool (!x69)), .val (.bool (!x69))] [0, 2, 3, 5, 6, 7, 8, 9, 10, 11, 12, 38, 39, 40, 41, 42, 43, 44, 45, 46, 47, 48, 49, 50, 51, 52, 53, 54, 55, 56, 57, 58, 59, 60, 61, 62, 63, 64, 65, 66, 67, 68, 69] (by decide +kernel) rfl ?_ rfl ?_
   rotate_left
   · obtain rfl := Option.some.inj ht65
     exact ⟨_, Gst.trans (Gst.only [0, 2, 3, 5, 6, 7, 9, 10, 38, 39, 69] rfl) (Gst.pick [0, 2, 1] rfl rfl), rfl⟩
   refine OpsQ.yes (Want.plain rfl) rfl (OpR.pure rfl) ?_
   refine OpsQ.yes (Want.plain rfl) rfl (OpR.pure rfl) ?_
   refine OpsQ.yes (Want.plain rfl) rfl (OpR.pure rfl) ?_
   refine OpsQ.yes (Want.plain rfl) rfl (OpR.pure rfl) ?_
   refine OpsQ.yes (Want.bool rfl rfl rfl rfl (by rw [(not_t (beq_iff_eq.2 c67))]; rfl)) rfl (OpR.pure rfl) ?_
   refine OpsQ.yes (Want.bool rfl rfl rfl rfl (by rw [(not_t (beq_iff_eq.2 c67))]; rfl)) rfl (OpR.loadPtr 2 rfl rfl rfl rfl) ?_
   refine OpsQ.yes (Want.bool rfl rfl rfl rfl (by rw [(not_t (beq_iff_eq.2 c67))]; rfl)) rfl (OpR.call [0, 1] fn31 (law08_Plain_c hx68) rfl rfl rfl (fun _ => rfl)) ?_
   refine OpsQ.yes (Want.bool rfl rfl rfl rfl (by rw [(not_t (beq_iff_eq.2 c67))]; rfl)) rfl (OpR.loadPtr 3 rfl rfl rfl rfl) ?_
   refine OpsQ.yes (Want.bool rfl rfl rfl rfl (by rw [(not_t (beq_iff_eq.2 c67))]; rfl)) rfl (OpR.call0 fn30 (ref08_Same_c hx69) rfl) ?_
   refine OpsQ.yes (Want.bool rfl rfl rfl rfl (by rw [(not_t (beq_iff_eq.2 c67))]; rfl)) rfl (OpR.pure rfl) ?_
   refine OpsQ.yes (Want.plain rfl) rfl (OpR.pickF rfl (not_t (beq_iff_eq.2 c67)) rfl) ?_
   exact OpsQ.nil
 rintro _ rfl
 show T X _ _ _
 rcases ite_some q54 with ⟨c70, q54⟩ | ⟨c70, q54⟩
 · refine T.condT rfl (c70) ?_
   refine T.seq ?_
   refine T.region ?_
   refine TL.op1 (OpR.pure rfl) rfl ?_
   refine TL.nil ?_
   show T X _ _ _
   refine T.ret ?_
   obtain rfl := Option.some.inj q54
   obtain rfl : _ = _ := i55
   obtain rfl := Option.some.inj h0
   exact PostG.retP (ks := []) (Gst.trans (Gst.only [2] rfl) (Gst.pick [] rfl rfl)) undef (ResL.cons (ResV.tmp rfl) ResL.nil) rfl rfl rfl rfl
 refine T.condF rfl (eq_false_of_ne_true c70) ?_
 refine T.skip ?_
 show T X _ _ _
 refine T.seq ?_
 refine T.region ?_
 refine TL.op1 (OpR.pure rfl) rfl ?_
 refine TL.op1 (OpR.pure rfl) rfl ?_
 obtain ⟨x71, hx71, q54⟩ := bnd_some q54
 refine TL.op1 (OpR.call0 fn32 (ref05_One_c hx71) rfl) rfl ?_
 refine TL.op1 (OpR.pure rfl) rfl ?_
 refine TL.op1 (OpR.pure rfl) rfl ?_
 refine TL.op1 (OpR.pure rfl) rfl ?_
 refine TL.op (OpR.alloc rfl rfl (fun _ => rfl)) rfl (fun p72 => ?_)
 refine TL.op0 (OpR.store 3 rfl rfl rfl rfl rfl rfl rfl rfl) ?_
 refine TL.op1 (OpR.pure rfl) rfl ?_
 refine TL.nil ?_
 show T X _ _ _
 refine T.seq ?_
 refine T.seq ?_
 obtain ⟨t73, ht73, q54⟩ := bnd_some q54
 refine T.cutC (fun S' => S' = ⟨[(92, .val (.bool t73)), (39, .val (.int .i64 s50.2)), (38, .val (.int .i64 (x43.length : Int))), (14, .val (.int .i64 x71.2)), (7, .val (.int .i64 s50.1)), (6, .sl 2 (List.map e_ref05_Row x44)), (5, .sl 2 (List.map e_scan_Row x43)), (3, .val (.pointer (some ⟨(blk (vn w3 0)), 0, none⟩))), (2, .val (.bool false)), (0, .val (.string (bs x1)))], [.var (blk (vn w3 0)) [.val (vn w3 1)] 142, .row (vn w3 1) (List.map byteD x2.2) 1 5], 96⟩) (fun _ h => h) ?_ ?_
 rotate_left
 · rintro _ rfl
   show T X _ _ _
   rcases ite_some q54 with ⟨c80, q54⟩ | ⟨c80, q54⟩
   · refine T.condT rfl (c80) ?_
     refine T.seq ?_
     refine T.region ?_
     refine TL.op1 (OpR.pure rfl) rfl ?_
     refine TL.nil ?_
     show T X _ _ _
     refine T.ret ?_
     obtain rfl := Option.some.inj q54
     obtain rfl : _ = _ := i55
     obtain rfl := Option.some.inj h0
     exact PostG.retP (ks := []) (Gst.trans (Gst.only [2] rfl) (Gst.pick [] rfl rfl)) undef (ResL.cons (ResV.tmp rfl) ResL.nil) rfl rfl rfl rfl
   refine T.condF rfl (eq_false_of_ne_true c80) ?_
   refine T.skip ?_
   show T X _ _ _
   refine T.region ?_
   refine TL.op1 (OpR.pure rfl) rfl ?_
   refine TL.op1 (OpR.pure rfl) rfl ?_
   refine TL.nil ?_
   show T X _ _ _
   refine T.region ?_
   refine TL.op1 (OpR.pure rfl) rfl ?_
   refine TL.op1 (OpR.pure rfl) rfl ?_
   refine TL.nil ?_
   obtain rfl := Option.some.inj q54
   exact ⟨m52, Nat.lt_succ_self _, _, Gst.only [0, 2, 3, 5, 6, 7, 38, 39] rfl, (x71.2, w64 (s50.2 + 1)), rfl, i55⟩
 rcases ite_some ht73 with ⟨c75, ht73⟩ | ⟨c75, ht73⟩
 rotate_left
 · refine T.drawQ drawsX [.val (.int .i64 x60.2), .val (.bool (x60.2 == 0)), .val (.bool (x60.2 == 0)), .tup [], .tup [], .tup [], .tup [], .tup [], .tup [], .tup [], .tup [], .tup [], .tup [], .tup [], .tup [], .tup [], .val (.bool false)] [0, 2, 3, 5, 6, 7, 9, 10, 13, 14, 38, 39, 69, 70, 71, 72, 73, 74, 75, 76, 77, 78, 79, 80, 81, 82, 83, 84, 85, 86, 87, 88, 89, 90, 91, 92] (by decide +kernel) rfl ?_ rfl ?_
   rotate_left
   · obtain rfl := Option.some.inj ht73
     exact ⟨_, Gst.trans (Gst.only [0, 2, 3, 5, 6, 7, 14, 38, 39, 92] rfl) (Gst.pick [0, 2] rfl rfl), rfl⟩
   refine OpsQ.yes (Want.plain rfl) rfl (OpR.pure rfl) ?_
   refine OpsQ.yes (Want.plain rfl) rfl (OpR.pure rfl) ?_
   refine OpsQ.yes (Want.plain rfl) rfl (OpR.pure rfl) ?_
   refine OpsQ.no (Want.bool rfl rfl rfl rfl (by rw [(beq_eq_false_iff_ne.2 c75)]; rfl)) rfl ?_
   refine OpsQ.no (Want.bool rfl rfl rfl rfl (by rw [(beq_eq_false_iff_ne.2 c75)]; rfl)) rfl ?_
   refine OpsQ.no (Want.bool rfl rfl rfl rfl (by rw [(beq_eq_false_iff_ne.2 c75)]; rfl)) rfl ?_
   refine OpsQ.no (Want.bool rfl rfl rfl rfl (by rw [(beq_eq_false_iff_ne.2 c75)]; rfl)) rfl ?_
   refine OpsQ.no (Want.bool rfl rfl rfl rfl (by rw [(beq_eq_false_iff_ne.2 c75)]; rfl)) rfl ?_
   refine OpsQ.no (Want.bool rfl rfl rfl rfl (by rw [(beq_eq_false_iff_ne.2 c75)]; rfl)) rfl ?_
   refine OpsQ.no (Want.bool rfl rfl rfl rfl (by rw [(beq_eq_false_iff_ne.2 c75)]; rfl)) rfl ?_
   refine OpsQ.no (Want.bool rfl rfl rfl rfl (by rw [(beq_eq_false_iff_ne.2 c75)]; rfl)) rfl ?_
   refine OpsQ.no (Want.bool rfl rfl rfl rfl (by rw [(beq_eq_false_iff_ne.2 c75)]; rfl)) rfl ?_
   refine OpsQ.no (Want.bool rfl rfl rfl rfl (by rw [(beq_eq_false_iff_ne.2 c75)]; rfl)) rfl ?_
   refine OpsQ.no (Want.bool rfl rfl rfl rfl (by rw [(beq_eq_false_iff_ne.2 c75)]; rfl)) rfl ?_
   refine OpsQ.no (Want.bool rfl rfl rfl rfl (by rw [(beq_eq_false_iff_ne.2 c75)]; rfl)) rfl ?_
   refine OpsQ.no (Want.bool rfl rfl rfl rfl (by rw [(beq_eq_false_iff_ne.2 c75)]; rfl)) rfl ?_
   refine OpsQ.yes (Want.plain rfl) rfl (OpR.pickF rfl (beq_eq_false_iff_ne.2 c75) rfl) ?_
   exact OpsQ.nil
 obtain ⟨x76, hx76, ht73⟩ := bnd_some ht73
 obtain ⟨x77, hx77, ht73⟩ := bnd_some ht73
 obtain ⟨x78, hx78, ht73⟩ := bnd_some ht73
 obtain ⟨x79, hx79, ht73⟩ := bnd_some ht73
 refine T.drawQ drawsX [.val (.int .i64 x60.2), .val (.bool (x60.2 == 0)), .val (.bool (x60.2 == 0)), .agg [.sl 5 (List.map e_cell_Cell x60.1.fCells), .val (.int .i64 x60.1.fEnd), .val (.bool x60.1.fHidden)], .val (.pointer (some ⟨(blk (vn w3 0)), 0, none⟩)), .sl 1 (List.map byteD x76), .val (.string (bs x76)), .val (.pointer (some ⟨(blk p61), 1, none⟩)), .val (.int .i64 x60.1.fEnd), .val (.string (bs x77)), .val (.string (bs x78)), .val (.string (bs x1)), .val (.int .i64 s50.1), .val (.int .i64 x71.2), .val (.string (bs x79)), .val (.bool (!(x78 == x79))), .val (.bool (!(x78 == x79)))] [0, 2, 3, 5, 6, 7, 9, 10, 13, 14, 38, 39, 69, 70, 71, 72, 73, 74, 75, 76, 77, 78, 79, 80, 81, 82, 83, 84, 85, 86, 87, 88, 89, 90, 91, 92] (by decide +kernel) rfl ?_ rfl ?_
 rotate_left
 · obtain rfl := Option.some.inj ht73
   exact ⟨_, Gst.trans (Gst.only [0, 2, 3, 5, 6, 7, 14, 38, 39, 92] rfl) (Gst.pick [0, 2] rfl rfl), rfl⟩
 refine OpsQ.yes (Want.plain rfl) rfl (OpR.pure rfl) ?_
 refine OpsQ.yes (Want.plain rfl) rfl (OpR.pure rfl) ?_
 refine OpsQ.yes (Want.plain rfl) rfl (OpR.pure rfl) ?_
 refine OpsQ.yes (Want.bool rfl rfl rfl rfl (by rw [(beq_iff_eq.2 c75)]; rfl)) rfl (OpR.loadPtr 1 rfl rfl rfl rfl) ?_
 refine OpsQ.yes (Want.bool rfl rfl rfl rfl (by rw [(beq_iff_eq.2 c75)]; rfl)) rfl (OpR.pure rfl) ?_
 refine OpsQ.yes (Want.bool rfl rfl rfl rfl (by rw [(beq_iff_eq.2 c75)]; rfl)) rfl (OpR.call [0, 2] fn33 (row_Row_Print_c hx76) rfl rfl rfl (fun _ => rfl)) ?_
 refine OpsQ.yes (Want.bool rfl rfl rfl rfl (by rw [(beq_iff_eq.2 c75)]; rfl)) rfl (OpR.toStr (bs := x76) rfl rfl rfl rfl rfl rfl rfl) ?_
 refine OpsQ.yes (Want.bool rfl rfl rfl rfl (by rw [(beq_iff_eq.2 c75)]; rfl)) rfl (OpR.pure rfl) ?_
 refine OpsQ.yes (Want.bool rfl rfl rfl rfl (by rw [(beq_iff_eq.2 c75)]; rfl)) rfl (OpR.loadPtr 1 rfl rfl rfl rfl) ?_
 refine OpsQ.yes (Want.bool rfl rfl rfl rfl (by rw [(beq_iff_eq.2 c75)]; rfl)) rfl (OpR.call0 fn34 (ref05_Mark_c hx77) rfl) ?_
 refine OpsQ.yes (Want.bool rfl rfl rfl rfl (by rw [(beq_iff_eq.2 c75)]; rfl)) rfl (OpR.concatM hx78 rfl rfl) ?_
 refine OpsQ.yes (Want.bool rfl rfl rfl rfl (by rw [(beq_iff_eq.2 c75)]; rfl)) rfl (OpR.pure rfl) ?_
 refine OpsQ.yes (Want.bool rfl rfl rfl rfl (by rw [(beq_iff_eq.2 c75)]; rfl)) rfl (OpR.pure rfl) ?_
 refine OpsQ.yes (Want.bool rfl rfl rfl rfl (by rw [(beq_iff_eq.2 c75)]; rfl)) rfl (OpR.pure rfl) ?_
 refine OpsQ.yes (Want.bool rfl rfl rfl rfl (by rw [(beq_iff_eq.2 c75)]; rfl)) rfl (OpR.sliceS hx79 rfl rfl rfl (BdM.some rfl) (BdM.some rfl)) ?_
 refine OpsQ.yes (Want.bool rfl rfl rfl rfl (by rw [(beq_iff_eq.2 c75)]; rfl)) rfl (OpR.cast (OpR.pure rfl) (boolE (strNe _ _))) ?_
 refine OpsQ.yes (Want.plain rfl) rfl (OpR.pickT rfl (beq_iff_eq.2 c75) rfl) ?_
 exact OpsQ.nil
end Go.Proofs.Ytbcbggdgkdfciaa.S
