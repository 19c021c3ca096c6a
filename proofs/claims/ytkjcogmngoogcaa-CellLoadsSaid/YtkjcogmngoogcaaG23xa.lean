/- Printed by a program of this session's own (gen.py): Lean functions for Go functions, and the proofs that the Go code comes to their answers. -/
import Derived.Test.YtkjcogmngoogcaaG21xa
import Derived.Test.YtkjcogmngoogcaaG17xa
import Derived.Test.YtkjcogmngoogcaaG13xa
import Derived.Test.YtkjcogmngoogcaaG15xa
import Derived.Test.YtkjcogmngoogcaaG22xa
import Derived.Test.YtkjcogmngoogcaaG8xa
set_option linter.unusedVariables false
set_option linter.unusedSimpArgs false
namespace Go.Proofs.Ytkjcogmngoogcaa.S
open Go Go.Sm
attribute [local irreducible] T TL OpR CallT iter loop
noncomputable def law07_CellLoads.l1 (x1 : (List UInt8)) (x2 : Int × (List UInt8)) (x5 : (List ref05_Row)) (s10 : Int) (x19 : scan_Row) (s26 : Int) : Option (Lp Int (Ex Unit Bool)) :=
  if s26 < (x19.fFields.length : Int) then
    bnd (idx x19.fFields s26) fun x35 =>
    bnd (idx x5 s10) fun x37 =>
    bnd (idx x37.fFields s26) fun x38 =>
    bnd (cut x1 x38.fRaw.fAt (w64 (x38.fRaw.fAt + x38.fRaw.fN))) fun x40 =>
    bnd (cell_Load x35) fun x41 =>
    bnd (bnd (law07_Plain_2 x41 x2.2) fun x45 =>
    bnd (ref05_Text x1 x38.fBytes) fun x46 =>
    if x45 = (⟨x46, x40, true⟩ : ref07_Cell) then
      bnd (cell_Cell_Print x41 x2.2) fun x48 =>
      if x48 = x40 then
        bnd (cell_Cell_Empty x41) fun x50 =>
        some (!(x50 == ((x38.fBytes.length : Int) == 0)))
      else
        some true
    else
      some true : Option Bool) fun t43 =>
    if t43 = true then
      some (Lp.done (Ex.ret false))
    else
      some (Lp.next (w64 (s26 + 1)))
  else
    some (Lp.done (Ex.brk ()))
noncomputable def law07_CellLoads.l2 (x1 : (List UInt8)) (x2 : Int × (List UInt8)) (x5 : (List ref05_Row)) (x6 : (List scan_Row)) (s10 : Int) : Option (Lp Int (Ex Unit Bool)) :=
  if s10 < (x6.length : Int) then
    bnd (idx x6 s10) fun x19 =>
    bnd (idx x5 s10) fun x22 =>
    if (x19.fFields.length : Int) = (x22.fFields.length : Int) then
      bnd (loop (law07_CellLoads.l1 x1 x2 x5 s10 x19) 0 : Option (Ex Unit Bool)) fun t24 => match t24 with
        | .brk u25 =>
          some (Lp.next (w64 (s10 + 1)))
        | .ret u25 => some (Lp.done (Ex.ret u25))
    else
      some (Lp.done (Ex.ret false))
  else
    some (Lp.done (Ex.brk ()))
noncomputable def law07_CellLoads (a0 : List UInt8) : Option Bool :=
  bnd (law07_cut a0 600) fun x1 =>
  bnd (arena_New x1) fun x2 =>
  match x2 with
  | .inl x2 =>
      some false
  | .inr x2 =>
      if x2.1 = 0 then
        bnd (ref05_All x1) fun x5 =>
        bnd (scan_All x1) fun x6 =>
        if (x6.length : Int) = (x5.length : Int) then
          bnd (loop (law07_CellLoads.l2 x1 x2 x5 x6) 0 : Option (Ex Unit Bool)) fun t8 => match t8 with
            | .brk u9 =>
              bnd (law07_awake) fun x52 =>
              some x52
            | .ret u9 => some u9
        else
          some false
      else
        some false
set_option maxHeartbeats 4000000 in
theorem law07_CellLoads_c {a0 : List UInt8} {res : Bool} (h0 : law07_CellLoads a0 = some res) : CallF X 10 [.val (.string (bs a0))] [] (fun x => .val (.bool res)) (fun x => []) := by
 unfold law07_CellLoads at h0
 refine CallF.mkG (X := X) Try.func10 rfl rfl Try.ntmps10 rfl rfl ?_
 refine T.seq ?_
 refine T.region ?_
 refine TL.op1 (OpR.pure rfl) rfl ?_
 refine TL.nil ?_
 show T X _ _ _
 refine T.seq ?_
 refine T.region ?_
 refine TL.op1 (OpR.pure rfl) rfl ?_
 obtain ⟨x1, hx1, h0⟩ := bnd_some h0
 refine TL.op1 (OpR.call0 fn42 (law07_cut_c hx1) rfl) rfl ?_
 refine TL.op1 (OpR.pure rfl) rfl ?_
 refine TL.nil ?_
 show T X _ _ _
 refine T.seq ?_
 refine T.region ?_
 refine TL.op1 (OpR.pure rfl) rfl ?_
 refine TL.op1 (OpR.toBytesM rfl rfl rfl rfl rfl rfl rfl) rfl ?_
 obtain ⟨x2, hx2, h0⟩ := bnd_some h0
 rcases x2 with x2 | x2
 · dsimp only at h0
   refine TL.op1 (OpR.call0 fn43 (arena_New_cx1 hx2) rfl) rfl ?_
   refine TL.op1 (OpR.pure rfl) rfl ?_
   refine TL.op1 (OpR.pure rfl) rfl ?_
   refine TL.op1 (OpR.pure rfl) rfl ?_
   refine TL.op1 (OpR.pure rfl) rfl ?_
   refine TL.op1 (OpR.pure rfl) rfl ?_
   refine TL.nil ?_
   show T X _ _ _
   refine T.seq ?_
   refine T.seq ?_
   refine T.region ?_
   refine TL.op1 (OpR.pure rfl) rfl ?_
   refine TL.op1 (OpR.ptrNil rfl rfl rfl) rfl ?_
   refine TL.op1 (OpR.pure rfl) rfl ?_
   refine TL.off rfl rfl rfl rfl rfl rfl rfl ?_
   refine TL.off rfl rfl rfl rfl rfl rfl rfl ?_
   refine TL.op1 (OpR.pickT rfl rfl rfl) rfl ?_
   refine TL.nil ?_
   show T X _ _ _
   refine T.condT rfl rfl ?_
   refine T.seq ?_
   refine T.region ?_
   refine TL.op1 (OpR.pure rfl) rfl ?_
   refine TL.nil ?_
   show T X _ _ _
   refine T.ret ?_
   obtain rfl := Option.some.inj h0
   exact PostG.retP (ks := []) (Gst.only [2] rfl) undef (ResL.cons (ResV.tmp rfl) ResL.nil) rfl rfl rfl rfl
 dsimp only at h0
 refine TL.op (OpR.call [] fn43 (arena_New_cx2 hx2) rfl rfl rfl (fun _ => rfl)) rfl (fun w3 => ?_)
 refine TL.op1 (OpR.pure rfl) rfl ?_
 refine TL.op1 (OpR.pure rfl) rfl ?_
 refine TL.op1 (OpR.pure rfl) rfl ?_
 refine TL.op1 (OpR.pure rfl) rfl ?_
 refine TL.op1 (OpR.pure rfl) rfl ?_
 refine TL.nil ?_
 show T X _ _ _
 refine T.seq ?_
 refine T.seq ?_
 refine T.region ?_
 refine TL.op1 (OpR.pure rfl) rfl ?_
 refine TL.op1 (OpR.ptrNil rfl rfl rfl) rfl ?_
 refine TL.op1 (OpR.pure rfl) rfl ?_
 refine TL.on rfl rfl rfl rfl rfl ?_
 refine TL.op1 (OpR.pure rfl) rfl ?_
 refine TL.on rfl rfl rfl rfl rfl ?_
 refine TL.op1 (OpR.pure rfl) rfl ?_
 refine TL.op1 (OpR.pickF rfl rfl rfl) rfl ?_
 refine TL.nil ?_
 show T X _ _ _
 rcases ite_some h0 with ⟨c4, h0⟩ | ⟨c4, h0⟩
 rotate_left
 · refine T.condT rfl (not_f (beq_eq_false_iff_ne.2 c4)) ?_
   refine T.seq ?_
   refine T.region ?_
   refine TL.op1 (OpR.pure rfl) rfl ?_
   refine TL.nil ?_
   show T X _ _ _
   refine T.ret ?_
   obtain rfl := Option.some.inj h0
   exact PostG.retP (ks := []) (Gst.trans (Gst.only [2] rfl) (Gst.pick [] rfl rfl)) undef (ResL.cons (ResV.tmp rfl) ResL.nil) rfl rfl rfl rfl
 refine T.condF rfl (not_t (beq_iff_eq.2 c4)) ?_
 refine T.skip ?_
 show T X _ _ _
 refine T.seq ?_
 refine T.region ?_
 refine TL.op1 (OpR.pure rfl) rfl ?_
 obtain ⟨x5, hx5, h0⟩ := bnd_some h0
 refine TL.op1 (OpR.call0 fn49 (ref05_All_c hx5) rfl) rfl ?_
 refine TL.op1 (OpR.pure rfl) rfl ?_
 refine TL.nil ?_
 show T X _ _ _
 refine T.seq ?_
 refine T.region ?_
 refine TL.op1 (OpR.pure rfl) rfl ?_
 refine TL.op1 (OpR.toBytesM rfl rfl rfl rfl rfl rfl rfl) rfl ?_
 obtain ⟨x6, hx6, h0⟩ := bnd_some h0
 refine TL.op1 (OpR.call0 fn29 (scan_All_c hx6) rfl) rfl ?_
 refine TL.op1 (OpR.pure rfl) rfl ?_
 refine TL.nil ?_
 show T X _ _ _
 refine T.seq ?_
 refine T.seq ?_
 refine T.region ?_
 refine TL.op1 (OpR.pure rfl) rfl ?_
 refine TL.op1 (OpR.cast (OpR.pure rfl) (intE (lenM _ _))) rfl ?_
 refine TL.op1 (OpR.pure rfl) rfl ?_
 refine TL.op1 (OpR.cast (OpR.pure rfl) (intE (lenM _ _))) rfl ?_
 refine TL.op1 (OpR.pure rfl) rfl ?_
 refine TL.nil ?_
 show T X _ _ _
 rcases ite_some h0 with ⟨c7, h0⟩ | ⟨c7, h0⟩
 rotate_left
 · refine T.condT rfl (not_f (beq_eq_false_iff_ne.2 c7)) ?_
   refine T.seq ?_
   refine T.region ?_
   refine TL.op1 (OpR.pure rfl) rfl ?_
   refine TL.nil ?_
   show T X _ _ _
   refine T.ret ?_
   obtain rfl := Option.some.inj h0
   exact PostG.retP (ks := []) (Gst.trans (Gst.only [2] rfl) (Gst.pick [] rfl rfl)) undef (ResL.cons (ResV.tmp rfl) ResL.nil) rfl rfl rfl rfl
 refine T.condF rfl (not_t (beq_iff_eq.2 c7)) ?_
 refine T.skip ?_
 show T X _ _ _
 refine T.seq ?_
 refine T.seq ?_
 refine T.region ?_
 refine TL.op1 (OpR.pure rfl) rfl ?_
 refine TL.op1 (OpR.cast (OpR.pure rfl) (intE (lenM _ _))) rfl ?_
 refine TL.op1 (OpR.pure rfl) rfl ?_
 refine TL.nil ?_
 show T X _ _ _
 obtain ⟨t8, ht8, h0⟩ := bnd_some h0
 refine T.cutC (fun S' => ∃ u9, t8 = Ex.brk u9 ∧ S' = ⟨[(2, .val (.bool false))], [], 115⟩) (fun _ h => h) ?_ ?_
 rotate_left
 · rintro _ ⟨u9, rfl, rfl⟩
   show T X _ _ _
   refine T.seq ?_
   refine T.region ?_
   obtain ⟨x52, hx52, h0⟩ := bnd_some h0
   refine TL.op1 (OpR.call0 fn45 (law07_awake_c hx52) rfl) rfl ?_
   refine TL.op1 (OpR.pure rfl) rfl ?_
   refine TL.nil ?_
   show T X _ _ _
   refine T.ret ?_
   obtain rfl := Option.some.inj h0
   exact PostG.retP (ks := []) (Gst.only [2] rfl) undef (ResL.cons (ResV.tmp rfl) ResL.nil) rfl rfl rfl rfl
 refine T.block ?_
 obtain ⟨n11, n16⟩ := loop_some ht8
 refine T.loop (fun n S' => ∃ S'', Gst S' S'' ∧ ∃ s10 : Int, S'' = ⟨[(40, .val (.int .i64 s10)), (39, .val (.int .i64 (x6.length : Int))), (38, .sl 2 (List.map e_scan_Row x6)), (5, .sl 2 (List.map e_ref05_Row x5)), (3, .val (.pointer (some ⟨(blk (vn w3 0)), 0, none⟩))), (2, .val (.bool false)), (0, .val (.string (bs x1)))], [.var (blk (vn w3 0)) [.val (vn w3 1)] 127, .row (vn w3 1) (List.map byteD x2.2) 1 5], 115⟩ ∧ iter (law07_CellLoads.l2 x1 x2 x5 x6) n s10 = some t8) n11 ?_ ?_
 · exact ⟨_, Gst.only [0, 2, 3, 5, 38, 39, 40] rfl, 0, rfl, n16⟩
 rintro n11 _ ⟨_, g, s10, rfl, i15⟩
 refine T.ghost g ?_
 obtain ⟨m12, q13, rfl, q14, i15⟩ := iter_succ i15
 unfold law07_CellLoads.l2 at q14
 refine T.seq ?_
 refine T.region ?_
 refine TL.op1 (OpR.pure rfl) rfl ?_
 refine TL.nil ?_
 show T X _ _ _
 refine T.seq ?_
 rcases ite_some q14 with ⟨c18, q14⟩ | ⟨c18, q14⟩
 rotate_left
 · refine T.condF rfl (decide_eq_false c18) ?_
   refine T.exit ?_
   obtain rfl := Option.some.inj q14
   obtain rfl : _ = _ := i15
   exact ⟨_, Gst.trans (Gst.only [2] rfl) (Gst.pick [] rfl rfl), _, rfl, rfl⟩
 refine T.condT rfl (decide_eq_true c18) ?_
 refine T.skip ?_
 show T X _ _ _
 refine T.seq ?_
 refine T.block ?_
 refine T.seq ?_
 refine T.region ?_
 refine TL.op1 (OpR.pure rfl) rfl ?_
 obtain ⟨x19, hx19, q14⟩ := bnd_some q14
 refine TL.op1 (OpR.indexM e_scan_Row hx19 rfl rfl rfl rfl rfl) rfl ?_
 refine TL.op1 (OpR.pure rfl) rfl ?_
 refine TL.op (OpR.alloc rfl rfl (fun _ => rfl)) rfl (fun p20 => ?_)
 refine TL.op1 (OpR.pure rfl) rfl ?_
 refine TL.op0 (OpR.store 2 rfl rfl rfl rfl rfl rfl rfl rfl) ?_
 refine TL.nil ?_
 show T X _ _ _
 refine T.seq ?_
 refine T.seq ?_
 obtain ⟨x22, hx22, q14⟩ := bnd_some q14
 refine T.drawQ drawsX [.val (.pointer (some ⟨(blk p20), 0, none⟩)), .sl 4 (List.map e_scan_Field x19.fFields), .val (.int .i64 (x19.fFields.length : Int)), .sl 2 (List.map e_ref05_Row x5), .val (.int .i64 s10), .nod [.sl 4 (List.map e_ref05_Field x22.fFields), .val (.int .i64 x22.fEnd)], .nod [.sl 4 (List.map e_ref05_Field x22.fFields), .val (.int .i64 x22.fEnd)], .sl 4 (List.map e_ref05_Field x22.fFields), .val (.int .i64 (x22.fFields.length : Int)), .val (.bool (!((x19.fFields.length : Int) == (x22.fFields.length : Int))))] [0, 2, 3, 5, 7, 8, 38, 39, 40, 41, 42, 43, 44, 45, 46, 47, 48, 49, 50, 51, 52, 53, 54] (by decide +kernel) rfl ?_ rfl ?_
 · refine OpsQ.yes (Want.plain rfl) rfl (OpR.pure rfl) ?_
   refine OpsQ.yes (Want.plain rfl) rfl (OpR.loadPtr 2 rfl rfl rfl rfl) ?_
   refine OpsQ.yes (Want.plain rfl) rfl (OpR.cast (OpR.pure rfl) (intE (lenM _ _))) ?_
   refine OpsQ.yes (Want.plain rfl) rfl (OpR.pure rfl) ?_
   refine OpsQ.yes (Want.plain rfl) rfl (OpR.pure rfl) ?_
   refine OpsQ.yes (Want.plain rfl) rfl (OpR.indexM e_ref05_Row hx22 rfl rfl rfl rfl rfl) ?_
   refine OpsQ.yes (Want.plain rfl) rfl (OpR.pure rfl) ?_
   refine OpsQ.yes (Want.plain rfl) rfl (OpR.pure rfl) ?_
   refine OpsQ.yes (Want.plain rfl) rfl (OpR.cast (OpR.pure rfl) (intE (lenM _ _))) ?_
   refine OpsQ.yes (Want.plain rfl) rfl (OpR.pure rfl) ?_
   exact OpsQ.nil
 show T X _ _ _
 rcases ite_some q14 with ⟨c23, q14⟩ | ⟨c23, q14⟩
 rotate_left
 · refine T.condT rfl (not_f (beq_eq_false_iff_ne.2 c23)) ?_
   refine T.seq ?_
   refine T.region ?_
   refine TL.op1 (OpR.pure rfl) rfl ?_
   refine TL.nil ?_
   show T X _ _ _
   refine T.ret ?_
   obtain rfl := Option.some.inj q14
   obtain rfl : _ = _ := i15
   obtain rfl := Option.some.inj h0
   exact PostG.retP (ks := []) (Gst.trans (Gst.only [2] rfl) (Gst.pick [] rfl rfl)) undef (ResL.cons (ResV.tmp rfl) ResL.nil) rfl rfl rfl rfl
 refine T.condF rfl (not_t (beq_iff_eq.2 c23)) ?_
 refine T.skip ?_
 show T X _ _ _
 refine T.seq ?_
 refine T.region ?_
 refine TL.op1 (OpR.pure rfl) rfl ?_
 refine TL.op1 (OpR.loadPtr 2 rfl rfl rfl rfl) rfl ?_
 refine TL.op1 (OpR.cast (OpR.pure rfl) (intE (lenM _ _))) rfl ?_
 refine TL.op1 (OpR.pure rfl) rfl ?_
 refine TL.nil ?_
 show T X _ _ _
 obtain ⟨t24, ht24, q14⟩ := bnd_some q14
 refine T.cutC (fun S' => ∃ u25, t24 = Ex.brk u25 ∧ S' = ⟨[(40, .val (.int .i64 s10)), (39, .val (.int .i64 (x6.length : Int))), (38, .sl 2 (List.map e_scan_Row x6)), (5, .sl 2 (List.map e_ref05_Row x5)), (3, .val (.pointer (some ⟨(blk (vn w3 0)), 0, none⟩))), (2, .val (.bool false)), (0, .val (.string (bs x1)))], [.var (blk (vn w3 0)) [.val (vn w3 1)] 127, .row (vn w3 1) (List.map byteD x2.2) 1 5], 115⟩) (fun _ h => h) ?_ ?_
 rotate_left
 · rintro _ ⟨u25, rfl, rfl⟩
   show T X _ _ _
   refine T.region ?_
   refine TL.op1 (OpR.pure rfl) rfl ?_
   refine TL.op1 (OpR.pure rfl) rfl ?_
   refine TL.nil ?_
   obtain rfl := Option.some.inj q14
   exact ⟨m12, Nat.lt_succ_self _, _, Gst.only [0, 2, 3, 5, 38, 39, 40] rfl, w64 (s10 + 1), rfl, i15⟩
 refine T.block ?_
 obtain ⟨n27, n32⟩ := loop_some ht24
 refine T.loop (fun n S' => ∃ S'', Gst S' S'' ∧ ∃ s26 : Int, S'' = ⟨[(58, .val (.int .i64 s26)), (57, .val (.int .i64 (x19.fFields.length : Int))), (56, .sl 4 (List.map e_scan_Field x19.fFields)), (40, .val (.int .i64 s10)), (39, .val (.int .i64 (x6.length : Int))), (38, .sl 2 (List.map e_scan_Row x6)), (7, .val (.int .i64 s10)), (5, .sl 2 (List.map e_ref05_Row x5)), (3, .val (.pointer (some ⟨(blk (vn w3 0)), 0, none⟩))), (2, .val (.bool false)), (0, .val (.string (bs x1)))], [.var (blk (vn w3 0)) [.val (vn w3 1)] 127, .row (vn w3 1) (List.map byteD x2.2) 1 5], 115⟩ ∧ iter (law07_CellLoads.l1 x1 x2 x5 s10 x19) n s26 = some t24) n27 ?_ ?_
 · exact ⟨_, Gst.trans (Gst.only [0, 2, 3, 5, 7, 38, 39, 40, 56, 57, 58] rfl) (Gst.pick [0, 1] rfl rfl), 0, rfl, n32⟩
 rintro n27 _ ⟨_, g, s26, rfl, i31⟩
 refine T.ghost g ?_
 obtain ⟨m28, q29, rfl, q30, i31⟩ := iter_succ i31
 unfold law07_CellLoads.l1 at q30
 refine T.seq ?_
 refine T.region ?_
 refine TL.op1 (OpR.pure rfl) rfl ?_
 refine TL.nil ?_
 show T X _ _ _
 refine T.seq ?_
 rcases ite_some q30 with ⟨c34, q30⟩ | ⟨c34, q30⟩
 rotate_left
 · refine T.condF rfl (decide_eq_false c34) ?_
   refine T.exit ?_
   obtain rfl := Option.some.inj q30
   obtain rfl : _ = _ := i31
   exact ⟨_, Gst.only [0, 2, 3, 5, 38, 39, 40] rfl, _, rfl, rfl⟩
 refine T.condT rfl (decide_eq_true c34) ?_
 refine T.skip ?_
 show T X _ _ _
 refine T.seq ?_
 refine T.block ?_
 refine T.seq ?_
 refine T.region ?_
 refine TL.op1 (OpR.pure rfl) rfl ?_
 obtain ⟨x35, hx35, q30⟩ := bnd_some q30
 refine TL.op1 (OpR.indexM e_scan_Field hx35 rfl rfl rfl rfl rfl) rfl ?_
 refine TL.op1 (OpR.pure rfl) rfl ?_
 refine TL.op (OpR.alloc rfl rfl (fun _ => rfl)) rfl (fun p36 => ?_)
 refine TL.op1 (OpR.pure rfl) rfl ?_
 refine TL.op0 (OpR.store 2 rfl rfl rfl rfl rfl rfl rfl rfl) ?_
 refine TL.nil ?_
 show T X _ _ _
 refine T.seq ?_
 refine T.region ?_
 refine TL.op1 (OpR.pure rfl) rfl ?_
 refine TL.op1 (OpR.pure rfl) rfl ?_
 obtain ⟨x37, hx37, q30⟩ := bnd_some q30
 refine TL.op1 (OpR.indexM e_ref05_Row hx37 rfl rfl rfl rfl rfl) rfl ?_
 refine TL.op1 (OpR.pure rfl) rfl ?_
 refine TL.op1 (OpR.pure rfl) rfl ?_
 refine TL.op1 (OpR.pure rfl) rfl ?_
 obtain ⟨x38, hx38, q30⟩ := bnd_some q30
 refine TL.op1 (OpR.indexM e_ref05_Field hx38 rfl rfl rfl rfl rfl) rfl ?_
 refine TL.op1 (OpR.pure rfl) rfl ?_
 refine TL.op (OpR.alloc rfl rfl (fun _ => rfl)) rfl (fun p39 => ?_)
 refine TL.op0 (OpR.store 3 rfl rfl rfl rfl rfl rfl rfl rfl) ?_
 refine TL.nil ?_
 show T X _ _ _
 refine T.seq ?_
 refine T.region ?_
 refine TL.op1 (OpR.pure rfl) rfl ?_
 refine TL.op1 (OpR.pure rfl) rfl ?_
 refine TL.op1 (OpR.pure rfl) rfl ?_
 refine TL.op1 (OpR.loadPtr 3 rfl rfl rfl rfl) rfl ?_
 refine TL.op1 (OpR.pure rfl) rfl ?_
 refine TL.op1 (OpR.pure rfl) rfl ?_
 refine TL.op1 (OpR.loadPtr 3 rfl rfl rfl rfl) rfl ?_
 refine TL.op1 (OpR.pure rfl) rfl ?_
 refine TL.op1 (OpR.pure rfl) rfl ?_
 refine TL.op1 (OpR.loadPtr 3 rfl rfl rfl rfl) rfl ?_
 refine TL.op1 (OpR.pure rfl) rfl ?_
 obtain ⟨x40, hx40, q30⟩ := bnd_some q30
 refine TL.op1 (OpR.sliceS hx40 rfl rfl rfl (BdM.some rfl) (BdM.some rfl)) rfl ?_
 refine TL.op1 (OpR.pure rfl) rfl ?_
 refine TL.nil ?_
 show T X _ _ _
 refine T.seq ?_
 refine T.region ?_
 refine TL.op1 (OpR.loadPtr 2 rfl rfl rfl rfl) rfl ?_
 obtain ⟨x41, hx41, q30⟩ := bnd_some q30
 refine TL.op1 (OpR.call0 fn44 (cell_Load_c hx41) rfl) rfl ?_
 refine TL.op (OpR.alloc rfl rfl (fun _ => rfl)) rfl (fun p42 => ?_)
 refine TL.op0 (OpR.store 4 rfl rfl rfl rfl rfl rfl rfl rfl) ?_
 refine TL.nil ?_
 show T X _ _ _
 refine T.seq ?_
 obtain ⟨t43, ht43, q30⟩ := bnd_some q30
 refine T.cutC (fun S' => S' = ⟨[(111, .val (.bool t43)), (58, .val (.int .i64 s26)), (57, .val (.int .i64 (x19.fFields.length : Int))), (56, .sl 4 (List.map e_scan_Field x19.fFields)), (40, .val (.int .i64 s10)), (39, .val (.int .i64 (x6.length : Int))), (38, .sl 2 (List.map e_scan_Row x6)), (7, .val (.int .i64 s10)), (5, .sl 2 (List.map e_ref05_Row x5)), (3, .val (.pointer (some ⟨(blk (vn w3 0)), 0, none⟩))), (2, .val (.bool false)), (0, .val (.string (bs x1)))], [.var (blk (vn w3 0)) [.val (vn w3 1)] 127, .row (vn w3 1) (List.map byteD x2.2) 1 5], 115⟩) (fun _ h => h) ?_ ?_
 rotate_left
 · rintro _ rfl
   show T X _ _ _
   rcases ite_some q30 with ⟨c51, q30⟩ | ⟨c51, q30⟩
   rotate_left
   · refine T.condF rfl (eq_false_of_ne_true c51) ?_
     refine T.skip ?_
     show T X _ _ _
     refine T.region ?_
     refine TL.op1 (OpR.pure rfl) rfl ?_
     refine TL.op1 (OpR.pure rfl) rfl ?_
     refine TL.nil ?_
     obtain rfl := Option.some.inj q30
     exact ⟨m28, Nat.lt_succ_self _, _, Gst.only [0, 2, 3, 5, 7, 38, 39, 40, 56, 57, 58] rfl, w64 (s26 + 1), rfl, i31⟩
   refine T.condT rfl (c51) ?_
   refine T.seq ?_
   refine T.region ?_
   refine TL.op1 (OpR.pure rfl) rfl ?_
   refine TL.nil ?_
   show T X _ _ _
   refine T.ret ?_
   obtain rfl := Option.some.inj q30
   obtain rfl : _ = _ := i31
   obtain rfl := Option.some.inj q14
   obtain rfl : _ = _ := i15
   obtain rfl := Option.some.inj h0
   exact PostG.retP (ks := []) (Gst.trans (Gst.only [2] rfl) (Gst.pick [] rfl rfl)) undef (ResL.cons (ResV.tmp rfl) ResL.nil) rfl rfl rfl rfl
 obtain ⟨x45, hx45, ht43⟩ := bnd_some ht43
 obtain ⟨x46, hx46, ht43⟩ := bnd_some ht43
 rcases ite_some ht43 with ⟨c47, ht43⟩ | ⟨c47, ht43⟩
 rotate_left
 · refine T.drawQ drawsX [.val (.pointer (some ⟨(blk (vn w3 0)), 0, none⟩)), .agg [.sl 2 (List.map e_arena_Span x41.fText.fL), .val (.int .i64 x41.fText.fN), .val (.int .i64 x41.fRaw.fAt), .val (.int .i64 x41.fRaw.fN), .val (.bool x41.fKept)], .agg [.val (.string (bs x45.fS)), .val (.string (bs x45.fRaw)), .val (.bool x45.fKept)], .val (.string (bs x1)), .val (.pointer (some ⟨(blk p39), 3, none⟩)), .sl 1 (List.map (eI .i64) x38.fBytes), .val (.string (bs x46)), .val (.string (bs x40)), .agg [.val (.string (bs x46)), .val (.string (bs x40)), .val (.bool true)], .val (.bool (!(x45 == (⟨x46, x40, true⟩ : ref07_Cell)))), .val (.bool (!(x45 == (⟨x46, x40, true⟩ : ref07_Cell)))), .tup [], .tup [], .tup [], .tup [], .tup [], .tup [], .val (.bool true), .val (.bool true), .tup [], .tup [], .tup [], .tup [], .tup [], .tup [], .tup [], .val (.bool true)] [0, 2, 3, 5, 7, 9, 10, 11, 12, 13, 38, 39, 40, 56, 57, 58, 59, 60, 61, 62, 63, 64, 65, 66, 67, 68, 69, 70, 71, 72, 73, 74, 75, 76, 77, 78, 79, 80, 81, 82, 83, 84, 85, 86, 87, 88, 89, 90, 91, 92, 93, 94, 95, 96, 97, 98, 99, 100, 101, 102, 103, 104, 105, 106, 107, 108, 109, 110, 111] (by decide +kernel) rfl ?_ rfl ?_
   rotate_left
   · obtain rfl := Option.some.inj ht43
     exact ⟨_, Gst.trans (Gst.only [0, 2, 3, 5, 7, 38, 39, 40, 56, 57, 58, 111] rfl) (Gst.pick [0, 1] rfl rfl), rfl⟩
   refine OpsQ.yes (Want.plain rfl) rfl (OpR.pure rfl) ?_
   refine OpsQ.yes (Want.plain rfl) rfl (OpR.loadPtr 4 rfl rfl rfl rfl) ?_
   refine OpsQ.yes (Want.plain rfl) rfl (OpR.call [0, 1] fn47 (law07_Plain_2_c hx45) rfl rfl rfl (fun _ => rfl)) ?_
   refine OpsQ.yes (Want.plain rfl) rfl (OpR.pure rfl) ?_
   refine OpsQ.yes (Want.plain rfl) rfl (OpR.pure rfl) ?_
   refine OpsQ.yes (Want.plain rfl) rfl (OpR.loadPtr 3 rfl rfl rfl rfl) ?_
   refine OpsQ.yes (Want.plain rfl) rfl (OpR.call0 fn50 (ref05_Text_c hx46) rfl) ?_
   refine OpsQ.yes (Want.plain rfl) rfl (OpR.pure rfl) ?_
   refine OpsQ.yes (Want.plain rfl) rfl (OpR.build rfl rfl rfl rfl rfl) ?_
   refine OpsQ.yes (Want.plain rfl) rfl (OpR.cast (OpR.neStruct rfl rfl rfl rfl rfl (by kernel_rfl) (by kernel_rfl)) (boolE (congrArg (fun b => !b) (beq_ref07_Cell x45 (⟨x46, x40, true⟩ : ref07_Cell))))) ?_
   refine OpsQ.yes (Want.plain rfl) rfl (OpR.pure rfl) ?_
   refine OpsQ.no (Want.bool rfl rfl rfl rfl (by rw [(not_f (beq_eq_false_iff_ne.2 c47))]; rfl)) rfl ?_
   refine OpsQ.no (Want.bool rfl rfl rfl rfl (by rw [(not_f (beq_eq_false_iff_ne.2 c47))]; rfl)) rfl ?_
   refine OpsQ.no (Want.bool rfl rfl rfl rfl (by rw [(not_f (beq_eq_false_iff_ne.2 c47))]; rfl)) rfl ?_
   refine OpsQ.no (Want.bool rfl rfl rfl rfl (by rw [(not_f (beq_eq_false_iff_ne.2 c47))]; rfl)) rfl ?_
   refine OpsQ.no (Want.bool rfl rfl rfl rfl (by rw [(not_f (beq_eq_false_iff_ne.2 c47))]; rfl)) rfl ?_
   refine OpsQ.no (Want.bool rfl rfl rfl rfl (by rw [(not_f (beq_eq_false_iff_ne.2 c47))]; rfl)) rfl ?_
   refine OpsQ.yes (Want.plain rfl) rfl (OpR.pickT rfl (not_f (beq_eq_false_iff_ne.2 c47)) rfl) ?_
   refine OpsQ.yes (Want.plain rfl) rfl (OpR.pure rfl) ?_
   refine OpsQ.no (Want.bool rfl rfl rfl rfl rfl) rfl ?_
   refine OpsQ.no (Want.bool rfl rfl rfl rfl rfl) rfl ?_
   refine OpsQ.no (Want.bool rfl rfl rfl rfl rfl) rfl ?_
   refine OpsQ.no (Want.bool rfl rfl rfl rfl rfl) rfl ?_
   refine OpsQ.no (Want.bool rfl rfl rfl rfl rfl) rfl ?_
   refine OpsQ.no (Want.bool rfl rfl rfl rfl rfl) rfl ?_
   refine OpsQ.no (Want.bool rfl rfl rfl rfl rfl) rfl ?_
   refine OpsQ.yes (Want.plain rfl) rfl (OpR.pickT rfl rfl rfl) ?_
   exact OpsQ.nil
 obtain ⟨x48, hx48, ht43⟩ := bnd_some ht43
 rcases ite_some ht43 with ⟨c49, ht43⟩ | ⟨c49, ht43⟩
 rotate_left
 · refine T.drawQ drawsX [.val (.pointer (some ⟨(blk (vn w3 0)), 0, none⟩)), .agg [.sl 2 (List.map e_arena_Span x41.fText.fL), .val (.int .i64 x41.fText.fN), .val (.int .i64 x41.fRaw.fAt), .val (.int .i64 x41.fRaw.fN), .val (.bool x41.fKept)], .agg [.val (.string (bs x45.fS)), .val (.string (bs x45.fRaw)), .val (.bool x45.fKept)], .val (.string (bs x1)), .val (.pointer (some ⟨(blk p39), 3, none⟩)), .sl 1 (List.map (eI .i64) x38.fBytes), .val (.string (bs x46)), .val (.string (bs x40)), .agg [.val (.string (bs x46)), .val (.string (bs x40)), .val (.bool true)], .val (.bool (!(x45 == (⟨x46, x40, true⟩ : ref07_Cell)))), .val (.bool (!(x45 == (⟨x46, x40, true⟩ : ref07_Cell)))), .agg [.sl 2 (List.map e_arena_Span x41.fText.fL), .val (.int .i64 x41.fText.fN), .val (.int .i64 x41.fRaw.fAt), .val (.int .i64 x41.fRaw.fN), .val (.bool x41.fKept)], .val (.pointer (some ⟨(blk (vn w3 0)), 0, none⟩)), .sl 1 (List.map byteD x48), .val (.string (bs x48)), .val (.string (bs x40)), .val (.bool (!(x48 == x40))), .val (.bool (!(x48 == x40))), .val (.bool (!(x48 == x40))), .tup [], .tup [], .tup [], .tup [], .tup [], .tup [], .tup [], .val (.bool true)] [0, 2, 3, 5, 7, 9, 10, 11, 12, 13, 38, 39, 40, 56, 57, 58, 59, 60, 61, 62, 63, 64, 65, 66, 67, 68, 69, 70, 71, 72, 73, 74, 75, 76, 77, 78, 79, 80, 81, 82, 83, 84, 85, 86, 87, 88, 89, 90, 91, 92, 93, 94, 95, 96, 97, 98, 99, 100, 101, 102, 103, 104, 105, 106, 107, 108, 109, 110, 111] (by decide +kernel) rfl ?_ rfl ?_
   rotate_left
   · obtain rfl := Option.some.inj ht43
     exact ⟨_, Gst.trans (Gst.only [0, 2, 3, 5, 7, 38, 39, 40, 56, 57, 58, 111] rfl) (Gst.pick [0, 1] rfl rfl), rfl⟩
   refine OpsQ.yes (Want.plain rfl) rfl (OpR.pure rfl) ?_
   refine OpsQ.yes (Want.plain rfl) rfl (OpR.loadPtr 4 rfl rfl rfl rfl) ?_
   refine OpsQ.yes (Want.plain rfl) rfl (OpR.call [0, 1] fn47 (law07_Plain_2_c hx45) rfl rfl rfl (fun _ => rfl)) ?_
   refine OpsQ.yes (Want.plain rfl) rfl (OpR.pure rfl) ?_
   refine OpsQ.yes (Want.plain rfl) rfl (OpR.pure rfl) ?_
   refine OpsQ.yes (Want.plain rfl) rfl (OpR.loadPtr 3 rfl rfl rfl rfl) ?_
   refine OpsQ.yes (Want.plain rfl) rfl (OpR.call0 fn50 (ref05_Text_c hx46) rfl) ?_
   refine OpsQ.yes (Want.plain rfl) rfl (OpR.pure rfl) ?_
   refine OpsQ.yes (Want.plain rfl) rfl (OpR.build rfl rfl rfl rfl rfl) ?_
   refine OpsQ.yes (Want.plain rfl) rfl (OpR.cast (OpR.neStruct rfl rfl rfl rfl rfl (by kernel_rfl) (by kernel_rfl)) (boolE (congrArg (fun b => !b) (beq_ref07_Cell x45 (⟨x46, x40, true⟩ : ref07_Cell))))) ?_
   refine OpsQ.yes (Want.plain rfl) rfl (OpR.pure rfl) ?_
   refine OpsQ.yes (Want.bool rfl rfl rfl rfl (by rw [(not_t (beq_iff_eq.2 c47))]; rfl)) rfl (OpR.loadPtr 4 rfl rfl rfl rfl) ?_
   refine OpsQ.yes (Want.bool rfl rfl rfl rfl (by rw [(not_t (beq_iff_eq.2 c47))]; rfl)) rfl (OpR.pure rfl) ?_
   refine OpsQ.yes (Want.bool rfl rfl rfl rfl (by rw [(not_t (beq_iff_eq.2 c47))]; rfl)) rfl (OpR.call [0, 1] fn51 (cell_Cell_Print_c hx48) rfl rfl rfl (fun _ => rfl)) ?_
   refine OpsQ.yes (Want.bool rfl rfl rfl rfl (by rw [(not_t (beq_iff_eq.2 c47))]; rfl)) rfl (OpR.toStr (bs := x48) rfl rfl rfl rfl rfl rfl rfl) ?_
   refine OpsQ.yes (Want.bool rfl rfl rfl rfl (by rw [(not_t (beq_iff_eq.2 c47))]; rfl)) rfl (OpR.pure rfl) ?_
   refine OpsQ.yes (Want.bool rfl rfl rfl rfl (by rw [(not_t (beq_iff_eq.2 c47))]; rfl)) rfl (OpR.cast (OpR.pure rfl) (boolE (strNe _ _))) ?_
   refine OpsQ.yes (Want.plain rfl) rfl (OpR.pickF rfl (not_t (beq_iff_eq.2 c47)) rfl) ?_
   refine OpsQ.yes (Want.plain rfl) rfl (OpR.pure rfl) ?_
   refine OpsQ.no (Want.bool rfl rfl rfl rfl (by rw [(not_f (beq_eq_false_iff_ne.2 c49))]; rfl)) rfl ?_
   refine OpsQ.no (Want.bool rfl rfl rfl rfl (by rw [(not_f (beq_eq_false_iff_ne.2 c49))]; rfl)) rfl ?_
   refine OpsQ.no (Want.bool rfl rfl rfl rfl (by rw [(not_f (beq_eq_false_iff_ne.2 c49))]; rfl)) rfl ?_
   refine OpsQ.no (Want.bool rfl rfl rfl rfl (by rw [(not_f (beq_eq_false_iff_ne.2 c49))]; rfl)) rfl ?_
   refine OpsQ.no (Want.bool rfl rfl rfl rfl (by rw [(not_f (beq_eq_false_iff_ne.2 c49))]; rfl)) rfl ?_
   refine OpsQ.no (Want.bool rfl rfl rfl rfl (by rw [(not_f (beq_eq_false_iff_ne.2 c49))]; rfl)) rfl ?_
   refine OpsQ.no (Want.bool rfl rfl rfl rfl (by rw [(not_f (beq_eq_false_iff_ne.2 c49))]; rfl)) rfl ?_
   refine OpsQ.yes (Want.plain rfl) rfl (OpR.pickT rfl (not_f (beq_eq_false_iff_ne.2 c49)) rfl) ?_
   exact OpsQ.nil
 obtain ⟨x50, hx50, ht43⟩ := bnd_some ht43
 refine T.drawQ drawsX [.val (.pointer (some ⟨(blk (vn w3 0)), 0, none⟩)), .agg [.sl 2 (List.map e_arena_Span x41.fText.fL), .val (.int .i64 x41.fText.fN), .val (.int .i64 x41.fRaw.fAt), .val (.int .i64 x41.fRaw.fN), .val (.bool x41.fKept)], .agg [.val (.string (bs x45.fS)), .val (.string (bs x45.fRaw)), .val (.bool x45.fKept)], .val (.string (bs x1)), .val (.pointer (some ⟨(blk p39), 3, none⟩)), .sl 1 (List.map (eI .i64) x38.fBytes), .val (.string (bs x46)), .val (.string (bs x40)), .agg [.val (.string (bs x46)), .val (.string (bs x40)), .val (.bool true)], .val (.bool (!(x45 == (⟨x46, x40, true⟩ : ref07_Cell)))), .val (.bool (!(x45 == (⟨x46, x40, true⟩ : ref07_Cell)))), .agg [.sl 2 (List.map e_arena_Span x41.fText.fL), .val (.int .i64 x41.fText.fN), .val (.int .i64 x41.fRaw.fAt), .val (.int .i64 x41.fRaw.fN), .val (.bool x41.fKept)], .val (.pointer (some ⟨(blk (vn w3 0)), 0, none⟩)), .sl 1 (List.map byteD x48), .val (.string (bs x48)), .val (.string (bs x40)), .val (.bool (!(x48 == x40))), .val (.bool (!(x48 == x40))), .val (.bool (!(x48 == x40))), .agg [.sl 2 (List.map e_arena_Span x41.fText.fL), .val (.int .i64 x41.fText.fN), .val (.int .i64 x41.fRaw.fAt), .val (.int .i64 x41.fRaw.fN), .val (.bool x41.fKept)], .val (.bool x50), .val (.pointer (some ⟨(blk p39), 3, none⟩)), .sl 1 (List.map (eI .i64) x38.fBytes), .val (.int .i64 (x38.fBytes.length : Int)), .val (.bool ((x38.fBytes.length : Int) == 0)), .val (.bool (!(x50 == ((x38.fBytes.length : Int) == 0)))), .val (.bool (!(x50 == ((x38.fBytes.length : Int) == 0))))] [0, 2, 3, 5, 7, 9, 10, 11, 12, 13, 38, 39, 40, 56, 57, 58, 59, 60, 61, 62, 63, 64, 65, 66, 67, 68, 69, 70, 71, 72, 73, 74, 75, 76, 77, 78, 79, 80, 81, 82, 83, 84, 85, 86, 87, 88, 89, 90, 91, 92, 93, 94, 95, 96, 97, 98, 99, 100, 101, 102, 103, 104, 105, 106, 107, 108, 109, 110, 111] (by decide +kernel) rfl ?_ rfl ?_
 rotate_left
 · obtain rfl := Option.some.inj ht43
   exact ⟨_, Gst.trans (Gst.only [0, 2, 3, 5, 7, 38, 39, 40, 56, 57, 58, 111] rfl) (Gst.pick [0, 1] rfl rfl), rfl⟩
 refine OpsQ.yes (Want.plain rfl) rfl (OpR.pure rfl) ?_
 refine OpsQ.yes (Want.plain rfl) rfl (OpR.loadPtr 4 rfl rfl rfl rfl) ?_
 refine OpsQ.yes (Want.plain rfl) rfl (OpR.call [0, 1] fn47 (law07_Plain_2_c hx45) rfl rfl rfl (fun _ => rfl)) ?_
 refine OpsQ.yes (Want.plain rfl) rfl (OpR.pure rfl) ?_
 refine OpsQ.yes (Want.plain rfl) rfl (OpR.pure rfl) ?_
 refine OpsQ.yes (Want.plain rfl) rfl (OpR.loadPtr 3 rfl rfl rfl rfl) ?_
 refine OpsQ.yes (Want.plain rfl) rfl (OpR.call0 fn50 (ref05_Text_c hx46) rfl) ?_
 refine OpsQ.yes (Want.plain rfl) rfl (OpR.pure rfl) ?_
 refine OpsQ.yes (Want.plain rfl) rfl (OpR.build rfl rfl rfl rfl rfl) ?_
 refine OpsQ.yes (Want.plain rfl) rfl (OpR.cast (OpR.neStruct rfl rfl rfl rfl rfl (by kernel_rfl) (by kernel_rfl)) (boolE (congrArg (fun b => !b) (beq_ref07_Cell x45 (⟨x46, x40, true⟩ : ref07_Cell))))) ?_
 refine OpsQ.yes (Want.plain rfl) rfl (OpR.pure rfl) ?_
 refine OpsQ.yes (Want.bool rfl rfl rfl rfl (by rw [(not_t (beq_iff_eq.2 c47))]; rfl)) rfl (OpR.loadPtr 4 rfl rfl rfl rfl) ?_
 refine OpsQ.yes (Want.bool rfl rfl rfl rfl (by rw [(not_t (beq_iff_eq.2 c47))]; rfl)) rfl (OpR.pure rfl) ?_
 refine OpsQ.yes (Want.bool rfl rfl rfl rfl (by rw [(not_t (beq_iff_eq.2 c47))]; rfl)) rfl (OpR.call [0, 1] fn51 (cell_Cell_Print_c hx48) rfl rfl rfl (fun _ => rfl)) ?_
 refine OpsQ.yes (Want.bool rfl rfl rfl rfl (by rw [(not_t (beq_iff_eq.2 c47))]; rfl)) rfl (OpR.toStr (bs := x48) rfl rfl rfl rfl rfl rfl rfl) ?_
 refine OpsQ.yes (Want.bool rfl rfl rfl rfl (by rw [(not_t (beq_iff_eq.2 c47))]; rfl)) rfl (OpR.pure rfl) ?_
 refine OpsQ.yes (Want.bool rfl rfl rfl rfl (by rw [(not_t (beq_iff_eq.2 c47))]; rfl)) rfl (OpR.cast (OpR.pure rfl) (boolE (strNe _ _))) ?_
 refine OpsQ.yes (Want.plain rfl) rfl (OpR.pickF rfl (not_t (beq_iff_eq.2 c47)) rfl) ?_
 refine OpsQ.yes (Want.plain rfl) rfl (OpR.pure rfl) ?_
 refine OpsQ.yes (Want.bool rfl rfl rfl rfl (by rw [(not_t (beq_iff_eq.2 c49))]; rfl)) rfl (OpR.loadPtr 4 rfl rfl rfl rfl) ?_
 refine OpsQ.yes (Want.bool rfl rfl rfl rfl (by rw [(not_t (beq_iff_eq.2 c49))]; rfl)) rfl (OpR.call0 fn52 (cell_Cell_Empty_c hx50) rfl) ?_
 refine OpsQ.yes (Want.bool rfl rfl rfl rfl (by rw [(not_t (beq_iff_eq.2 c49))]; rfl)) rfl (OpR.pure rfl) ?_
 refine OpsQ.yes (Want.bool rfl rfl rfl rfl (by rw [(not_t (beq_iff_eq.2 c49))]; rfl)) rfl (OpR.loadPtr 3 rfl rfl rfl rfl) ?_
 refine OpsQ.yes (Want.bool rfl rfl rfl rfl (by rw [(not_t (beq_iff_eq.2 c49))]; rfl)) rfl (OpR.cast (OpR.pure rfl) (intE (lenM _ _))) ?_
 refine OpsQ.yes (Want.bool rfl rfl rfl rfl (by rw [(not_t (beq_iff_eq.2 c49))]; rfl)) rfl (OpR.pure rfl) ?_
 refine OpsQ.yes (Want.bool rfl rfl rfl rfl (by rw [(not_t (beq_iff_eq.2 c49))]; rfl)) rfl (OpR.neBool rfl rfl rfl rfl) ?_
 refine OpsQ.yes (Want.plain rfl) rfl (OpR.pickF rfl (not_t (beq_iff_eq.2 c49)) rfl) ?_
 exact OpsQ.nil
end Go.Proofs.Ytkjcogmngoogcaa.S
