/- Printed by a program of this session's own (gen.py): Lean functions for Go functions, and the proofs that the Go code comes to their answers. -/
import Derived.Test.YtpmhiiemklhbhaaG1xd
import Derived.Test.YtpmhiiemklhbhaaG1xa
import Derived.Test.YtpmhiiemklhbhaaG1xb
import Derived.Test.YtpmhiiemklhbhaaG1xc
set_option linter.unusedVariables false
set_option linter.unusedSimpArgs false
set_option maxRecDepth 20000
namespace Go.Proofs.Ytpmhiiemklhbhaa.S
open Go Go.Sm
attribute [local irreducible] T TL OpR CallT iter loop
noncomputable def law12_ColsCells.l1 (a1 : Int) (x2 : grid_Grid × ref11_Grid × Bool × (List UInt8)) (x7 : (List cell_Cell) × (List Bool)) (s13 : Int) : Option (Lp Int (Ex Unit Bool)) :=
  if s13 < (x7.1.length : Int) then
    bnd (ref11_At x2.2.1 s13 a1) fun x22 =>
    bnd (bnd (idx x7.2 s13) fun x26 =>
    if (x22.2 == x26) = true then
      bnd (idx x7.1 s13) fun x28 =>
      bnd (law07_Plain x28 x2.2.2.2) fun x29 =>
      some (!(x29 == x22.1))
    else
      some true : Option Bool) fun t24 =>
    if t24 = true then
      some (Lp.done (Ex.ret false))
    else
      some (Lp.next (w64 (s13 + 1)))
  else
    some (Lp.done (Ex.brk ()))
noncomputable def law12_ColsCells (a0 : List UInt8) (a1 : Int) : Option Bool :=
  bnd (law11_Cut a0 1500) fun x1 =>
  bnd (law11_Begun x1) fun x2 =>
  match x2 with
  | .inl x2 =>
      if x2.2.2.1 = true then
        bnd (cols_Cells x2.1 a1) fun x7 =>
        bnd (if (x7.1.length : Int) = (x2.2.1.fRows.length : Int) then
          some (!((x7.2.length : Int) == (x7.1.length : Int)))
        else
          some true : Option Bool) fun t8 =>
        if t8 = true then
          some false
        else
          bnd (loop (law12_ColsCells.l1 a1 x2 x7) 0 : Option (Ex Unit Bool)) fun t11 => match t11 with
            | .brk u12 =>
              bnd (law12_awake) fun x31 =>
              some x31
            | .ret u12 => some u12
      else
        bnd (law12_awake) fun x32 =>
        some x32
  | .inr x2 =>
      some false
set_option maxHeartbeats 4000000 in
theorem law12_ColsCells_c {a0 : List UInt8} {a1 : Int} {res : Bool} (h0 : law12_ColsCells a0 a1 = some res) : CallF X 3 [.val (.string (bs a0)), .val (.int .i64 a1)] [] (fun x => .val (.bool res)) (fun x => []) := by
 unfold law12_ColsCells at h0
 refine CallF.mkG (X := X) rfl Try.func3 rfl rfl Try.ntmps3 rfl rfl ?_
 refine aS ?_
 refine aA rfl rfl ?_
 refine TL.nil ?_
 show T X _ _ _
 refine aS ?_
 refine aA rfl rfl ?_
 obtain ⟨x1, hx1, h0⟩ := bnd_some h0
 refine TL.op1 (OpR.call0 fn5 (law11_Cut_c hx1) rfl) rfl ?_
 obtain ⟨x2, hx2, h0⟩ := bnd_some h0
 rcases x2 with x2 | x2
 rotate_left
 · dsimp only at h0
   refine TL.op1 (OpR.call0 fn4 (law11_Begun_cx2 hx2) rfl) rfl ?_
   iterate 5 refine aA rfl rfl ?_
   refine TL.op (OpR.alloc rfl rfl (fun _ => rfl)) rfl (fun p33 => ?_)
   refine TL.op (OpR.alloc rfl rfl (fun _ => rfl)) rfl (fun p34 => ?_)
   refine TL.op0 (OpR.store 0 rfl rfl rfl rfl rfl rfl rfl rfl) ?_
   refine aA rfl rfl ?_
   refine TL.op0 (OpR.store 1 rfl rfl rfl rfl rfl rfl rfl rfl) ?_
   refine aA rfl rfl ?_
   refine TL.nil ?_
   show T X _ _ _
   refine T.seq ?_
   refine aS ?_
   iterate 2 refine aA rfl rfl ?_
   refine TL.nil ?_
   show T X _ _ _
   refine T.condT rfl rfl ?_
   refine aS ?_
   refine aA rfl rfl ?_
   refine TL.op1 (OpR.ptrNe (A := none) rfl rfl rfl) rfl ?_
   refine aA rfl rfl ?_
   refine TL.off rfl rfl rfl rfl rfl rfl rfl ?_
   refine TL.op1 (OpR.pickF rfl rfl rfl) rfl ?_
   refine aA rfl rfl ?_
   refine TL.nil ?_
   show T X _ _ _
   refine T.ret ?_
   obtain rfl := Option.some.inj h0
   exact PostG.retP (ks := []) (Gst.trans (Gst.only [4] rfl) (Gst.pick [] rfl rfl)) undef (ResL.cons (ResV.tmp rfl) ResL.nil) rfl rfl rfl rfl
 dsimp only at h0
 refine TL.op (OpR.call [] fn4 (law11_Begun_cx1 hx2) rfl rfl rfl (fun _ => rfl)) rfl (fun w3 => ?_)
 iterate 5 refine aA rfl rfl ?_
 refine TL.op (OpR.alloc rfl rfl (fun _ => rfl)) rfl (fun p4 => ?_)
 refine TL.op (OpR.alloc rfl rfl (fun _ => rfl)) rfl (fun p5 => ?_)
 refine TL.op0 (OpR.store 2 rfl rfl rfl rfl rfl rfl rfl rfl) ?_
 refine aA rfl rfl ?_
 refine TL.op0 (OpR.store 3 rfl rfl rfl rfl rfl rfl rfl rfl) ?_
 refine aA rfl rfl ?_
 refine TL.nil ?_
 show T X _ _ _
 refine T.seq ?_
 refine aS ?_
 iterate 2 refine aA rfl rfl ?_
 refine TL.nil ?_
 show T X _ _ _
 rcases ite_some h0 with ⟨c6, h0⟩ | ⟨c6, h0⟩
 rotate_left
 · refine T.condT rfl (not_f (eq_false_of_ne_true c6)) ?_
   refine aS ?_
   refine aA rfl rfl ?_
   refine TL.op1 (OpR.ptrNe (A := some ⟨(blk (vn w3 0)), 0, none⟩) rfl rfl rfl) rfl ?_
   refine aA rfl rfl ?_
   refine TL.on rfl rfl rfl rfl rfl ?_
   obtain ⟨x32, hx32, h0⟩ := bnd_some h0
   refine TL.op1 (OpR.call0 fn6 (law12_awake_c hx32) rfl) rfl ?_
   refine TL.op1 (OpR.pickT rfl rfl rfl) rfl ?_
   refine aA rfl rfl ?_
   refine TL.nil ?_
   show T X _ _ _
   refine T.ret ?_
   obtain rfl := Option.some.inj h0
   exact PostG.retP (ks := []) (Gst.trans (Gst.only [4] rfl) (Gst.pick [] rfl rfl)) undef (ResL.cons (ResV.tmp rfl) ResL.nil) rfl rfl rfl rfl
 refine T.condF rfl (not_t (c6)) ?_
 refine T.skip ?_
 show T X _ _ _
 refine aS ?_
 refine TL.op1 (OpR.loadPtr 2 rfl rfl rfl rfl) rfl ?_
 refine aA rfl rfl ?_
 obtain ⟨x7, hx7, h0⟩ := bnd_some h0
 refine TL.op1 (OpR.call0 fn7 (cols_Cells_c hx7) rfl) rfl ?_
 iterate 5 refine aA rfl rfl ?_
 refine TL.nil ?_
 show T X _ _ _
 refine T.seq ?_
 refine T.seq ?_
 obtain ⟨t8, ht8, h0⟩ := bnd_some h0
 refine T.cutC (fun S' => S' = ⟨[(47, .val (.bool t8)), (10, .sl 1 (List.map eB x7.2)), (9, .sl 5 (List.map e_cell_Cell x7.1)), (7, .val (.pointer (some ⟨(blk p5), 0, none⟩))), (6, .val (.pointer (some ⟨(blk (vn w3 0)), 0, none⟩))), (4, .val (.bool false)), (1, .val (.int .i64 a1))], [.var (blk (vn w3 0)) [.val (vn w3 1)] 123, .var (blk p5) [.sl 3 (List.map e_ref08_Row x2.2.1.fRows), .val (.bool x2.2.1.fTail), .val (.int .i64 x2.2.1.fEnd)] 30, .row (vn w3 1) (List.map byteD x2.2.2.2) 1 5], 78⟩) (fun _ h => h) ?_ ?_
 · refine T.region ?_
   refine aA rfl rfl ?_
   refine TL.op1 (OpR.cast (OpR.pure rfl) (intE (lenM _ _))) rfl ?_
   refine aA rfl rfl ?_
   refine TL.op1 (OpR.loadPtr 3 rfl rfl rfl rfl) rfl ?_
   refine TL.op1 (OpR.cast (OpR.pure rfl) (intE (lenM _ _))) rfl ?_
   iterate 2 refine aA rfl rfl ?_
   rcases ite_some ht8 with ⟨c9, ht8⟩ | ⟨c9, ht8⟩
   rotate_left
   · refine TL.off rfl rfl rfl rfl (not_f (beq_eq_false_iff_ne.2 c9)) rfl rfl ?_
     refine TL.off rfl rfl rfl rfl (not_f (beq_eq_false_iff_ne.2 c9)) rfl rfl ?_
     refine TL.off rfl rfl rfl rfl (not_f (beq_eq_false_iff_ne.2 c9)) rfl rfl ?_
     refine TL.off rfl rfl rfl rfl (not_f (beq_eq_false_iff_ne.2 c9)) rfl rfl ?_
     refine TL.off rfl rfl rfl rfl (not_f (beq_eq_false_iff_ne.2 c9)) rfl rfl ?_
     refine TL.op1 (OpR.pickT rfl (not_f (beq_eq_false_iff_ne.2 c9)) rfl) rfl ?_
     refine TL.nil ?_
     obtain rfl := Option.some.inj ht8
     exact ⟨_, Gst.trans (Gst.only [1, 4, 6, 7, 9, 10, 47] rfl) (Gst.pick [0, 3, 1] rfl rfl), rfl⟩
   refine TL.on rfl rfl rfl rfl (not_t (beq_iff_eq.2 c9)) ?_
   refine aA rfl rfl ?_
   refine TL.on rfl rfl rfl rfl (not_t (beq_iff_eq.2 c9)) ?_
   refine TL.op1 (OpR.cast (OpR.pure rfl) (intE (lenM _ _))) rfl ?_
   refine TL.on rfl rfl rfl rfl (not_t (beq_iff_eq.2 c9)) ?_
   refine aA rfl rfl ?_
   refine TL.on rfl rfl rfl rfl (not_t (beq_iff_eq.2 c9)) ?_
   refine TL.op1 (OpR.cast (OpR.pure rfl) (intE (lenM _ _))) rfl ?_
   refine TL.on rfl rfl rfl rfl (not_t (beq_iff_eq.2 c9)) ?_
   refine aA rfl rfl ?_
   refine TL.op1 (OpR.pickF rfl (not_t (beq_iff_eq.2 c9)) rfl) rfl ?_
   refine TL.nil ?_
   obtain rfl := Option.some.inj ht8
   exact ⟨_, Gst.trans (Gst.only [1, 4, 6, 7, 9, 10, 47] rfl) (Gst.pick [0, 3, 1] rfl rfl), rfl⟩
 rintro _ rfl
 show T X _ _ _
 rcases ite_some h0 with ⟨c10, h0⟩ | ⟨c10, h0⟩
 · refine T.condT rfl (c10) ?_
   refine aS ?_
   refine aA rfl rfl ?_
   refine TL.nil ?_
   show T X _ _ _
   refine T.ret ?_
   obtain rfl := Option.some.inj h0
   exact PostG.retP (ks := []) (Gst.trans (Gst.only [4] rfl) (Gst.pick [] rfl rfl)) undef (ResL.cons (ResV.tmp rfl) ResL.nil) rfl rfl rfl rfl
 refine T.condF rfl (eq_false_of_ne_true c10) ?_
 refine T.skip ?_
 show T X _ _ _
 refine T.seq ?_
 refine aS ?_
 refine aA rfl rfl ?_
 refine TL.op1 (OpR.cast (OpR.pure rfl) (intE (lenM _ _))) rfl ?_
 refine aA rfl rfl ?_
 refine TL.nil ?_
 show T X _ _ _
 obtain ⟨t11, ht11, h0⟩ := bnd_some h0
 refine T.cutC (fun S' => ∃ u12, t11 = Ex.brk u12 ∧ S' = ⟨[(4, .val (.bool false))], [], 78⟩) (fun _ h => h) ?_ ?_
 rotate_left
 · rintro _ ⟨u12, rfl, rfl⟩
   show T X _ _ _
   refine aS ?_
   obtain ⟨x31, hx31, h0⟩ := bnd_some h0
   refine TL.op1 (OpR.call0 fn6 (law12_awake_c hx31) rfl) rfl ?_
   refine aA rfl rfl ?_
   refine TL.nil ?_
   show T X _ _ _
   refine T.ret ?_
   obtain rfl := Option.some.inj h0
   exact PostG.retP (ks := []) (Gst.only [4] rfl) undef (ResL.cons (ResV.tmp rfl) ResL.nil) rfl rfl rfl rfl
 refine T.block ?_
 obtain ⟨n14, n19⟩ := loop_some ht11
 refine T.loop (fun n S' => ∃ S'', Gst S' S'' ∧ ∃ s13 : Int, S'' = ⟨[(50, .val (.int .i64 s13)), (49, .val (.int .i64 (x7.1.length : Int))), (10, .sl 1 (List.map eB x7.2)), (9, .sl 5 (List.map e_cell_Cell x7.1)), (7, .val (.pointer (some ⟨(blk p5), 0, none⟩))), (6, .val (.pointer (some ⟨(blk (vn w3 0)), 0, none⟩))), (4, .val (.bool false)), (1, .val (.int .i64 a1))], [.var (blk (vn w3 0)) [.val (vn w3 1)] 123, .var (blk p5) [.sl 3 (List.map e_ref08_Row x2.2.1.fRows), .val (.bool x2.2.1.fTail), .val (.int .i64 x2.2.1.fEnd)] 30, .row (vn w3 1) (List.map byteD x2.2.2.2) 1 5], 78⟩ ∧ iter (law12_ColsCells.l1 a1 x2 x7) n s13 = some t11) n14 ?_ ?_
 · exact ⟨_, Gst.only [1, 4, 6, 7, 9, 10, 49, 50] rfl, 0, rfl, n19⟩
 rintro n14 _ ⟨_, g, s13, rfl, i18⟩
 refine T.ghost g ?_
 obtain ⟨m15, q16, rfl, q17, i18⟩ := iter_succ i18
 unfold law12_ColsCells.l1 at q17
 refine aS ?_
 refine aA rfl rfl ?_
 refine TL.nil ?_
 show T X _ _ _
 refine T.seq ?_
 rcases ite_some q17 with ⟨c21, q17⟩ | ⟨c21, q17⟩
 rotate_left
 · refine T.condF rfl (decide_eq_false c21) ?_
   refine T.exit ?_
   obtain rfl := Option.some.inj q17
   obtain rfl : _ = _ := i18
   exact ⟨_, Gst.trans (Gst.only [4] rfl) (Gst.pick [] rfl rfl), _, rfl, rfl⟩
 refine T.condT rfl (decide_eq_true c21) ?_
 refine T.skip ?_
 show T X _ _ _
 refine T.seq ?_
 refine T.block ?_
 refine aS ?_
 iterate 2 refine aA rfl rfl ?_
 refine TL.nil ?_
 show T X _ _ _
 refine aS ?_
 refine TL.op1 (OpR.loadPtr 1 rfl rfl rfl rfl) rfl ?_
 iterate 2 refine aA rfl rfl ?_
 obtain ⟨x22, hx22, q17⟩ := bnd_some q17
 refine TL.op1 (OpR.call0 fn8 (ref11_At_c hx22) rfl) rfl ?_
 iterate 3 refine aA rfl rfl ?_
 refine TL.op (OpR.alloc rfl rfl (fun _ => rfl)) rfl (fun p23 => ?_)
 refine TL.op0 (OpR.store 3 rfl rfl rfl rfl rfl rfl rfl rfl) ?_
 refine aA rfl rfl ?_
 refine TL.nil ?_
 show T X _ _ _
 refine T.seq ?_
 obtain ⟨t24, ht24, q17⟩ := bnd_some q17
 refine T.cutC (fun S' => S' = ⟨[(75, .val (.bool t24)), (50, .val (.int .i64 s13)), (49, .val (.int .i64 (x7.1.length : Int))), (10, .sl 1 (List.map eB x7.2)), (9, .sl 5 (List.map e_cell_Cell x7.1)), (7, .val (.pointer (some ⟨(blk p5), 0, none⟩))), (6, .val (.pointer (some ⟨(blk (vn w3 0)), 0, none⟩))), (4, .val (.bool false)), (1, .val (.int .i64 a1))], [.var (blk (vn w3 0)) [.val (vn w3 1)] 123, .var (blk p5) [.sl 3 (List.map e_ref08_Row x2.2.1.fRows), .val (.bool x2.2.1.fTail), .val (.int .i64 x2.2.1.fEnd)] 30, .row (vn w3 1) (List.map byteD x2.2.2.2) 1 5], 78⟩) (fun _ h => h) ?_ ?_
 rotate_left
 · rintro _ rfl
   show T X _ _ _
   rcases ite_some q17 with ⟨c30, q17⟩ | ⟨c30, q17⟩
   rotate_left
   · refine T.condF rfl (eq_false_of_ne_true c30) ?_
     refine T.skip ?_
     show T X _ _ _
     refine T.region ?_
     iterate 2 refine aA rfl rfl ?_
     refine TL.nil ?_
     obtain rfl := Option.some.inj q17
     exact ⟨m15, Nat.lt_succ_self _, _, Gst.only [1, 4, 6, 7, 9, 10, 49, 50] rfl, w64 (s13 + 1), rfl, i18⟩
   refine T.condT rfl (c30) ?_
   refine aS ?_
   refine aA rfl rfl ?_
   refine TL.nil ?_
   show T X _ _ _
   refine T.ret ?_
   obtain rfl := Option.some.inj q17
   obtain rfl : _ = _ := i18
   obtain rfl := Option.some.inj h0
   exact PostG.retP (ks := []) (Gst.trans (Gst.only [4] rfl) (Gst.pick [] rfl rfl)) undef (ResL.cons (ResV.tmp rfl) ResL.nil) rfl rfl rfl rfl
 obtain ⟨x26, hx26, ht24⟩ := bnd_some ht24
 rcases ite_some ht24 with ⟨c27, ht24⟩ | ⟨c27, ht24⟩
 rotate_left
 · refine T.drawQ drawsX [.val (.bool x22.2), .sl 1 (List.map eB x7.2), .val (.int .i64 s13), .nod [.val (.bool x26)], .val (.bool x26), .val (.bool (!(x22.2 == x26))), .val (.bool (!(x22.2 == x26))), .tup [], .tup [], .tup [], .tup [], .tup [], .tup [], .tup [], .tup [], .val (.bool true)] [1, 4, 6, 7, 9, 10, 49, 50, 75] (by decide +kernel) rfl ?_ rfl ?_
   rotate_left
   · obtain rfl := Option.some.inj ht24
     exact ⟨_, Gst.trans (Gst.only [1, 4, 6, 7, 9, 10, 49, 50, 75] rfl) (Gst.pick [0, 1, 2] rfl rfl), rfl⟩
   iterate 3 refine aB rfl rfl rfl ?_
   refine OpsQ.yes (Want.plain rfl) rfl (OpR.indexM eB hx26 rfl rfl rfl rfl rfl) ?_
   refine aB rfl rfl rfl ?_
   refine OpsQ.yes (Want.plain rfl) rfl (OpR.neBool rfl rfl rfl rfl) ?_
   refine aB rfl rfl rfl ?_
   refine OpsQ.no (Want.bool rfl rfl rfl rfl (by rw [(not_f (eq_false_of_ne_true c27))]; rfl)) rfl ?_
   refine OpsQ.no (Want.bool rfl rfl rfl rfl (by rw [(not_f (eq_false_of_ne_true c27))]; rfl)) rfl ?_
   refine OpsQ.no (Want.bool rfl rfl rfl rfl (by rw [(not_f (eq_false_of_ne_true c27))]; rfl)) rfl ?_
   refine OpsQ.no (Want.bool rfl rfl rfl rfl (by rw [(not_f (eq_false_of_ne_true c27))]; rfl)) rfl ?_
   refine OpsQ.no (Want.bool rfl rfl rfl rfl (by rw [(not_f (eq_false_of_ne_true c27))]; rfl)) rfl ?_
   refine OpsQ.no (Want.bool rfl rfl rfl rfl (by rw [(not_f (eq_false_of_ne_true c27))]; rfl)) rfl ?_
   refine OpsQ.no (Want.bool rfl rfl rfl rfl (by rw [(not_f (eq_false_of_ne_true c27))]; rfl)) rfl ?_
   refine OpsQ.no (Want.bool rfl rfl rfl rfl (by rw [(not_f (eq_false_of_ne_true c27))]; rfl)) rfl ?_
   refine OpsQ.yes (Want.plain rfl) rfl (OpR.pickT rfl (not_f (eq_false_of_ne_true c27)) rfl) ?_
   exact OpsQ.nil
 obtain ⟨x28, hx28, ht24⟩ := bnd_some ht24
 obtain ⟨x29, hx29, ht24⟩ := bnd_some ht24
 refine T.drawQ drawsX [.val (.bool x22.2), .sl 1 (List.map eB x7.2), .val (.int .i64 s13), .nod [.val (.bool x26)], .val (.bool x26), .val (.bool (!(x22.2 == x26))), .val (.bool (!(x22.2 == x26))), .val (.pointer (some ⟨(blk (vn w3 0)), 0, none⟩)), .sl 5 (List.map e_cell_Cell x7.1), .val (.int .i64 s13), .nod [.sl 2 (List.map e_arena_Span x28.fText.fL), .val (.int .i64 x28.fText.fN), .val (.int .i64 x28.fRaw.fAt), .val (.int .i64 x28.fRaw.fN), .val (.bool x28.fKept)], .agg [.sl 2 (List.map e_arena_Span x28.fText.fL), .val (.int .i64 x28.fText.fN), .val (.int .i64 x28.fRaw.fAt), .val (.int .i64 x28.fRaw.fN), .val (.bool x28.fKept)], .agg [.val (.string (bs x29.fS)), .val (.string (bs x29.fRaw)), .val (.bool x29.fKept)], .agg [.val (.string (bs x22.1.fS)), .val (.string (bs x22.1.fRaw)), .val (.bool x22.1.fKept)], .val (.bool (!(x29 == x22.1))), .val (.bool (!(x29 == x22.1)))] [1, 4, 6, 7, 9, 10, 49, 50, 75] (by decide +kernel) rfl ?_ rfl ?_
 rotate_left
 · obtain rfl := Option.some.inj ht24
   exact ⟨_, Gst.trans (Gst.only [1, 4, 6, 7, 9, 10, 49, 50, 75] rfl) (Gst.pick [0, 1, 2] rfl rfl), rfl⟩
 iterate 3 refine aB rfl rfl rfl ?_
 refine OpsQ.yes (Want.plain rfl) rfl (OpR.indexM eB hx26 rfl rfl rfl rfl rfl) ?_
 refine aB rfl rfl rfl ?_
 refine OpsQ.yes (Want.plain rfl) rfl (OpR.neBool rfl rfl rfl rfl) ?_
 refine aB rfl rfl rfl ?_
 refine OpsQ.yes (Want.bool rfl rfl rfl rfl (by rw [(not_t (c27))]; rfl)) rfl (OpR.pure rfl) ?_
 refine OpsQ.yes (Want.bool rfl rfl rfl rfl (by rw [(not_t (c27))]; rfl)) rfl (OpR.pure rfl) ?_
 refine OpsQ.yes (Want.bool rfl rfl rfl rfl (by rw [(not_t (c27))]; rfl)) rfl (OpR.pure rfl) ?_
 refine OpsQ.yes (Want.bool rfl rfl rfl rfl (by rw [(not_t (c27))]; rfl)) rfl (OpR.indexM e_cell_Cell hx28 rfl rfl rfl rfl rfl) ?_
 refine OpsQ.yes (Want.bool rfl rfl rfl rfl (by rw [(not_t (c27))]; rfl)) rfl (OpR.pure rfl) ?_
 refine OpsQ.yes (Want.bool rfl rfl rfl rfl (by rw [(not_t (c27))]; rfl)) rfl (OpR.call [0, 2] fn9 (law07_Plain_c hx29) rfl rfl rfl (fun _ => rfl)) ?_
 refine OpsQ.yes (Want.bool rfl rfl rfl rfl (by rw [(not_t (c27))]; rfl)) rfl (OpR.loadPtr 3 rfl rfl rfl rfl) ?_
 refine OpsQ.yes (Want.bool rfl rfl rfl rfl (by rw [(not_t (c27))]; rfl)) rfl (OpR.cast (OpR.neStruct rfl rfl rfl rfl rfl (by kernel_rfl) (by kernel_rfl)) (boolE (congrArg (fun b => !b) (beq_ref07_Cell x29 x22.1)))) ?_
 refine OpsQ.yes (Want.plain rfl) rfl (OpR.pickF rfl (not_t (c27)) rfl) ?_
 exact OpsQ.nil
end Go.Proofs.Ytpmhiiemklhbhaa.S
