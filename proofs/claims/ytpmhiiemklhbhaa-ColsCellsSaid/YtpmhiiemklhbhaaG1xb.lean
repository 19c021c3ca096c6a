/- Printed by a program of this session's own (gen.py): Lean functions for Go functions, and the proofs that the Go code comes to their answers. -/
import Derived.Test.YtpmhiiemklhbhaaG1xa
set_option linter.unusedVariables false
set_option linter.unusedSimpArgs false
set_option maxRecDepth 20000
namespace Go.Proofs.Ytpmhiiemklhbhaa.S
open Go Go.Sm
attribute [local irreducible] T TL OpR CallT iter loop
noncomputable def grid_Load.l1 (x5 : (List scan_Row)) (s13 : Int × Int × (List row_Row)) : Option (Lp (Int × Int × (List row_Row)) (Ex (List row_Row) ((grid_Grid × Int × (List UInt8)) ⊕ (grid_Grid × Int)))) :=
  if s13.2.1 < (x5.length : Int) then
    bnd (idx x5 s13.2.1) fun x22 =>
    bnd (row_Load x22) fun x24 =>
    bnd (idx s13.2.2 s13.2.1) fun x25 =>
    if x24.2 = 0 then
      some (Lp.next (x24.2, w64 (s13.2.1 + 1), (s13.2.2.set s13.2.1.toNat x24.1)))
    else
      bnd (grid_refused x24.2) fun x27 =>
      some (Lp.done (Ex.ret (Sum.inl (x27.1, x27.2.1, x27.2.2))))
  else
    some (Lp.done (Ex.brk s13.2.2))
noncomputable def grid_Load.l2 (x35 : (List scan_Row)) (s43 : Int × Int × (List row_Row)) : Option (Lp (Int × Int × (List row_Row)) (Ex (List row_Row) ((grid_Grid × Int × (List UInt8)) ⊕ (grid_Grid × Int)))) :=
  if s43.2.1 < (x35.length : Int) then
    bnd (idx x35 s43.2.1) fun x52 =>
    bnd (row_Load x52) fun x54 =>
    bnd (idx s43.2.2 s43.2.1) fun x55 =>
    if x54.2 = 0 then
      some (Lp.next (x54.2, w64 (s43.2.1 + 1), (s43.2.2.set s43.2.1.toNat x54.1)))
    else
      bnd (grid_refused x54.2) fun x57 =>
      some (Lp.done (Ex.ret (Sum.inl (x57.1, x57.2.1, x57.2.2))))
  else
    some (Lp.done (Ex.brk s43.2.2))
noncomputable def grid_Load (a0 : List UInt8) : Option ((grid_Grid × Int × (List UInt8)) ⊕ (grid_Grid × Int)) :=
  bnd (arena_New a0) fun x2 =>
  match x2 with
  | .inl x2 =>
      if x2 = 0 then
        bnd (scan_All a0) fun x5 =>
        if (x5.length : Int) > 400 then
          bnd (grid_refused 6) fun x7 =>
          some (Sum.inl (x7.1, x7.2.1, x7.2.2))
        else
          bnd (mkz 40 (x5.length : Int) ((⟨[], 0, false⟩ : row_Row) : row_Row)) fun x9 =>
          bnd (loop (grid_Load.l1 x5) (x2, 0, x9) : Option (Ex (List row_Row) ((grid_Grid × Int × (List UInt8)) ⊕ (grid_Grid × Int)))) fun t11 => match t11 with
            | .brk u12 =>
              bnd (tree_Of_row_Row u12) fun x29 =>
              bnd (grid_ends x5) fun x31 =>
              some (Sum.inr ((⟨x29, x31.1, x31.2⟩ : grid_Grid), 0))
            | .ret u12 => some u12
      else
        bnd (grid_refused x2) fun x32 =>
        some (Sum.inl (x32.1, x32.2.1, x32.2.2))
  | .inr x2 =>
      if x2.1 = 0 then
        bnd (scan_All a0) fun x35 =>
        if (x35.length : Int) > 400 then
          bnd (grid_refused 6) fun x37 =>
          some (Sum.inl (x37.1, x37.2.1, x37.2.2))
        else
          bnd (mkz 40 (x35.length : Int) ((⟨[], 0, false⟩ : row_Row) : row_Row)) fun x39 =>
          bnd (loop (grid_Load.l2 x35) (x2.1, 0, x39) : Option (Ex (List row_Row) ((grid_Grid × Int × (List UInt8)) ⊕ (grid_Grid × Int)))) fun t41 => match t41 with
            | .brk u42 =>
              bnd (tree_Of_row_Row u42) fun x59 =>
              bnd (grid_ends x35) fun x61 =>
              some (Sum.inl ((⟨x59, x61.1, x61.2⟩ : grid_Grid), 0, x2.2))
            | .ret u42 => some u42
      else
        bnd (grid_refused x2.1) fun x62 =>
        some (Sum.inl (x62.1, x62.2.1, x62.2.2))
set_option maxHeartbeats 4000000 in
theorem grid_Load_c {a0 : List UInt8} {res : (grid_Grid × Int × (List UInt8)) ⊕ (grid_Grid × Int)} (h0 : grid_Load a0 = some res) : CallF X 10 [.sl 1 (List.map byteD a0)] [] (fun x => (match res with | .inl res => .tup [.agg [(eOP res.1.fRows.fRoot), .val (.bool res.1.fTail), .val (.int .i64 res.1.fEnd)], .val (.pointer (some ⟨(blk (vn x 0)), 0, none⟩)), .val (.int .i64 res.2.1)] | .inr res => .tup [.agg [(eOP res.1.fRows.fRoot), .val (.bool res.1.fTail), .val (.int .i64 res.1.fEnd)], .val (.pointer none), .val (.int .i64 res.2)])) (fun x => (match res with | .inl res => [.var (blk (vn x 0)) [.val (vn x 1)] 123, .row (vn x 1) (List.map byteD res.2.2) 1 5] | .inr res => [])) := by
 unfold grid_Load at h0
 refine CallF.mkG (X := X) rfl Try.func10 rfl rfl Try.ntmps10 rfl rfl ?_
 refine aS ?_
 refine TL.op (OpR.alloc rfl rfl (fun _ => rfl)) rfl (fun p1 => ?_)
 iterate 2 refine aA rfl rfl ?_
 refine TL.nil ?_
 show T X _ _ _
 refine aS ?_
 refine aA rfl rfl ?_
 obtain ⟨x2, hx2, h0⟩ := bnd_some h0
 rcases x2 with x2 | x2
 · dsimp only at h0
   refine TL.op1 (OpR.call0 fn22 (arena_New_cx1 hx2) rfl) rfl ?_
   iterate 5 refine aA rfl rfl ?_
   refine TL.nil ?_
   show T X _ _ _
   refine T.seq ?_
   refine aS ?_
   iterate 2 refine aA rfl rfl ?_
   refine TL.nil ?_
   show T X _ _ _
   rcases ite_some h0 with ⟨c4, h0⟩ | ⟨c4, h0⟩
   rotate_left
   · refine T.condT rfl (not_f (beq_eq_false_iff_ne.2 c4)) ?_
     refine aS ?_
     refine aA rfl rfl ?_
     obtain ⟨x32, hx32, h0⟩ := bnd_some h0
     refine TL.op (OpR.call [] fn23 (grid_refused_c hx32) rfl rfl rfl (fun _ => rfl)) rfl (fun w33 => ?_)
     iterate 3 refine aA rfl rfl ?_
     refine TL.op0 (OpR.store 0 rfl rfl rfl rfl rfl rfl rfl rfl) ?_
     iterate 2 refine aA rfl rfl ?_
     refine TL.nil ?_
     show T X _ _ _
     refine T.ret ?_
     obtain rfl := Option.some.inj h0
     exact PostG.retP (ks := [1, 2]) (Gst.only [2, 3, 4] rfl) (.tuple #[(vn w33 0), (vn w33 1)]) (ResL.cons (ResV.var 0 rfl rfl rfl rfl) (ResL.cons (ResV.tmp rfl) (ResL.cons (ResV.tmp rfl) ResL.nil))) rfl rfl rfl rfl
   refine T.condF rfl (not_t (beq_iff_eq.2 c4)) ?_
   refine T.skip ?_
   show T X _ _ _
   refine aS ?_
   refine aA rfl rfl ?_
   obtain ⟨x5, hx5, h0⟩ := bnd_some h0
   refine TL.op1 (OpR.call0 fn24 (scan_All_c hx5) rfl) rfl ?_
   refine aA rfl rfl ?_
   refine TL.nil ?_
   show T X _ _ _
   refine T.seq ?_
   refine aS ?_
   refine aA rfl rfl ?_
   refine TL.op1 (OpR.cast (OpR.pure rfl) (intE (lenM _ _))) rfl ?_
   refine aA rfl rfl ?_
   refine TL.nil ?_
   show T X _ _ _
   rcases ite_some h0 with ⟨c6, h0⟩ | ⟨c6, h0⟩
   · refine T.condT rfl (decide_eq_true c6) ?_
     refine aS ?_
     obtain ⟨x7, hx7, h0⟩ := bnd_some h0
     refine TL.op (OpR.call [] fn23 (grid_refused_c hx7) rfl rfl rfl (fun _ => rfl)) rfl (fun w8 => ?_)
     iterate 3 refine aA rfl rfl ?_
     refine TL.op0 (OpR.store 0 rfl rfl rfl rfl rfl rfl rfl rfl) ?_
     iterate 2 refine aA rfl rfl ?_
     refine TL.nil ?_
     show T X _ _ _
     refine T.ret ?_
     obtain rfl := Option.some.inj h0
     exact PostG.retP (ks := [1, 2]) (Gst.only [2, 3, 4] rfl) (.tuple #[(vn w8 0), (vn w8 1)]) (ResL.cons (ResV.var 0 rfl rfl rfl rfl) (ResL.cons (ResV.tmp rfl) (ResL.cons (ResV.tmp rfl) ResL.nil))) rfl rfl rfl rfl
   refine T.condF rfl (decide_eq_false c6) ?_
   refine T.skip ?_
   show T X _ _ _
   refine aS ?_
   refine aA rfl rfl ?_
   refine TL.op1 (OpR.cast (OpR.pure rfl) (intE (lenM _ _))) rfl ?_
   obtain ⟨x9, hx9, h0⟩ := bnd_some h0
   refine TL.op (OpR.makeN e_row_Row hx9 rfl rfl rfl rfl rfl rfl rfl rfl rfl rfl (ReL.cons (Re.base .nil) (ReL.cons Re.refl (ReL.cons Re.refl ReL.nil))) rfl (fun _ => rfl)) rfl (fun v10 => ?_)
   refine aA rfl rfl ?_
   refine TL.nil ?_
   show T X _ _ _
   refine T.seq ?_
   refine aS ?_
   refine aA rfl rfl ?_
   refine TL.op1 (OpR.cast (OpR.pure rfl) (intE (lenM _ _))) rfl ?_
   refine aA rfl rfl ?_
   refine TL.nil ?_
   show T X _ _ _
   obtain ⟨t11, ht11, h0⟩ := bnd_some h0
   refine T.cutC (fun S' => ∃ u12, t11 = Ex.brk u12 ∧ S' = ⟨[(8, .val v10), (7, .sl 2 (List.map e_scan_Row x5)), (5, .val (.pointer none)), (4, .val (.int .i64 0)), (3, .val (.pointer none)), (2, .val (.pointer (some ⟨(blk p1), 0, none⟩)))], [.var (blk p1) [(eOP none), .val (.bool false), .val (.int .i64 0)] 26, .row v10 (List.map e_row_Row u12) 3 68], 71⟩) (fun _ h => h) ?_ ?_
   rotate_left
   · rintro _ ⟨u12, rfl, rfl⟩
     show T X _ _ _
     refine aS ?_
     refine aA rfl rfl ?_
     refine TL.ghost (Gst.freezeRow 1 rfl rfl (ReS.cons (Re.base .all) (ReS.refl _)) (ReO.same (ReO.same ReO.nil))) ?_
     obtain ⟨x29, hx29, h0⟩ := bnd_some h0
     refine TL.op1 (OpR.call0 fn26 (tree_Of_row_Row_c hx29) rfl) rfl ?_
     refine TL.op1 (OpR.build rfl rfl rfl rfl rfl) rfl ?_
     refine TL.op (OpR.alloc rfl rfl (fun _ => rfl)) rfl (fun p30 => ?_)
     refine TL.op0 (OpR.store 2 rfl rfl rfl rfl rfl rfl rfl rfl) ?_
     refine TL.nil ?_
     show T X _ _ _
     refine aS ?_
     refine aA rfl rfl ?_
     obtain ⟨x31, hx31, h0⟩ := bnd_some h0
     refine TL.op1 (OpR.call0 fn27 (grid_ends_c hx31) rfl) rfl ?_
     iterate 4 refine aA rfl rfl ?_
     refine TL.op0 (OpR.store 2 rfl rfl rfl rfl rfl rfl rfl rfl) ?_
     refine aA rfl rfl ?_
     refine TL.op0 (OpR.store 2 rfl rfl rfl rfl rfl rfl rfl rfl) ?_
     refine TL.nil ?_
     show T X _ _ _
     refine aS ?_
     refine TL.op1 (OpR.loadPtr 2 rfl rfl rfl rfl) rfl ?_
     refine aA rfl rfl ?_
     refine TL.op0 (OpR.store 0 rfl rfl rfl rfl rfl rfl rfl rfl) ?_
     iterate 2 refine aA rfl rfl ?_
     refine TL.nil ?_
     show T X _ _ _
     refine T.ret ?_
     obtain rfl := Option.some.inj h0
     exact PostG.retP (ks := []) (Gst.trans (Gst.only [2, 3, 4] rfl) (Gst.pick [0] rfl rfl)) undef (ResL.cons (ResV.var 0 rfl rfl rfl rfl) (ResL.cons (ResV.tmp rfl) (ResL.cons (ResV.tmp rfl) ResL.nil))) rfl rfl rfl rfl
   refine T.block ?_
   obtain ⟨n14, n19⟩ := loop_some ht11
   refine T.loop (fun n S' => ∃ S'', Gst S' S'' ∧ ∃ s13 : Int × Int × (List row_Row), S'' = ⟨[(38, .val (.int .i64 s13.2.1)), (37, .val (.int .i64 (x5.length : Int))), (36, .sl 2 (List.map e_scan_Row x5)), (8, .val v10), (7, .sl 2 (List.map e_scan_Row x5)), (6, .val (.int .i64 s13.1)), (5, .val (.pointer none)), (4, .val (.int .i64 0)), (3, .val (.pointer none)), (2, .val (.pointer (some ⟨(blk p1), 0, none⟩)))], [.var (blk p1) [(eOP none), .val (.bool false), .val (.int .i64 0)] 26, .row v10 (List.map e_row_Row s13.2.2) 3 68], 71⟩ ∧ iter (grid_Load.l1 x5) n s13 = some t11) n14 ?_ ?_
   · exact ⟨_, Gst.only [2, 3, 4, 5, 6, 7, 8, 36, 37, 38] rfl, (x2, 0, x9), rfl, n19⟩
   rintro n14 _ ⟨_, g, s13, rfl, i18⟩
   refine T.ghost g ?_
   obtain ⟨m15, q16, rfl, q17, i18⟩ := iter_succ i18
   unfold grid_Load.l1 at q17
   refine aS ?_
   refine aA rfl rfl ?_
   refine TL.nil ?_
   show T X _ _ _
   refine T.seq ?_
   rcases ite_some q17 with ⟨c21, q17⟩ | ⟨c21, q17⟩
   rotate_left
   · refine T.condF rfl (decide_eq_false c21) ?_
     refine T.exit ?_
     obtain rfl := Option.some.inj q17
     obtain rfl : _ = _ := i18
     exact ⟨_, Gst.only [2, 3, 4, 5, 7, 8] rfl, _, rfl, rfl⟩
   refine T.condT rfl (decide_eq_true c21) ?_
   refine T.skip ?_
   show T X _ _ _
   refine T.seq ?_
   refine T.block ?_
   refine aS ?_
   refine aA rfl rfl ?_
   obtain ⟨x22, hx22, q17⟩ := bnd_some q17
   refine TL.op1 (OpR.indexM e_scan_Row hx22 rfl rfl rfl rfl rfl) rfl ?_
   refine aA rfl rfl ?_
   refine TL.op (OpR.alloc rfl rfl (fun _ => rfl)) rfl (fun p23 => ?_)
   refine aA rfl rfl ?_
   refine TL.op0 (OpR.store 2 rfl rfl rfl rfl rfl rfl rfl rfl) ?_
   refine TL.nil ?_
   show T X _ _ _
   refine aS ?_
   iterate 2 refine aA rfl rfl ?_
   refine TL.op1 (OpR.loadPtr 2 rfl rfl rfl rfl) rfl ?_
   obtain ⟨x24, hx24, q17⟩ := bnd_some q17
   refine TL.op1 (OpR.call0 fn25 (row_Load_c hx24) rfl) rfl ?_
   iterate 3 refine aA rfl rfl ?_
   obtain ⟨x25, hx25, q17⟩ := bnd_some q17
   refine TL.op1 (OpR.rowIndexM e_row_Row 1 hx25 rfl rfl rfl rfl rfl rfl rfl) rfl ?_
   refine TL.op0 (OpR.rowStore0M (j := s13.2.1) e_row_Row x24.1 1 hx25 rfl rfl rfl rfl rfl rfl rfl rfl rfl) ?_
   refine aA rfl rfl ?_
   refine TL.nil ?_
   show T X _ _ _
   refine aS ?_
   iterate 2 refine aA rfl rfl ?_
   refine TL.nil ?_
   show T X _ _ _
   rcases ite_some q17 with ⟨c26, q17⟩ | ⟨c26, q17⟩
   · refine T.condF rfl (not_t (beq_iff_eq.2 c26)) ?_
     refine T.skip ?_
     show T X _ _ _
     refine T.region ?_
     iterate 2 refine aA rfl rfl ?_
     refine TL.nil ?_
     obtain rfl := Option.some.inj q17
     exact ⟨m15, Nat.lt_succ_self _, _, Gst.trans (Gst.only [2, 3, 4, 5, 6, 7, 8, 36, 37, 38] rfl) (Gst.pick [0, 1] rfl rfl), (x24.2, w64 (s13.2.1 + 1), (s13.2.2.set s13.2.1.toNat x24.1)), rfl, i18⟩
   refine T.condT rfl (not_f (beq_eq_false_iff_ne.2 c26)) ?_
   refine aS ?_
   refine aA rfl rfl ?_
   obtain ⟨x27, hx27, q17⟩ := bnd_some q17
   refine TL.op (OpR.call [] fn23 (grid_refused_c hx27) rfl rfl rfl (fun _ => rfl)) rfl (fun w28 => ?_)
   iterate 3 refine aA rfl rfl ?_
   refine TL.op0 (OpR.store 0 rfl rfl rfl rfl rfl rfl rfl rfl) ?_
   iterate 2 refine aA rfl rfl ?_
   refine TL.nil ?_
   show T X _ _ _
   refine T.ret ?_
   obtain rfl := Option.some.inj q17
   obtain rfl : _ = _ := i18
   obtain rfl := Option.some.inj h0
   exact PostG.retP (ks := [1, 2]) (Gst.trans (Gst.only [2, 3, 4] rfl) (Gst.pick [0, 3, 4] rfl rfl)) (.tuple #[(vn w28 0), (vn w28 1)]) (ResL.cons (ResV.var 0 rfl rfl rfl rfl) (ResL.cons (ResV.tmp rfl) (ResL.cons (ResV.tmp rfl) ResL.nil))) rfl rfl rfl rfl
 dsimp only at h0
 refine TL.op (OpR.call [] fn22 (arena_New_cx2 hx2) rfl rfl rfl (fun _ => rfl)) rfl (fun w3 => ?_)
 iterate 5 refine aA rfl rfl ?_
 refine TL.nil ?_
 show T X _ _ _
 refine T.seq ?_
 refine aS ?_
 iterate 2 refine aA rfl rfl ?_
 refine TL.nil ?_
 show T X _ _ _
 rcases ite_some h0 with ⟨c34, h0⟩ | ⟨c34, h0⟩
 rotate_left
 · refine T.condT rfl (not_f (beq_eq_false_iff_ne.2 c34)) ?_
   refine aS ?_
   refine aA rfl rfl ?_
   obtain ⟨x62, hx62, h0⟩ := bnd_some h0
   refine TL.op (OpR.call [] fn23 (grid_refused_c hx62) rfl rfl rfl (fun _ => rfl)) rfl (fun w63 => ?_)
   iterate 3 refine aA rfl rfl ?_
   refine TL.op0 (OpR.store 0 rfl rfl rfl rfl rfl rfl rfl rfl) ?_
   iterate 2 refine aA rfl rfl ?_
   refine TL.nil ?_
   show T X _ _ _
   refine T.ret ?_
   obtain rfl := Option.some.inj h0
   exact PostG.retP (ks := [1, 2]) (Gst.trans (Gst.only [2, 3, 4] rfl) (Gst.pick [0, 3, 4] rfl rfl)) (.tuple #[(vn w63 0), (vn w63 1)]) (ResL.cons (ResV.var 0 rfl rfl rfl rfl) (ResL.cons (ResV.tmp rfl) (ResL.cons (ResV.tmp rfl) ResL.nil))) rfl rfl rfl rfl
 refine T.condF rfl (not_t (beq_iff_eq.2 c34)) ?_
 refine T.skip ?_
 show T X _ _ _
 refine aS ?_
 refine aA rfl rfl ?_
 obtain ⟨x35, hx35, h0⟩ := bnd_some h0
 refine TL.op1 (OpR.call0 fn24 (scan_All_c hx35) rfl) rfl ?_
 refine aA rfl rfl ?_
 refine TL.nil ?_
 show T X _ _ _
 refine T.seq ?_
 refine aS ?_
 refine aA rfl rfl ?_
 refine TL.op1 (OpR.cast (OpR.pure rfl) (intE (lenM _ _))) rfl ?_
 refine aA rfl rfl ?_
 refine TL.nil ?_
 show T X _ _ _
 rcases ite_some h0 with ⟨c36, h0⟩ | ⟨c36, h0⟩
 · refine T.condT rfl (decide_eq_true c36) ?_
   refine aS ?_
   obtain ⟨x37, hx37, h0⟩ := bnd_some h0
   refine TL.op (OpR.call [] fn23 (grid_refused_c hx37) rfl rfl rfl (fun _ => rfl)) rfl (fun w38 => ?_)
   iterate 3 refine aA rfl rfl ?_
   refine TL.op0 (OpR.store 0 rfl rfl rfl rfl rfl rfl rfl rfl) ?_
   iterate 2 refine aA rfl rfl ?_
   refine TL.nil ?_
   show T X _ _ _
   refine T.ret ?_
   obtain rfl := Option.some.inj h0
   exact PostG.retP (ks := [1, 2]) (Gst.trans (Gst.only [2, 3, 4] rfl) (Gst.pick [0, 3, 4] rfl rfl)) (.tuple #[(vn w38 0), (vn w38 1)]) (ResL.cons (ResV.var 0 rfl rfl rfl rfl) (ResL.cons (ResV.tmp rfl) (ResL.cons (ResV.tmp rfl) ResL.nil))) rfl rfl rfl rfl
 refine T.condF rfl (decide_eq_false c36) ?_
 refine T.skip ?_
 show T X _ _ _
 refine aS ?_
 refine aA rfl rfl ?_
 refine TL.op1 (OpR.cast (OpR.pure rfl) (intE (lenM _ _))) rfl ?_
 obtain ⟨x39, hx39, h0⟩ := bnd_some h0
 refine TL.op (OpR.makeN e_row_Row hx39 rfl rfl rfl rfl rfl rfl rfl rfl rfl rfl (ReL.cons (Re.base .nil) (ReL.cons Re.refl (ReL.cons Re.refl ReL.nil))) rfl (fun _ => rfl)) rfl (fun v40 => ?_)
 refine aA rfl rfl ?_
 refine TL.nil ?_
 show T X _ _ _
 refine T.seq ?_
 refine aS ?_
 refine aA rfl rfl ?_
 refine TL.op1 (OpR.cast (OpR.pure rfl) (intE (lenM _ _))) rfl ?_
 refine aA rfl rfl ?_
 refine TL.nil ?_
 show T X _ _ _
 obtain ⟨t41, ht41, h0⟩ := bnd_some h0
 refine T.cutC (fun S' => ∃ u42, t41 = Ex.brk u42 ∧ S' = ⟨[(8, .val v40), (7, .sl 2 (List.map e_scan_Row x35)), (5, .val (.pointer (some ⟨(blk (vn w3 0)), 0, none⟩))), (4, .val (.int .i64 0)), (3, .val (.pointer none)), (2, .val (.pointer (some ⟨(blk p1), 0, none⟩)))], [.var (blk p1) [(eOP none), .val (.bool false), .val (.int .i64 0)] 26, .var (blk (vn w3 0)) [.val (vn w3 1)] 123, .row v40 (List.map e_row_Row u42) 3 68, .row (vn w3 1) (List.map byteD x2.2) 1 5], 71⟩) (fun _ h => h) ?_ ?_
 rotate_left
 · rintro _ ⟨u42, rfl, rfl⟩
   show T X _ _ _
   refine aS ?_
   refine aA rfl rfl ?_
   refine TL.ghost (Gst.freezeRow 2 rfl rfl (ReS.cons (Re.base .all) (ReS.refl _)) (ReO.same (ReO.same (ReO.same (ReO.same ReO.nil))))) ?_
   obtain ⟨x59, hx59, h0⟩ := bnd_some h0
   refine TL.op1 (OpR.call0 fn26 (tree_Of_row_Row_c hx59) rfl) rfl ?_
   refine TL.op1 (OpR.build rfl rfl rfl rfl rfl) rfl ?_
   refine TL.op (OpR.alloc rfl rfl (fun _ => rfl)) rfl (fun p60 => ?_)
   refine TL.op0 (OpR.store 4 rfl rfl rfl rfl rfl rfl rfl rfl) ?_
   refine TL.nil ?_
   show T X _ _ _
   refine aS ?_
   refine aA rfl rfl ?_
   obtain ⟨x61, hx61, h0⟩ := bnd_some h0
   refine TL.op1 (OpR.call0 fn27 (grid_ends_c hx61) rfl) rfl ?_
   iterate 4 refine aA rfl rfl ?_
   refine TL.op0 (OpR.store 4 rfl rfl rfl rfl rfl rfl rfl rfl) ?_
   refine aA rfl rfl ?_
   refine TL.op0 (OpR.store 4 rfl rfl rfl rfl rfl rfl rfl rfl) ?_
   refine TL.nil ?_
   show T X _ _ _
   refine aS ?_
   refine TL.op1 (OpR.loadPtr 4 rfl rfl rfl rfl) rfl ?_
   refine aA rfl rfl ?_
   refine TL.op0 (OpR.store 0 rfl rfl rfl rfl rfl rfl rfl rfl) ?_
   iterate 2 refine aA rfl rfl ?_
   refine TL.nil ?_
   show T X _ _ _
   refine T.ret ?_
   obtain rfl := Option.some.inj h0
   exact PostG.retP (ks := [1, 2]) (Gst.trans (Gst.only [2, 3, 4] rfl) (Gst.pick [0, 1, 3] rfl rfl)) (.tuple #[(vn w3 0), (vn w3 1)]) (ResL.cons (ResV.var 0 rfl rfl rfl rfl) (ResL.cons (ResV.tmp rfl) (ResL.cons (ResV.tmp rfl) ResL.nil))) rfl rfl rfl rfl
 refine T.block ?_
 obtain ⟨n44, n49⟩ := loop_some ht41
 refine T.loop (fun n S' => ∃ S'', Gst S' S'' ∧ ∃ s43 : Int × Int × (List row_Row), S'' = ⟨[(38, .val (.int .i64 s43.2.1)), (37, .val (.int .i64 (x35.length : Int))), (36, .sl 2 (List.map e_scan_Row x35)), (8, .val v40), (7, .sl 2 (List.map e_scan_Row x35)), (6, .val (.int .i64 s43.1)), (5, .val (.pointer (some ⟨(blk (vn w3 0)), 0, none⟩))), (4, .val (.int .i64 0)), (3, .val (.pointer none)), (2, .val (.pointer (some ⟨(blk p1), 0, none⟩)))], [.var (blk p1) [(eOP none), .val (.bool false), .val (.int .i64 0)] 26, .var (blk (vn w3 0)) [.val (vn w3 1)] 123, .row v40 (List.map e_row_Row s43.2.2) 3 68, .row (vn w3 1) (List.map byteD x2.2) 1 5], 71⟩ ∧ iter (grid_Load.l2 x35) n s43 = some t41) n44 ?_ ?_
 · exact ⟨_, Gst.trans (Gst.only [2, 3, 4, 5, 6, 7, 8, 36, 37, 38] rfl) (Gst.pick [0, 1, 3, 2] rfl rfl), (x2.1, 0, x39), rfl, n49⟩
 rintro n44 _ ⟨_, g, s43, rfl, i48⟩
 refine T.ghost g ?_
 obtain ⟨m45, q46, rfl, q47, i48⟩ := iter_succ i48
 unfold grid_Load.l2 at q47
 refine aS ?_
 refine aA rfl rfl ?_
 refine TL.nil ?_
 show T X _ _ _
 refine T.seq ?_
 rcases ite_some q47 with ⟨c51, q47⟩ | ⟨c51, q47⟩
 rotate_left
 · refine T.condF rfl (decide_eq_false c51) ?_
   refine T.exit ?_
   obtain rfl := Option.some.inj q47
   obtain rfl : _ = _ := i48
   exact ⟨_, Gst.only [2, 3, 4, 5, 7, 8] rfl, _, rfl, rfl⟩
 refine T.condT rfl (decide_eq_true c51) ?_
 refine T.skip ?_
 show T X _ _ _
 refine T.seq ?_
 refine T.block ?_
 refine aS ?_
 refine aA rfl rfl ?_
 obtain ⟨x52, hx52, q47⟩ := bnd_some q47
 refine TL.op1 (OpR.indexM e_scan_Row hx52 rfl rfl rfl rfl rfl) rfl ?_
 refine aA rfl rfl ?_
 refine TL.op (OpR.alloc rfl rfl (fun _ => rfl)) rfl (fun p53 => ?_)
 refine aA rfl rfl ?_
 refine TL.op0 (OpR.store 4 rfl rfl rfl rfl rfl rfl rfl rfl) ?_
 refine TL.nil ?_
 show T X _ _ _
 refine aS ?_
 iterate 2 refine aA rfl rfl ?_
 refine TL.op1 (OpR.loadPtr 4 rfl rfl rfl rfl) rfl ?_
 obtain ⟨x54, hx54, q47⟩ := bnd_some q47
 refine TL.op1 (OpR.call0 fn25 (row_Load_c hx54) rfl) rfl ?_
 iterate 3 refine aA rfl rfl ?_
 obtain ⟨x55, hx55, q47⟩ := bnd_some q47
 refine TL.op1 (OpR.rowIndexM e_row_Row 2 hx55 rfl rfl rfl rfl rfl rfl rfl) rfl ?_
 refine TL.op0 (OpR.rowStore0M (j := s43.2.1) e_row_Row x54.1 2 hx55 rfl rfl rfl rfl rfl rfl rfl rfl rfl) ?_
 refine aA rfl rfl ?_
 refine TL.nil ?_
 show T X _ _ _
 refine aS ?_
 iterate 2 refine aA rfl rfl ?_
 refine TL.nil ?_
 show T X _ _ _
 rcases ite_some q47 with ⟨c56, q47⟩ | ⟨c56, q47⟩
 · refine T.condF rfl (not_t (beq_iff_eq.2 c56)) ?_
   refine T.skip ?_
   show T X _ _ _
   refine T.region ?_
   iterate 2 refine aA rfl rfl ?_
   refine TL.nil ?_
   obtain rfl := Option.some.inj q47
   exact ⟨m45, Nat.lt_succ_self _, _, Gst.trans (Gst.only [2, 3, 4, 5, 6, 7, 8, 36, 37, 38] rfl) (Gst.pick [0, 1, 2, 3] rfl rfl), (x54.2, w64 (s43.2.1 + 1), (s43.2.2.set s43.2.1.toNat x54.1)), rfl, i48⟩
 refine T.condT rfl (not_f (beq_eq_false_iff_ne.2 c56)) ?_
 refine aS ?_
 refine aA rfl rfl ?_
 obtain ⟨x57, hx57, q47⟩ := bnd_some q47
 refine TL.op (OpR.call [] fn23 (grid_refused_c hx57) rfl rfl rfl (fun _ => rfl)) rfl (fun w58 => ?_)
 iterate 3 refine aA rfl rfl ?_
 refine TL.op0 (OpR.store 0 rfl rfl rfl rfl rfl rfl rfl rfl) ?_
 iterate 2 refine aA rfl rfl ?_
 refine TL.nil ?_
 show T X _ _ _
 refine T.ret ?_
 obtain rfl := Option.some.inj q47
 obtain rfl : _ = _ := i48
 obtain rfl := Option.some.inj h0
 exact PostG.retP (ks := [1, 2]) (Gst.trans (Gst.only [2, 3, 4] rfl) (Gst.pick [0, 5, 6] rfl rfl)) (.tuple #[(vn w58 0), (vn w58 1)]) (ResL.cons (ResV.var 0 rfl rfl rfl rfl) (ResL.cons (ResV.tmp rfl) (ResL.cons (ResV.tmp rfl) ResL.nil))) rfl rfl rfl rfl
theorem grid_Load_cx1 {a0 : List UInt8} {res : grid_Grid × Int × (List UInt8)} (h0 : grid_Load a0 = some (Sum.inl res)) : CallF X 10 [.sl 1 (List.map byteD a0)] [] (fun x => .tup [.agg [(eOP res.1.fRows.fRoot), .val (.bool res.1.fTail), .val (.int .i64 res.1.fEnd)], .val (.pointer (some ⟨(blk (vn x 0)), 0, none⟩)), .val (.int .i64 res.2.1)]) (fun x => [.var (blk (vn x 0)) [.val (vn x 1)] 123, .row (vn x 1) (List.map byteD res.2.2) 1 5]) := grid_Load_c h0
theorem grid_Load_cx2 {a0 : List UInt8} {res : grid_Grid × Int} (h0 : grid_Load a0 = some (Sum.inr res)) : CallF X 10 [.sl 1 (List.map byteD a0)] [] (fun x => .tup [.agg [(eOP res.1.fRows.fRoot), .val (.bool res.1.fTail), .val (.int .i64 res.1.fEnd)], .val (.pointer none), .val (.int .i64 res.2)]) (fun x => []) := grid_Load_c h0
noncomputable def ref05_quote (a0 : List UInt8) (a1 : Int) : Option Bool :=
  bnd (if a1 < (a0.length : Int) then
    bnd (idx a0 a1) fun x3 =>
    some ((x3.toNat : Int) == 34)
  else
    some false : Option Bool) fun t1 =>
  some t1
set_option maxHeartbeats 4000000 in
theorem ref05_quote_c {a0 : List UInt8} {a1 : Int} {res : Bool} (h0 : ref05_quote a0 a1 = some res) : CallF X 84 [.val (.string (bs a0)), .val (.int .i64 a1)] [] (fun x => .val (.bool res)) (fun x => []) := by
 unfold ref05_quote at h0
 refine CallF.mkG (X := X) rfl Try.func84 rfl rfl Try.ntmps84 rfl rfl ?_
 refine aS ?_
 refine aA rfl rfl ?_
 refine TL.nil ?_
 show T X _ _ _
 refine T.seq ?_
 obtain ⟨t1, ht1, h0⟩ := bnd_some h0
 refine T.cutC (fun S' => S' = ⟨[(4, .val (.bool t1))], [], 15⟩) (fun _ h => h) ?_ ?_
 rotate_left
 · rintro _ rfl
   show T X _ _ _
   refine T.ret ?_
   obtain rfl := Option.some.inj h0
   exact PostG.retP (ks := []) (Gst.only [4] rfl) undef (ResL.cons (ResV.tmp rfl) ResL.nil) rfl rfl rfl rfl
 refine T.region ?_
 iterate 2 refine aA rfl rfl ?_
 refine TL.op1 (OpR.cast (OpR.pure rfl) (intE (lenS _))) rfl ?_
 iterate 2 refine aA rfl rfl ?_
 rcases ite_some ht1 with ⟨c2, ht1⟩ | ⟨c2, ht1⟩
 rotate_left
 · refine TL.off rfl rfl rfl rfl (decide_eq_false c2) rfl rfl ?_
   refine TL.off rfl rfl rfl rfl (decide_eq_false c2) rfl rfl ?_
   refine TL.off rfl rfl rfl rfl (decide_eq_false c2) rfl rfl ?_
   refine TL.off rfl rfl rfl rfl (decide_eq_false c2) rfl rfl ?_
   refine TL.op1 (OpR.pickF rfl (decide_eq_false c2) rfl) rfl ?_
   refine aA rfl rfl ?_
   refine TL.nil ?_
   obtain rfl := Option.some.inj ht1
   exact ⟨_, Gst.only [4] rfl, rfl⟩
 refine TL.on rfl rfl rfl rfl (decide_eq_true c2) ?_
 refine aA rfl rfl ?_
 refine TL.on rfl rfl rfl rfl (decide_eq_true c2) ?_
 refine aA rfl rfl ?_
 refine TL.on rfl rfl rfl rfl (decide_eq_true c2) ?_
 obtain ⟨x3, hx3, ht1⟩ := bnd_some ht1
 refine TL.op1 (OpR.indexS hx3 rfl rfl rfl rfl) rfl ?_
 refine TL.on rfl rfl rfl rfl (decide_eq_true c2) ?_
 refine aA rfl rfl ?_
 refine TL.op1 (OpR.pickT rfl (decide_eq_true c2) rfl) rfl ?_
 refine aA rfl rfl ?_
 refine TL.nil ?_
 obtain rfl := Option.some.inj ht1
 exact ⟨_, Gst.only [4] rfl, rfl⟩
noncomputable def ref05_mark (a0 : List UInt8) (a1 : Int) : Option Bool :=
  bnd (if a1 ≥ (a0.length : Int) then
    some true
  else
    bnd (idx a0 a1) fun x3 =>
    if (x3.toNat : Int) = 44 then
      some true
    else
      if (x3.toNat : Int) = 13 then
        some true
      else
        some ((x3.toNat : Int) == 10) : Option Bool) fun t1 =>
  some t1
set_option maxHeartbeats 4000000 in
theorem ref05_mark_c {a0 : List UInt8} {a1 : Int} {res : Bool} (h0 : ref05_mark a0 a1 = some res) : CallF X 94 [.val (.string (bs a0)), .val (.int .i64 a1)] [] (fun x => .val (.bool res)) (fun x => []) := by
 unfold ref05_mark at h0
 refine CallF.mkG (X := X) rfl Try.func94 rfl rfl Try.ntmps94 rfl rfl ?_
 refine aS ?_
 refine aA rfl rfl ?_
 refine TL.nil ?_
 show T X _ _ _
 refine T.seq ?_
 obtain ⟨t1, ht1, h0⟩ := bnd_some h0
 refine T.cutC (fun S' => S' = ⟨[(4, .val (.bool t1))], [], 27⟩) (fun _ h => h) ?_ ?_
 rotate_left
 · rintro _ rfl
   show T X _ _ _
   refine T.ret ?_
   obtain rfl := Option.some.inj h0
   exact PostG.retP (ks := []) (Gst.only [4] rfl) undef (ResL.cons (ResV.tmp rfl) ResL.nil) rfl rfl rfl rfl
 refine T.region ?_
 iterate 2 refine aA rfl rfl ?_
 refine TL.op1 (OpR.cast (OpR.pure rfl) (intE (lenS _))) rfl ?_
 iterate 2 refine aA rfl rfl ?_
 rcases ite_some ht1 with ⟨c2, ht1⟩ | ⟨c2, ht1⟩
 · refine TL.off rfl rfl rfl rfl (decide_eq_true c2) rfl rfl ?_
   refine TL.off rfl rfl rfl rfl (decide_eq_true c2) rfl rfl ?_
   refine TL.off rfl rfl rfl rfl (decide_eq_true c2) rfl rfl ?_
   refine TL.off rfl rfl rfl rfl (decide_eq_true c2) rfl rfl ?_
   refine TL.op1 (OpR.pickT rfl (decide_eq_true c2) rfl) rfl ?_
   refine aA rfl rfl ?_
   refine TL.off rfl rfl rfl rfl rfl rfl rfl ?_
   refine TL.off rfl rfl rfl rfl rfl rfl rfl ?_
   refine TL.off rfl rfl rfl rfl rfl rfl rfl ?_
   refine TL.off rfl rfl rfl rfl rfl rfl rfl ?_
   refine TL.op1 (OpR.pickT rfl rfl rfl) rfl ?_
   refine aA rfl rfl ?_
   refine TL.off rfl rfl rfl rfl rfl rfl rfl ?_
   refine TL.off rfl rfl rfl rfl rfl rfl rfl ?_
   refine TL.off rfl rfl rfl rfl rfl rfl rfl ?_
   refine TL.off rfl rfl rfl rfl rfl rfl rfl ?_
   refine TL.op1 (OpR.pickT rfl rfl rfl) rfl ?_
   refine aA rfl rfl ?_
   refine TL.nil ?_
   obtain rfl := Option.some.inj ht1
   exact ⟨_, Gst.only [4] rfl, rfl⟩
 refine TL.on rfl rfl rfl rfl (decide_eq_false c2) ?_
 refine aA rfl rfl ?_
 refine TL.on rfl rfl rfl rfl (decide_eq_false c2) ?_
 refine aA rfl rfl ?_
 refine TL.on rfl rfl rfl rfl (decide_eq_false c2) ?_
 obtain ⟨x3, hx3, ht1⟩ := bnd_some ht1
 refine TL.op1 (OpR.indexS hx3 rfl rfl rfl rfl) rfl ?_
 refine TL.on rfl rfl rfl rfl (decide_eq_false c2) ?_
 refine aA rfl rfl ?_
 refine TL.op1 (OpR.pickF rfl (decide_eq_false c2) rfl) rfl ?_
 refine aA rfl rfl ?_
 rcases ite_some ht1 with ⟨c4, ht1⟩ | ⟨c4, ht1⟩
 · refine TL.off rfl rfl rfl rfl (beq_iff_eq.2 c4) rfl rfl ?_
   refine TL.off rfl rfl rfl rfl (beq_iff_eq.2 c4) rfl rfl ?_
   refine TL.off rfl rfl rfl rfl (beq_iff_eq.2 c4) rfl rfl ?_
   refine TL.off rfl rfl rfl rfl (beq_iff_eq.2 c4) rfl rfl ?_
   refine TL.op1 (OpR.pickT rfl (beq_iff_eq.2 c4) rfl) rfl ?_
   refine aA rfl rfl ?_
   refine TL.off rfl rfl rfl rfl rfl rfl rfl ?_
   refine TL.off rfl rfl rfl rfl rfl rfl rfl ?_
   refine TL.off rfl rfl rfl rfl rfl rfl rfl ?_
   refine TL.off rfl rfl rfl rfl rfl rfl rfl ?_
   refine TL.op1 (OpR.pickT rfl rfl rfl) rfl ?_
   refine aA rfl rfl ?_
   refine TL.nil ?_
   obtain rfl := Option.some.inj ht1
   exact ⟨_, Gst.only [4] rfl, rfl⟩
 refine TL.on rfl rfl rfl rfl (beq_eq_false_iff_ne.2 c4) ?_
 refine aA rfl rfl ?_
 refine TL.on rfl rfl rfl rfl (beq_eq_false_iff_ne.2 c4) ?_
 refine aA rfl rfl ?_
 refine TL.on rfl rfl rfl rfl (beq_eq_false_iff_ne.2 c4) ?_
 refine TL.op1 (OpR.indexS hx3 rfl rfl rfl rfl) rfl ?_
 refine TL.on rfl rfl rfl rfl (beq_eq_false_iff_ne.2 c4) ?_
 refine aA rfl rfl ?_
 refine TL.op1 (OpR.pickF rfl (beq_eq_false_iff_ne.2 c4) rfl) rfl ?_
 refine aA rfl rfl ?_
 rcases ite_some ht1 with ⟨c5, ht1⟩ | ⟨c5, ht1⟩
 · refine TL.off rfl rfl rfl rfl (beq_iff_eq.2 c5) rfl rfl ?_
   refine TL.off rfl rfl rfl rfl (beq_iff_eq.2 c5) rfl rfl ?_
   refine TL.off rfl rfl rfl rfl (beq_iff_eq.2 c5) rfl rfl ?_
   refine TL.off rfl rfl rfl rfl (beq_iff_eq.2 c5) rfl rfl ?_
   refine TL.op1 (OpR.pickT rfl (beq_iff_eq.2 c5) rfl) rfl ?_
   refine aA rfl rfl ?_
   refine TL.nil ?_
   obtain rfl := Option.some.inj ht1
   exact ⟨_, Gst.only [4] rfl, rfl⟩
 refine TL.on rfl rfl rfl rfl (beq_eq_false_iff_ne.2 c5) ?_
 refine aA rfl rfl ?_
 refine TL.on rfl rfl rfl rfl (beq_eq_false_iff_ne.2 c5) ?_
 refine aA rfl rfl ?_
 refine TL.on rfl rfl rfl rfl (beq_eq_false_iff_ne.2 c5) ?_
 refine TL.op1 (OpR.indexS hx3 rfl rfl rfl rfl) rfl ?_
 refine TL.on rfl rfl rfl rfl (beq_eq_false_iff_ne.2 c5) ?_
 refine aA rfl rfl ?_
 refine TL.op1 (OpR.pickF rfl (beq_eq_false_iff_ne.2 c5) rfl) rfl ?_
 refine aA rfl rfl ?_
 refine TL.nil ?_
 obtain rfl := Option.some.inj ht1
 exact ⟨_, Gst.only [4] rfl, rfl⟩
noncomputable def ref05_till.l1 (a0 : List UInt8) (s2 : Int) : Option (Lp Int Int) :=
  bnd (ref05_mark a0 s2) fun x10 =>
  if x10 = true then
    some (Lp.done s2)
  else
    some (Lp.next (w64 (s2 + 1)))
noncomputable def ref05_till (a0 : List UInt8) (a1 : Int) : Option Int :=
  bnd (loop (ref05_till.l1 a0) a1 : Option Int) fun t1 =>
  some t1
set_option maxHeartbeats 4000000 in
theorem ref05_till_c {a0 : List UInt8} {a1 : Int} {res : Int} (h0 : ref05_till a0 a1 = some res) : CallF X 85 [.val (.string (bs a0)), .val (.int .i64 a1)] [] (fun x => .val (.int .i64 res)) (fun x => []) := by
 unfold ref05_till at h0
 refine CallF.mkG (X := X) rfl Try.func85 rfl rfl Try.ntmps85 rfl rfl ?_
 refine aS ?_
 refine aA rfl rfl ?_
 refine TL.nil ?_
 show T X _ _ _
 refine T.seq ?_
 obtain ⟨t1, ht1, h0⟩ := bnd_some h0
 refine T.cutC (fun S' => S' = ⟨[(4, .val (.int .i64 0)), (1, .val (.int .i64 t1))], [], 12⟩) (fun _ h => h) ?_ ?_
 rotate_left
 · rintro _ rfl
   show T X _ _ _
   refine aS ?_
   iterate 2 refine aA rfl rfl ?_
   refine TL.nil ?_
   show T X _ _ _
   refine T.ret ?_
   obtain rfl := Option.some.inj h0
   exact PostG.retP (ks := []) (Gst.only [4] rfl) undef (ResL.cons (ResV.tmp rfl) ResL.nil) rfl rfl rfl rfl
 refine T.block ?_
 obtain ⟨n3, n8⟩ := loop_some ht1
 refine T.loop (fun n S' => ∃ S'', Gst S' S'' ∧ ∃ s2 : Int, S'' = ⟨[(4, .val (.int .i64 0)), (1, .val (.int .i64 s2)), (0, .val (.string (bs a0)))], [], 12⟩ ∧ iter (ref05_till.l1 a0) n s2 = some t1) n3 ?_ ?_
 · exact ⟨_, Gst.only [0, 1, 4] rfl, a1, rfl, n8⟩
 rintro n3 _ ⟨_, g, s2, rfl, i7⟩
 refine T.ghost g ?_
 obtain ⟨m4, q5, rfl, q6, i7⟩ := iter_succ i7
 unfold ref05_till.l1 at q6
 refine T.seq ?_
 refine aS ?_
 iterate 2 refine aA rfl rfl ?_
 obtain ⟨x10, hx10, q6⟩ := bnd_some q6
 refine TL.op1 (OpR.call0 fn94 (ref05_mark_c hx10) rfl) rfl ?_
 refine aA rfl rfl ?_
 refine TL.nil ?_
 show T X _ _ _
 rcases ite_some q6 with ⟨c11, q6⟩ | ⟨c11, q6⟩
 · refine T.condF rfl (not_t (c11)) ?_
   refine T.exit ?_
   obtain rfl := Option.some.inj q6
   obtain rfl : _ = _ := i7
   exact ⟨_, Gst.only [1, 4] rfl, rfl⟩
 refine T.condT rfl (not_f (eq_false_of_ne_true c11)) ?_
 refine T.skip ?_
 show T X _ _ _
 refine T.block ?_
 refine T.region ?_
 iterate 3 refine aA rfl rfl ?_
 refine TL.nil ?_
 obtain rfl := Option.some.inj q6
 exact ⟨m4, Nat.lt_succ_self _, _, Gst.only [0, 1, 4] rfl, w64 (s2 + 1), rfl, i7⟩
noncomputable def ref05_places_2.l1 (a1 : Int) (s4 : Int × (List Int)) : Option (Lp (Int × (List Int)) (List Int)) :=
  if s4.1 < a1 then
    bnd (app 8 s4.2 [s4.1]) fun x13 =>
    some (Lp.next (w64 (s4.1 + 1), x13))
  else
    some (Lp.done s4.2)
noncomputable def ref05_places_2 (a0 : Int) (a1 : Int) (a2 : List Int) : Option (List Int) :=
  bnd (loop (ref05_places_2.l1 a1) (a0, a2) : Option (List Int)) fun t1 =>
  some t1
set_option maxHeartbeats 4000000 in
theorem ref05_places_2_c {a0 : Int} {a1 : Int} {a2 : List Int} {v0 : Value} {res : (List Int)} (h0 : ref05_places_2 a0 a1 a2 = some res) : CallF X 86 [.val v0, .val (.int .i64 a0), .val (.int .i64 a1)] [.row v0 (List.map (eI .i64) a2) 1 3] (fun x => .val (vn x 0)) (fun x => [.row (vn x 0) (List.map (eI .i64) res) 1 3]) := by
 unfold ref05_places_2 at h0
 refine CallF.mkG (X := X) rfl Try.func86 rfl rfl Try.ntmps86 rfl rfl ?_
 refine aS ?_
 refine aA rfl rfl ?_
 refine TL.nil ?_
 show T X _ _ _
 refine T.seq ?_
 refine aS ?_
 iterate 2 refine aA rfl rfl ?_
 refine TL.nil ?_
 show T X _ _ _
 obtain ⟨t1, ht1, h0⟩ := bnd_some h0
 refine T.cutC (fun S' => ∃ y2 : Value, S' = ⟨[(6, .val (.slice none 0 0)), (0, .val y2)], [.row y2 (List.map (eI .i64) t1) 1 3], 19⟩) (fun _ h => h) ?_ ?_
 rotate_left
 · rintro _ ⟨y2, rfl⟩
   show T X _ _ _
   refine aS ?_
   iterate 2 refine aA rfl rfl ?_
   refine TL.nil ?_
   show T X _ _ _
   refine T.ret ?_
   obtain rfl := Option.some.inj h0
   exact PostG.retP (ks := [0]) (Gst.only [6] rfl) (.tuple #[y2]) (ResL.cons (ResV.tmp rfl) ResL.nil) rfl rfl rfl rfl
 refine T.block ?_
 obtain ⟨n5, n10⟩ := loop_some ht1
 refine T.loop (fun n S' => ∃ S'', Gst S' S'' ∧ ∃ y3 : Value, ∃ s4 : Int × (List Int), S'' = ⟨[(7, .val (.int .i64 s4.1)), (6, .val (.slice none 0 0)), (2, .val (.int .i64 a1)), (0, .val y3)], [.row y3 (List.map (eI .i64) s4.2) 1 3], 19⟩ ∧ iter (ref05_places_2.l1 a1) n s4 = some t1) n5 ?_ ?_
 · exact ⟨_, Gst.only [0, 2, 6, 7] rfl, v0, (a0, a2), rfl, n10⟩
 rintro n5 _ ⟨_, g, y3, s4, rfl, i9⟩
 refine T.ghost g ?_
 obtain ⟨m6, q7, rfl, q8, i9⟩ := iter_succ i9
 unfold ref05_places_2.l1 at q8
 refine T.seq ?_
 refine aS ?_
 iterate 3 refine aA rfl rfl ?_
 refine TL.nil ?_
 show T X _ _ _
 rcases ite_some q8 with ⟨c12, q8⟩ | ⟨c12, q8⟩
 rotate_left
 · refine T.condF rfl (decide_eq_false c12) ?_
   refine T.exit ?_
   obtain rfl := Option.some.inj q8
   obtain rfl : _ = _ := i9
   exact ⟨_, Gst.only [0, 6] rfl, y3, rfl⟩
 refine T.condT rfl (decide_eq_true c12) ?_
 refine T.skip ?_
 show T X _ _ _
 refine T.seq ?_
 refine T.block ?_
 refine T.region ?_
 iterate 2 refine aA rfl rfl ?_
 refine TL.op1 (OpR.lit rfl rfl rfl rfl rfl rfl rfl) rfl ?_
 obtain ⟨x13, hx13, q8⟩ := bnd_some q8
 refine TL.op (OpR.appendM (m := [s4.1]) (eI .i64) 0 hx13 rfl rfl rfl rfl rfl rfl rfl rfl rfl (fun _ => rfl)) rfl (fun v14 => ?_)
 refine aA rfl rfl ?_
 refine TL.nil ?_
 show T X _ _ _
 refine T.region ?_
 iterate 3 refine aA rfl rfl ?_
 refine TL.nil ?_
 obtain rfl := Option.some.inj q8
 exact ⟨m6, Nat.lt_succ_self _, _, Gst.only [0, 2, 6, 7] rfl, v14, (w64 (s4.1 + 1), x13), rfl, i9⟩
noncomputable def ref05_places.l1 (a1 : Int) (s4 : Int × (List Int)) : Option (Lp (Int × (List Int)) (List Int)) :=
  if s4.1 < a1 then
    bnd (app 8 s4.2 [s4.1]) fun x13 =>
    some (Lp.next (w64 (s4.1 + 1), x13))
  else
    some (Lp.done s4.2)
noncomputable def ref05_places (a0 : Int) (a1 : Int) : Option (List Int) :=
  bnd (loop (ref05_places.l1 a1) (a0, []) : Option (List Int)) fun t1 =>
  some t1
set_option maxHeartbeats 4000000 in
theorem ref05_places_c {a0 : Int} {a1 : Int} {res : (List Int)} (h0 : ref05_places a0 a1 = some res) : CallF X 86 [.val (.slice none 0 0), .val (.int .i64 a0), .val (.int .i64 a1)] [] (fun x => .sl 1 (List.map (eI .i64) res)) (fun x => []) := by
 unfold ref05_places at h0
 refine CallF.mkG (X := X) rfl Try.func86 rfl rfl Try.ntmps86 rfl rfl ?_
 refine aS ?_
 refine aA rfl rfl ?_
 refine TL.nil ?_
 show T X _ _ _
 refine T.seq ?_
 refine aS ?_
 iterate 2 refine aA rfl rfl ?_
 refine TL.nil ?_
 show T X _ _ _
 obtain ⟨t1, ht1, h0⟩ := bnd_some h0
 refine T.cutC (fun S' => ∃ y2 : Value, S' = ⟨[(6, .val (.slice none 0 0)), (0, .val y2)], [.row y2 (List.map (eI .i64) t1) 1 3], 19⟩) (fun _ h => h) ?_ ?_
 rotate_left
 · rintro _ ⟨y2, rfl⟩
   show T X _ _ _
   refine aS ?_
   iterate 2 refine aA rfl rfl ?_
   refine TL.nil ?_
   show T X _ _ _
   refine T.ret ?_
   obtain rfl := Option.some.inj h0
   exact PostG.retP (ks := []) (Gst.trans (Gst.only [6] rfl) (Gst.trans (Gst.freezeRow 0 rfl rfl (ReS.cons (Re.base .all) ReS.nil) (ReO.same ReO.nil)) (Gst.pick [] rfl rfl))) undef (ResL.cons (ResV.tmp rfl) ResL.nil) rfl rfl rfl rfl
 refine T.block ?_
 obtain ⟨n5, n10⟩ := loop_some ht1
 refine T.loop (fun n S' => ∃ S'', Gst S' S'' ∧ ∃ y3 : Value, ∃ s4 : Int × (List Int), S'' = ⟨[(7, .val (.int .i64 s4.1)), (6, .val (.slice none 0 0)), (2, .val (.int .i64 a1)), (0, .val y3)], [.row y3 (List.map (eI .i64) s4.2) 1 3], 19⟩ ∧ iter (ref05_places.l1 a1) n s4 = some t1) n5 ?_ ?_
 · exact ⟨_, Gst.trans (Gst.only [0, 2, 6, 7] rfl) (Gst.nilRow (ow := []) 1 3 rfl), (.slice none 0 0), (a0, []), rfl, n10⟩
 rintro n5 _ ⟨_, g, y3, s4, rfl, i9⟩
 refine T.ghost g ?_
 obtain ⟨m6, q7, rfl, q8, i9⟩ := iter_succ i9
 unfold ref05_places.l1 at q8
 refine T.seq ?_
 refine aS ?_
 iterate 3 refine aA rfl rfl ?_
 refine TL.nil ?_
 show T X _ _ _
 rcases ite_some q8 with ⟨c12, q8⟩ | ⟨c12, q8⟩
 rotate_left
 · refine T.condF rfl (decide_eq_false c12) ?_
   refine T.exit ?_
   obtain rfl := Option.some.inj q8
   obtain rfl : _ = _ := i9
   exact ⟨_, Gst.only [0, 6] rfl, y3, rfl⟩
 refine T.condT rfl (decide_eq_true c12) ?_
 refine T.skip ?_
 show T X _ _ _
 refine T.seq ?_
 refine T.block ?_
 refine T.region ?_
 iterate 2 refine aA rfl rfl ?_
 refine TL.op1 (OpR.lit rfl rfl rfl rfl rfl rfl rfl) rfl ?_
 obtain ⟨x13, hx13, q8⟩ := bnd_some q8
 refine TL.op (OpR.appendM (m := [s4.1]) (eI .i64) 0 hx13 rfl rfl rfl rfl rfl rfl rfl rfl rfl (fun _ => rfl)) rfl (fun v14 => ?_)
 refine aA rfl rfl ?_
 refine TL.nil ?_
 show T X _ _ _
 refine T.region ?_
 iterate 3 refine aA rfl rfl ?_
 refine TL.nil ?_
 obtain rfl := Option.some.inj q8
 exact ⟨m6, Nat.lt_succ_self _, _, Gst.only [0, 2, 6, 7] rfl, v14, (w64 (s4.1 + 1), x13), rfl, i9⟩
noncomputable def ref05_field.l1 (a0 : List UInt8) (s8 : Int × (List Int)) : Option (Lp (Int × (List Int)) (Int × (List Int))) :=
  bnd (if s8.1 < (a0.length : Int) then
    bnd (ref05_quote a0 s8.1) fun x18 =>
    if x18 = true then
      bnd (ref05_quote a0 (w64 (s8.1 + 1))) fun x20 =>
      some x20
    else
      some true
  else
    some false : Option Bool) fun t16 =>
  if t16 = true then
    bnd (app 8 s8.2 [s8.1]) fun x22 =>
    bnd (ref05_quote a0 s8.1) fun x24 =>
    bnd (if x24 = true then
      some (w64 (s8.1 + 1))
    else
      some s8.1 : Option Int) fun t25 =>
    some (Lp.next (w64 (t25 + 1), x22))
  else
    some (Lp.done (s8.1, s8.2))
noncomputable def ref05_field.l2 (a0 : List UInt8) (x33 : Int) (s36 : Int × Int) : Option (Lp (Int × Int) Int) :=
  if s36.1 < x33 then
    bnd (ref05_quote a0 s36.1) fun x45 =>
    bnd (if x45 = true then
      some 2
    else
      some s36.2 : Option Int) fun t46 =>
    some (Lp.next (w64 (s36.1 + 1), t46))
  else
    some (Lp.done s36.2)
noncomputable def ref05_field (a0 : List UInt8) (a1 : Int) : Option ref05_Field :=
  bnd (ref05_quote a0 a1) fun x3 =>
  if x3 = true then
    bnd (loop (ref05_field.l1 a0) (w64 (a1 + 1), []) : Option (Int × (List Int))) fun t5 =>
    if t5.1 ≥ (a0.length : Int) then
      some (⟨(⟨a1, w64 ((a0.length : Int) - a1)⟩ : ref03_Span), 4, t5.2⟩ : ref05_Field)
    else
      bnd (ref05_till a0 (w64 (t5.1 + 1))) fun x28 =>
      bnd (if x28 > (w64 (t5.1 + 1)) then
        some 3
      else
        some 1 : Option Int) fun t29 =>
      bnd (ref05_places_2 (w64 (t5.1 + 1)) x28 t5.2) fun x31 =>
      some (⟨(⟨a1, w64 (x28 - a1)⟩ : ref03_Span), t29, x31⟩ : ref05_Field)
  else
    bnd (ref05_till a0 a1) fun x33 =>
    bnd (ref05_places a1 x33) fun x34 =>
    bnd (loop (ref05_field.l2 a0 x33) (a1, 0) : Option Int) fun t35 =>
    some (⟨(⟨a1, w64 (x33 - a1)⟩ : ref03_Span), t35, x34⟩ : ref05_Field)
set_option maxHeartbeats 4000000 in
theorem ref05_field_c {a0 : List UInt8} {a1 : Int} {res : ref05_Field} (h0 : ref05_field a0 a1 = some res) : CallF X 77 [.val (.string (bs a0)), .val (.int .i64 a1)] [] (fun x => .agg [.val (.int .i64 res.fRaw.fAt), .val (.int .i64 res.fRaw.fN), .val (.int .i64 res.fKind), .sl 1 (List.map (eI .i64) res.fBytes)]) (fun x => []) := by
 unfold ref05_field at h0
 refine CallF.mkG (X := X) rfl Try.func77 rfl rfl Try.ntmps77 rfl rfl ?_
 refine aS ?_
 refine TL.op (OpR.alloc rfl rfl (fun _ => rfl)) rfl (fun p1 => ?_)
 refine TL.nil ?_
 show T X _ _ _
 refine aS ?_
 refine TL.op1 (OpR.build rfl rfl rfl rfl rfl) rfl ?_
 refine TL.op (OpR.alloc rfl rfl (fun _ => rfl)) rfl (fun p2 => ?_)
 refine TL.op0 (OpR.store 1 rfl rfl rfl rfl rfl rfl rfl rfl) ?_
 refine TL.nil ?_
 show T X _ _ _
 refine T.seq ?_
 refine aS ?_
 iterate 2 refine aA rfl rfl ?_
 obtain ⟨x3, hx3, h0⟩ := bnd_some h0
 refine TL.op1 (OpR.call0 fn84 (ref05_quote_c hx3) rfl) rfl ?_
 refine aA rfl rfl ?_
 refine TL.nil ?_
 show T X _ _ _
 rcases ite_some h0 with ⟨c4, h0⟩ | ⟨c4, h0⟩
 rotate_left
 · refine T.condT rfl (not_f (eq_false_of_ne_true c4)) ?_
   refine aS ?_
   iterate 2 refine aA rfl rfl ?_
   obtain ⟨x33, hx33, h0⟩ := bnd_some h0
   refine TL.op1 (OpR.call0 fn85 (ref05_till_c hx33) rfl) rfl ?_
   refine aA rfl rfl ?_
   refine TL.nil ?_
   show T X _ _ _
   refine aS ?_
   iterate 4 refine aA rfl rfl ?_
   refine TL.op1 (OpR.build rfl rfl rfl rfl rfl) rfl ?_
   refine aA rfl rfl ?_
   refine TL.op0 (OpR.store 1 rfl rfl rfl rfl rfl rfl rfl rfl) ?_
   refine TL.nil ?_
   show T X _ _ _
   refine aS ?_
   iterate 2 refine aA rfl rfl ?_
   obtain ⟨x34, hx34, h0⟩ := bnd_some h0
   refine TL.op1 (OpR.call0 fn86 (ref05_places_c hx34) rfl) rfl ?_
   refine aA rfl rfl ?_
   refine TL.op0 (OpR.store 1 rfl rfl rfl rfl rfl rfl rfl rfl) ?_
   refine TL.nil ?_
   show T X _ _ _
   refine T.seq ?_
   refine aS ?_
   iterate 2 refine aA rfl rfl ?_
   refine TL.nil ?_
   show T X _ _ _
   obtain ⟨t35, ht35, h0⟩ := bnd_some h0
   refine T.cutC (fun S' => S' = ⟨[(5, .val (.pointer (some ⟨(blk p2), 0, none⟩))), (4, .val (.pointer (some ⟨(blk p1), 0, none⟩))), (1, .val (.int .i64 a1)), (0, .val (.string (bs a0)))], [.var (blk p1) [.val (.int .i64 0), .val (.int .i64 0), .val (.int .i64 0), .val (.slice none 0 0)] 138, .var (blk p2) [.val (.int .i64 a1), .val (.int .i64 (w64 (x33 - a1))), .val (.int .i64 t35), .sl 1 (List.map (eI .i64) x34)] 138], 107⟩) (fun _ h => h) ?_ ?_
   rotate_left
   · rintro _ rfl
     show T X _ _ _
     refine aS ?_
     refine TL.op1 (OpR.loadPtr 1 rfl rfl rfl rfl) rfl ?_
     refine TL.op0 (OpR.store 0 rfl rfl rfl rfl rfl rfl rfl rfl) ?_
     refine TL.nil ?_
     show T X _ _ _
     refine T.ret ?_
     obtain rfl := Option.some.inj h0
     exact PostG.retP (ks := []) (Gst.trans (Gst.only [4] rfl) (Gst.pick [0] rfl rfl)) undef (ResL.cons (ResV.var 0 rfl rfl rfl rfl) ResL.nil) rfl rfl rfl rfl
   refine T.block ?_
   obtain ⟨n37, n42⟩ := loop_some ht35
   refine T.loop (fun n S' => ∃ S'', Gst S' S'' ∧ ∃ s36 : Int × Int, S'' = ⟨[(7, .val (.int .i64 s36.1)), (6, .val (.int .i64 x33)), (5, .val (.pointer (some ⟨(blk p2), 0, none⟩))), (4, .val (.pointer (some ⟨(blk p1), 0, none⟩))), (1, .val (.int .i64 a1)), (0, .val (.string (bs a0)))], [.var (blk p1) [.val (.int .i64 0), .val (.int .i64 0), .val (.int .i64 0), .val (.slice none 0 0)] 138, .var (blk p2) [.val (.int .i64 a1), .val (.int .i64 (w64 (x33 - a1))), .val (.int .i64 s36.2), .sl 1 (List.map (eI .i64) x34)] 138], 107⟩ ∧ iter (ref05_field.l2 a0 x33) n s36 = some t35) n37 ?_ ?_
   · exact ⟨_, Gst.only [0, 1, 4, 5, 6, 7] rfl, (a1, 0), rfl, n42⟩
   rintro n37 _ ⟨_, g, s36, rfl, i41⟩
   refine T.ghost g ?_
   obtain ⟨m38, q39, rfl, q40, i41⟩ := iter_succ i41
   unfold ref05_field.l2 at q40
   refine T.seq ?_
   refine aS ?_
   iterate 3 refine aA rfl rfl ?_
   refine TL.nil ?_
   show T X _ _ _
   rcases ite_some q40 with ⟨c44, q40⟩ | ⟨c44, q40⟩
   rotate_left
   · refine T.condF rfl (decide_eq_false c44) ?_
     refine T.exit ?_
     obtain rfl := Option.some.inj q40
     obtain rfl : _ = _ := i41
     exact ⟨_, Gst.only [0, 1, 4, 5] rfl, rfl⟩
   refine T.condT rfl (decide_eq_true c44) ?_
   refine T.skip ?_
   show T X _ _ _
   refine T.seq ?_
   refine T.block ?_
   refine aS ?_
   iterate 2 refine aA rfl rfl ?_
   obtain ⟨x45, hx45, q40⟩ := bnd_some q40
   refine TL.op1 (OpR.call0 fn84 (ref05_quote_c hx45) rfl) rfl ?_
   refine TL.nil ?_
   show T X _ _ _
   obtain ⟨t46, ht46, q40⟩ := bnd_some q40
   refine T.cutC (fun S' => S' = ⟨[(7, .val (.int .i64 s36.1)), (6, .val (.int .i64 x33)), (5, .val (.pointer (some ⟨(blk p2), 0, none⟩))), (4, .val (.pointer (some ⟨(blk p1), 0, none⟩))), (1, .val (.int .i64 a1)), (0, .val (.string (bs a0)))], [.var (blk p1) [.val (.int .i64 0), .val (.int .i64 0), .val (.int .i64 0), .val (.slice none 0 0)] 138, .var (blk p2) [.val (.int .i64 a1), .val (.int .i64 (w64 (x33 - a1))), .val (.int .i64 t46), .sl 1 (List.map (eI .i64) x34)] 138], 107⟩) (fun _ h => h) ?_ ?_
   rotate_left
   · rintro _ rfl
     show T X _ _ _
     refine T.region ?_
     iterate 3 refine aA rfl rfl ?_
     refine TL.nil ?_
     obtain rfl := Option.some.inj q40
     exact ⟨m38, Nat.lt_succ_self _, _, Gst.only [0, 1, 4, 5, 6, 7] rfl, (w64 (s36.1 + 1), t46), rfl, i41⟩
   rcases ite_some ht46 with ⟨c47, ht46⟩ | ⟨c47, ht46⟩
   rotate_left
   · refine T.condF rfl (eq_false_of_ne_true c47) ?_
     refine T.skip ?_
     obtain rfl := Option.some.inj ht46
     exact ⟨_, Gst.only [0, 1, 4, 5, 6, 7] rfl, rfl⟩
   refine T.condT rfl (c47) ?_
   refine T.region ?_
   refine aA rfl rfl ?_
   refine TL.op0 (OpR.store 1 rfl rfl rfl rfl rfl rfl rfl rfl) ?_
   refine TL.nil ?_
   obtain rfl := Option.some.inj ht46
   exact ⟨_, Gst.only [0, 1, 4, 5, 6, 7] rfl, rfl⟩
 refine T.condF rfl (not_t (c4)) ?_
 refine T.skip ?_
 show T X _ _ _
 refine aS ?_
 iterate 3 refine aA rfl rfl ?_
 refine TL.nil ?_
 show T X _ _ _
 refine T.seq ?_
 obtain ⟨t5, ht5, h0⟩ := bnd_some h0
 refine T.cutC (fun S' => ∃ y6 : Value, S' = ⟨[(8, .val (.int .i64 t5.1)), (5, .val (.pointer (some ⟨(blk p2), 0, none⟩))), (4, .val (.pointer (some ⟨(blk p1), 0, none⟩))), (1, .val (.int .i64 a1)), (0, .val (.string (bs a0)))], [.var (blk p1) [.val (.int .i64 0), .val (.int .i64 0), .val (.int .i64 0), .val (.slice none 0 0)] 138, .var (blk p2) [.val (.int .i64 0), .val (.int .i64 0), .val (.int .i64 0), .val y6] 138, .row y6 (List.map (eI .i64) t5.2) 1 3], 107⟩) (fun _ h => h) ?_ ?_
 rotate_left
 · rintro _ ⟨y6, rfl⟩
   show T X _ _ _
   refine T.seq ?_
   refine aS ?_
   iterate 2 refine aA rfl rfl ?_
   refine TL.op1 (OpR.cast (OpR.pure rfl) (intE (lenS _))) rfl ?_
   refine aA rfl rfl ?_
   refine TL.nil ?_
   show T X _ _ _
   rcases ite_some h0 with ⟨c27, h0⟩ | ⟨c27, h0⟩
   · refine T.condT rfl (decide_eq_true c27) ?_
     refine aS ?_
     refine aA rfl rfl ?_
     refine TL.op0 (OpR.store 1 rfl rfl rfl rfl rfl rfl rfl rfl) ?_
     refine TL.nil ?_
     show T X _ _ _
     refine aS ?_
     iterate 2 refine aA rfl rfl ?_
     refine TL.op1 (OpR.cast (OpR.pure rfl) (intE (lenS _))) rfl ?_
     iterate 2 refine aA rfl rfl ?_
     refine TL.op1 (OpR.build rfl rfl rfl rfl rfl) rfl ?_
     refine aA rfl rfl ?_
     refine TL.op0 (OpR.store 1 rfl rfl rfl rfl rfl rfl rfl rfl) ?_
     refine TL.nil ?_
     show T X _ _ _
     refine aS ?_
     refine TL.op1 (OpR.loadPtr 1 rfl rfl rfl rfl) rfl ?_
     refine TL.op0 (OpR.store 0 rfl rfl rfl rfl rfl rfl rfl rfl) ?_
     refine TL.nil ?_
     show T X _ _ _
     refine T.ret ?_
     obtain rfl := Option.some.inj h0
     exact PostG.retP (ks := []) (Gst.trans (Gst.only [4] rfl) (Gst.trans (Gst.freezeRow 2 rfl rfl (ReS.cons Re.refl ReS.nil) (ReO.var (ReL.cons Re.refl (ReL.cons Re.refl (ReL.cons Re.refl (ReL.cons (Re.base .all) ReL.nil)))) (ReO.var (ReL.cons Re.refl (ReL.cons Re.refl (ReL.cons Re.refl (ReL.cons (Re.base .all) ReL.nil)))) (ReO.same ReO.nil)))) (Gst.pick [0] rfl rfl))) undef (ResL.cons (ResV.var 0 rfl rfl rfl rfl) ResL.nil) rfl rfl rfl rfl
   refine T.condF rfl (decide_eq_false c27) ?_
   refine T.skip ?_
   show T X _ _ _
   refine aS ?_
   iterate 3 refine aA rfl rfl ?_
   obtain ⟨x28, hx28, h0⟩ := bnd_some h0
   refine TL.op1 (OpR.call0 fn85 (ref05_till_c hx28) rfl) rfl ?_
   refine aA rfl rfl ?_
   refine TL.nil ?_
   show T X _ _ _
   refine aS ?_
   refine aA rfl rfl ?_
   refine TL.op0 (OpR.store 1 rfl rfl rfl rfl rfl rfl rfl rfl) ?_
   refine TL.nil ?_
   show T X _ _ _
   refine T.seq ?_
   refine aS ?_
   iterate 4 refine aA rfl rfl ?_
   refine TL.nil ?_
   show T X _ _ _
   obtain ⟨t29, ht29, h0⟩ := bnd_some h0
   refine T.cutC (fun S' => S' = ⟨[(9, .val (.int .i64 x28)), (8, .val (.int .i64 t5.1)), (5, .val (.pointer (some ⟨(blk p2), 0, none⟩))), (4, .val (.pointer (some ⟨(blk p1), 0, none⟩))), (1, .val (.int .i64 a1))], [.var (blk p1) [.val (.int .i64 0), .val (.int .i64 0), .val (.int .i64 0), .val (.slice none 0 0)] 138, .var (blk p2) [.val (.int .i64 0), .val (.int .i64 0), .val (.int .i64 t29), .val y6] 138, .row y6 (List.map (eI .i64) t5.2) 1 3], 107⟩) (fun _ h => h) ?_ ?_
   · rcases ite_some ht29 with ⟨c30, ht29⟩ | ⟨c30, ht29⟩
     rotate_left
     · refine T.condF rfl (decide_eq_false c30) ?_
       refine T.skip ?_
       obtain rfl := Option.some.inj ht29
       exact ⟨_, Gst.only [1, 4, 5, 8, 9] rfl, rfl⟩
     refine T.condT rfl (decide_eq_true c30) ?_
     refine T.region ?_
     refine aA rfl rfl ?_
     refine TL.op0 (OpR.store 1 rfl rfl rfl rfl rfl rfl rfl rfl) ?_
     refine TL.nil ?_
     obtain rfl := Option.some.inj ht29
     exact ⟨_, Gst.only [1, 4, 5, 8, 9] rfl, rfl⟩
   rintro _ rfl
   show T X _ _ _
   refine aS ?_
   refine aA rfl rfl ?_
   refine TL.op1 (OpR.loadPtr 1 rfl rfl rfl rfl) rfl ?_
   iterate 3 refine aA rfl rfl ?_
   obtain ⟨x31, hx31, h0⟩ := bnd_some h0
   refine TL.op (OpR.call [2] fn86 (ref05_places_2_c hx31) rfl rfl rfl (fun _ => rfl)) rfl (fun w32 => ?_)
   refine aA rfl rfl ?_
   refine TL.op0 (OpR.store 1 rfl rfl rfl rfl rfl rfl rfl rfl) ?_
   refine TL.nil ?_
   show T X _ _ _
   refine aS ?_
   iterate 4 refine aA rfl rfl ?_
   refine TL.op1 (OpR.build rfl rfl rfl rfl rfl) rfl ?_
   refine aA rfl rfl ?_
   refine TL.op0 (OpR.store 1 rfl rfl rfl rfl rfl rfl rfl rfl) ?_
   refine TL.nil ?_
   show T X _ _ _
   refine aS ?_
   refine TL.op1 (OpR.loadPtr 1 rfl rfl rfl rfl) rfl ?_
   refine TL.op0 (OpR.store 0 rfl rfl rfl rfl rfl rfl rfl rfl) ?_
   refine TL.nil ?_
   show T X _ _ _
   refine T.ret ?_
   obtain rfl := Option.some.inj h0
   exact PostG.retP (ks := []) (Gst.trans (Gst.only [4] rfl) (Gst.trans (Gst.freezeRow 2 rfl rfl (ReS.cons Re.refl ReS.nil) (ReO.var (ReL.cons Re.refl (ReL.cons Re.refl (ReL.cons Re.refl (ReL.cons (Re.base .all) ReL.nil)))) (ReO.var (ReL.cons Re.refl (ReL.cons Re.refl (ReL.cons Re.refl (ReL.cons (Re.base .all) ReL.nil)))) (ReO.same ReO.nil)))) (Gst.pick [0] rfl rfl))) undef (ResL.cons (ResV.var 0 rfl rfl rfl rfl) ResL.nil) rfl rfl rfl rfl
 refine T.block ?_
 obtain ⟨n9, n14⟩ := loop_some ht5
 refine T.loop (fun n S' => ∃ S'', Gst S' S'' ∧ ∃ y7 : Value, ∃ s8 : Int × (List Int), S'' = ⟨[(8, .val (.int .i64 s8.1)), (5, .val (.pointer (some ⟨(blk p2), 0, none⟩))), (4, .val (.pointer (some ⟨(blk p1), 0, none⟩))), (1, .val (.int .i64 a1)), (0, .val (.string (bs a0)))], [.var (blk p1) [.val (.int .i64 0), .val (.int .i64 0), .val (.int .i64 0), .val (.slice none 0 0)] 138, .var (blk p2) [.val (.int .i64 0), .val (.int .i64 0), .val (.int .i64 0), .val y7] 138, .row y7 (List.map (eI .i64) s8.2) 1 3], 107⟩ ∧ iter (ref05_field.l1 a0) n s8 = some t5) n9 ?_ ?_
 · exact ⟨_, Gst.trans (Gst.only [0, 1, 4, 5, 8] rfl) (Gst.nilRow (ow := [.var (blk p1) [.val (.int .i64 0), .val (.int .i64 0), .val (.int .i64 0), .val (.slice none 0 0)] 138, .var (blk p2) [.val (.int .i64 0), .val (.int .i64 0), .val (.int .i64 0), .val (.slice none 0 0)] 138]) 1 3 rfl), (.slice none 0 0), (w64 (a1 + 1), []), rfl, n14⟩
 rintro n9 _ ⟨_, g, y7, s8, rfl, i13⟩
 refine T.ghost g ?_
 obtain ⟨m10, q11, rfl, q12, i13⟩ := iter_succ i13
 unfold ref05_field.l1 at q12
 refine T.seq ?_
 refine T.seq ?_
 obtain ⟨t16, ht16, q12⟩ := bnd_some q12
 refine T.cutC (fun S' => S' = ⟨[(56, .val (.bool t16)), (8, .val (.int .i64 s8.1)), (5, .val (.pointer (some ⟨(blk p2), 0, none⟩))), (4, .val (.pointer (some ⟨(blk p1), 0, none⟩))), (1, .val (.int .i64 a1)), (0, .val (.string (bs a0)))], [.var (blk p1) [.val (.int .i64 0), .val (.int .i64 0), .val (.int .i64 0), .val (.slice none 0 0)] 138, .var (blk p2) [.val (.int .i64 0), .val (.int .i64 0), .val (.int .i64 0), .val y7] 138, .row y7 (List.map (eI .i64) s8.2) 1 3], 107⟩) (fun _ h => h) ?_ ?_
 rotate_left
 · rintro _ rfl
   show T X _ _ _
   rcases ite_some q12 with ⟨c21, q12⟩ | ⟨c21, q12⟩
   rotate_left
   · refine T.condF rfl (eq_false_of_ne_true c21) ?_
     refine T.exit ?_
     obtain rfl := Option.some.inj q12
     obtain rfl : _ = _ := i13
     exact ⟨_, Gst.only [0, 1, 4, 5, 8] rfl, y7, rfl⟩
   refine T.condT rfl (c21) ?_
   refine T.skip ?_
   show T X _ _ _
   refine T.block ?_
   refine aS ?_
   refine aA rfl rfl ?_
   refine TL.op1 (OpR.loadPtr 1 rfl rfl rfl rfl) rfl ?_
   refine aA rfl rfl ?_
   refine TL.op1 (OpR.lit rfl rfl rfl rfl rfl rfl rfl) rfl ?_
   obtain ⟨x22, hx22, q12⟩ := bnd_some q12
   refine TL.op (OpR.appendM (m := [s8.1]) (eI .i64) 2 hx22 rfl rfl rfl rfl rfl rfl rfl rfl rfl (fun _ => rfl)) rfl (fun v23 => ?_)
   refine aA rfl rfl ?_
   refine TL.op0 (OpR.store 1 rfl rfl rfl rfl rfl rfl rfl rfl) ?_
   refine TL.nil ?_
   show T X _ _ _
   refine T.seq ?_
   refine aS ?_
   iterate 2 refine aA rfl rfl ?_
   obtain ⟨x24, hx24, q12⟩ := bnd_some q12
   refine TL.op1 (OpR.call0 fn84 (ref05_quote_c hx24) rfl) rfl ?_
   refine TL.nil ?_
   show T X _ _ _
   obtain ⟨t25, ht25, q12⟩ := bnd_some q12
   refine T.cutC (fun S' => S' = ⟨[(8, .val (.int .i64 t25)), (5, .val (.pointer (some ⟨(blk p2), 0, none⟩))), (4, .val (.pointer (some ⟨(blk p1), 0, none⟩))), (1, .val (.int .i64 a1)), (0, .val (.string (bs a0)))], [.var (blk p1) [.val (.int .i64 0), .val (.int .i64 0), .val (.int .i64 0), .val (.slice none 0 0)] 138, .var (blk p2) [.val (.int .i64 0), .val (.int .i64 0), .val (.int .i64 0), .val v23] 138, .row v23 (List.map (eI .i64) x22) 1 3], 107⟩) (fun _ h => h) ?_ ?_
   rotate_left
   · rintro _ rfl
     show T X _ _ _
     refine T.region ?_
     iterate 3 refine aA rfl rfl ?_
     refine TL.nil ?_
     obtain rfl := Option.some.inj q12
     exact ⟨m10, Nat.lt_succ_self _, _, Gst.only [0, 1, 4, 5, 8] rfl, v23, (w64 (t25 + 1), x22), rfl, i13⟩
   rcases ite_some ht25 with ⟨c26, ht25⟩ | ⟨c26, ht25⟩
   rotate_left
   · refine T.condF rfl (eq_false_of_ne_true c26) ?_
     refine T.skip ?_
     obtain rfl := Option.some.inj ht25
     exact ⟨_, Gst.only [0, 1, 4, 5, 8] rfl, rfl⟩
   refine T.condT rfl (c26) ?_
   refine T.region ?_
   iterate 3 refine aA rfl rfl ?_
   refine TL.nil ?_
   obtain rfl := Option.some.inj ht25
   exact ⟨_, Gst.only [0, 1, 4, 5, 8] rfl, rfl⟩
 refine T.region ?_
 iterate 2 refine aA rfl rfl ?_
 refine TL.op1 (OpR.cast (OpR.pure rfl) (intE (lenS _))) rfl ?_
 iterate 2 refine aA rfl rfl ?_
 rcases ite_some ht16 with ⟨c17, ht16⟩ | ⟨c17, ht16⟩
 rotate_left
 · refine TL.off rfl rfl rfl rfl (decide_eq_false c17) rfl rfl ?_
   refine TL.off rfl rfl rfl rfl (decide_eq_false c17) rfl rfl ?_
   refine TL.off rfl rfl rfl rfl (decide_eq_false c17) rfl rfl ?_
   refine TL.off rfl rfl rfl rfl (decide_eq_false c17) rfl rfl ?_
   refine TL.off rfl rfl rfl rfl (decide_eq_false c17) rfl rfl ?_
   refine TL.offU rfl rfl rfl rfl rfl rfl ?_
   refine TL.offU rfl rfl rfl rfl rfl rfl ?_
   refine TL.offU rfl rfl rfl rfl rfl rfl ?_
   refine TL.offU rfl rfl rfl rfl rfl rfl ?_
   refine TL.off rfl rfl rfl rfl (decide_eq_false c17) rfl rfl ?_
   refine TL.op1 (OpR.pickF rfl (decide_eq_false c17) rfl) rfl ?_
   refine TL.nil ?_
   obtain rfl := Option.some.inj ht16
   exact ⟨_, Gst.only [0, 1, 4, 5, 8, 56] rfl, rfl⟩
 refine TL.on rfl rfl rfl rfl (decide_eq_true c17) ?_
 refine aA rfl rfl ?_
 refine TL.on rfl rfl rfl rfl (decide_eq_true c17) ?_
 refine aA rfl rfl ?_
 refine TL.on rfl rfl rfl rfl (decide_eq_true c17) ?_
 obtain ⟨x18, hx18, ht16⟩ := bnd_some ht16
 refine TL.op1 (OpR.call0 fn84 (ref05_quote_c hx18) rfl) rfl ?_
 refine TL.on rfl rfl rfl rfl (decide_eq_true c17) ?_
 refine aA rfl rfl ?_
 refine TL.on rfl rfl rfl rfl (decide_eq_true c17) ?_
 refine aA rfl rfl ?_
 rcases ite_some ht16 with ⟨c19, ht16⟩ | ⟨c19, ht16⟩
 rotate_left
 · refine TL.off rfl rfl rfl rfl (not_f (eq_false_of_ne_true c19)) rfl rfl ?_
   refine TL.off rfl rfl rfl rfl (not_f (eq_false_of_ne_true c19)) rfl rfl ?_
   refine TL.off rfl rfl rfl rfl (not_f (eq_false_of_ne_true c19)) rfl rfl ?_
   refine TL.off rfl rfl rfl rfl (not_f (eq_false_of_ne_true c19)) rfl rfl ?_
   refine TL.on rfl rfl rfl rfl (decide_eq_true c17) ?_
   refine TL.op1 (OpR.pickT rfl (not_f (eq_false_of_ne_true c19)) rfl) rfl ?_
   refine TL.op1 (OpR.pickT rfl (decide_eq_true c17) rfl) rfl ?_
   refine TL.nil ?_
   obtain rfl := Option.some.inj ht16
   exact ⟨_, Gst.only [0, 1, 4, 5, 8, 56] rfl, rfl⟩
 refine TL.on rfl rfl rfl rfl (not_t (c19)) ?_
 refine aA rfl rfl ?_
 refine TL.on rfl rfl rfl rfl (not_t (c19)) ?_
 refine aA rfl rfl ?_
 refine TL.on rfl rfl rfl rfl (not_t (c19)) ?_
 refine aA rfl rfl ?_
 refine TL.on rfl rfl rfl rfl (not_t (c19)) ?_
 obtain ⟨x20, hx20, ht16⟩ := bnd_some ht16
 refine TL.op1 (OpR.call0 fn84 (ref05_quote_c hx20) rfl) rfl ?_
 refine TL.on rfl rfl rfl rfl (decide_eq_true c17) ?_
 refine TL.op1 (OpR.pickF rfl (not_t (c19)) rfl) rfl ?_
 refine TL.op1 (OpR.pickT rfl (decide_eq_true c17) rfl) rfl ?_
 refine TL.nil ?_
 obtain rfl := Option.some.inj ht16
 exact ⟨_, Gst.only [0, 1, 4, 5, 8, 56] rfl, rfl⟩
noncomputable def ref05_One.l1 (a0 : List UInt8) (s9 : Int × (List ref05_Field)) : Option (Lp (Int × (List ref05_Field)) (Int × (List ref05_Field))) :=
  bnd (ref05_field a0 s9.1) fun x17 =>
  bnd (app 48 s9.2 [x17]) fun x19 =>
  bnd (if (w64 (x17.fRaw.fAt + x17.fRaw.fN)) ≥ (a0.length : Int) then
    some true
  else
    bnd (idx a0 (w64 (x17.fRaw.fAt + x17.fRaw.fN))) fun x23 =>
    some (!((x23.toNat : Int) == 44)) : Option Bool) fun t21 =>
  if t21 = true then
    some (Lp.done (w64 (x17.fRaw.fAt + x17.fRaw.fN), x19))
  else
    some (Lp.next (w64 ((w64 (x17.fRaw.fAt + x17.fRaw.fN)) + 1), x19))
noncomputable def ref05_One (a0 : List UInt8) (a1 : Int) : Option (ref05_Row × Int) :=
  bnd (if a1 < 0 then
    some true
  else
    some (decide (a1 ≥ (a0.length : Int))) : Option Bool) fun t3 =>
  if t3 = true then
    some ((⟨[], 0⟩ : ref05_Row), a1)
  else
    bnd (loop (ref05_One.l1 a0) (a1, []) : Option (Int × (List ref05_Field))) fun t6 =>
    bnd (if t6.1 < (a0.length : Int) then
      bnd (idx a0 t6.1) fun x27 =>
      some ((x27.toNat : Int) == 10)
    else
      some false : Option Bool) fun t25 =>
    if t25 = true then
      some ((⟨t6.2, 1⟩ : ref05_Row), w64 (t6.1 + 1))
    else
      bnd (if (w64 (t6.1 + 1)) < (a0.length : Int) then
        bnd (idx a0 t6.1) fun x31 =>
        if (x31.toNat : Int) = 13 then
          bnd (idx a0 (w64 (t6.1 + 1))) fun x33 =>
          some ((x33.toNat : Int) == 10)
        else
          some false
      else
        some false : Option Bool) fun t29 =>
      if t29 = true then
        some ((⟨t6.2, 2⟩ : ref05_Row), w64 (t6.1 + 2))
      else
        if t6.1 < (a0.length : Int) then
          some ((⟨t6.2, 3⟩ : ref05_Row), w64 (t6.1 + 1))
        else
          some ((⟨t6.2, 0⟩ : ref05_Row), t6.1)
set_option maxHeartbeats 4000000 in
theorem ref05_One_c {a0 : List UInt8} {a1 : Int} {res : ref05_Row × Int} (h0 : ref05_One a0 a1 = some res) : CallF X 58 [.val (.string (bs a0)), .val (.int .i64 a1)] [] (fun x => .tup [.agg [.sl 4 (List.map e_ref05_Field res.1.fFields), .val (.int .i64 res.1.fEnd)], .val (.int .i64 res.2)]) (fun x => []) := by
 unfold ref05_One at h0
 refine CallF.mkG (X := X) rfl Try.func58 rfl rfl Try.ntmps58 rfl rfl ?_
 refine aS ?_
 refine TL.op (OpR.alloc rfl rfl (fun _ => rfl)) rfl (fun p1 => ?_)
 refine aA rfl rfl ?_
 refine TL.nil ?_
 show T X _ _ _
 refine aS ?_
 refine TL.op1 (OpR.build rfl rfl rfl rfl rfl) rfl ?_
 refine TL.op (OpR.alloc rfl rfl (fun _ => rfl)) rfl (fun p2 => ?_)
 refine TL.op0 (OpR.store 1 rfl rfl rfl rfl rfl rfl rfl rfl) ?_
 refine TL.nil ?_
 show T X _ _ _
 refine T.seq ?_
 refine T.seq ?_
 obtain ⟨t3, ht3, h0⟩ := bnd_some h0
 refine T.cutC (fun S' => S' = ⟨[(16, .val (.bool t3)), (6, .val (.pointer (some ⟨(blk p2), 0, none⟩))), (5, .val (.int .i64 0)), (4, .val (.pointer (some ⟨(blk p1), 0, none⟩))), (1, .val (.int .i64 a1)), (0, .val (.string (bs a0)))], [.var (blk p1) [.val (.slice none 0 0), .val (.int .i64 0)] 94, .var (blk p2) [.val (.slice none 0 0), .val (.int .i64 0)] 94], 93⟩) (fun _ h => h) ?_ ?_
 · refine T.region ?_
   iterate 3 refine aA rfl rfl ?_
   rcases ite_some ht3 with ⟨c4, ht3⟩ | ⟨c4, ht3⟩
   · refine TL.off rfl rfl rfl rfl (decide_eq_true c4) rfl rfl ?_
     refine TL.off rfl rfl rfl rfl (decide_eq_true c4) rfl rfl ?_
     refine TL.off rfl rfl rfl rfl (decide_eq_true c4) rfl rfl ?_
     refine TL.off rfl rfl rfl rfl (decide_eq_true c4) rfl rfl ?_
     refine TL.op1 (OpR.pickT rfl (decide_eq_true c4) rfl) rfl ?_
     refine TL.nil ?_
     obtain rfl := Option.some.inj ht3
     exact ⟨_, Gst.only [0, 1, 4, 5, 6, 16] rfl, rfl⟩
   refine TL.on rfl rfl rfl rfl (decide_eq_false c4) ?_
   refine aA rfl rfl ?_
   refine TL.on rfl rfl rfl rfl (decide_eq_false c4) ?_
   refine aA rfl rfl ?_
   refine TL.on rfl rfl rfl rfl (decide_eq_false c4) ?_
   refine TL.op1 (OpR.cast (OpR.pure rfl) (intE (lenS _))) rfl ?_
   refine TL.on rfl rfl rfl rfl (decide_eq_false c4) ?_
   refine aA rfl rfl ?_
   refine TL.op1 (OpR.pickF rfl (decide_eq_false c4) rfl) rfl ?_
   refine TL.nil ?_
   obtain rfl := Option.some.inj ht3
   exact ⟨_, Gst.only [0, 1, 4, 5, 6, 16] rfl, rfl⟩
 rintro _ rfl
 show T X _ _ _
 rcases ite_some h0 with ⟨c5, h0⟩ | ⟨c5, h0⟩
 · refine T.condT rfl (c5) ?_
   refine aS ?_
   refine TL.op1 (OpR.loadPtr 1 rfl rfl rfl rfl) rfl ?_
   refine aA rfl rfl ?_
   refine TL.op0 (OpR.store 0 rfl rfl rfl rfl rfl rfl rfl rfl) ?_
   refine aA rfl rfl ?_
   refine TL.nil ?_
   show T X _ _ _
   refine T.ret ?_
   obtain rfl := Option.some.inj h0
   exact PostG.retP (ks := []) (Gst.trans (Gst.only [4, 5] rfl) (Gst.trans (Gst.denil (ReS.cons Re.refl (ReS.cons Re.refl ReS.nil)) (ReO.var (ReL.cons (Re.base .nil) (ReL.cons Re.refl ReL.nil)) (ReO.same ReO.nil))) (Gst.pick [0] rfl rfl))) undef (ResL.cons (ResV.var 0 rfl rfl rfl rfl) (ResL.cons (ResV.tmp rfl) ResL.nil)) rfl rfl rfl rfl
 refine T.condF rfl (eq_false_of_ne_true c5) ?_
 refine T.skip ?_
 show T X _ _ _
 refine T.seq ?_
 obtain ⟨t6, ht6, h0⟩ := bnd_some h0
 refine T.cutC (fun S' => ∃ y7 : Value, S' = ⟨[(6, .val (.pointer (some ⟨(blk p2), 0, none⟩))), (5, .val (.int .i64 0)), (4, .val (.pointer (some ⟨(blk p1), 0, none⟩))), (1, .val (.int .i64 t6.1)), (0, .val (.string (bs a0)))], [.var (blk p1) [.val (.slice none 0 0), .val (.int .i64 0)] 94, .var (blk p2) [.val y7, .val (.int .i64 0)] 94, .row y7 (List.map e_ref05_Field t6.2) 4 138], 93⟩) (fun _ h => h) ?_ ?_
 · refine T.block ?_
   obtain ⟨n10, n15⟩ := loop_some ht6
   refine T.loop (fun n S' => ∃ S'', Gst S' S'' ∧ ∃ y8 : Value, ∃ s9 : Int × (List ref05_Field), S'' = ⟨[(6, .val (.pointer (some ⟨(blk p2), 0, none⟩))), (5, .val (.int .i64 0)), (4, .val (.pointer (some ⟨(blk p1), 0, none⟩))), (1, .val (.int .i64 s9.1)), (0, .val (.string (bs a0)))], [.var (blk p1) [.val (.slice none 0 0), .val (.int .i64 0)] 94, .var (blk p2) [.val y8, .val (.int .i64 0)] 94, .row y8 (List.map e_ref05_Field s9.2) 4 138], 93⟩ ∧ iter (ref05_One.l1 a0) n s9 = some t6) n10 ?_ ?_
   · exact ⟨_, Gst.trans (Gst.only [0, 1, 4, 5, 6] rfl) (Gst.nilRow (ow := [.var (blk p1) [.val (.slice none 0 0), .val (.int .i64 0)] 94, .var (blk p2) [.val (.slice none 0 0), .val (.int .i64 0)] 94]) 4 138 rfl), (.slice none 0 0), (a1, []), rfl, n15⟩
   rintro n10 _ ⟨_, g, y8, s9, rfl, i14⟩
   refine T.ghost g ?_
   obtain ⟨m11, q12, rfl, q13, i14⟩ := iter_succ i14
   unfold ref05_One.l1 at q13
   refine T.block ?_
   refine aS ?_
   iterate 2 refine aA rfl rfl ?_
   obtain ⟨x17, hx17, q13⟩ := bnd_some q13
   refine TL.op1 (OpR.call0 fn77 (ref05_field_c hx17) rfl) rfl ?_
   refine TL.op (OpR.alloc rfl rfl (fun _ => rfl)) rfl (fun p18 => ?_)
   refine TL.op0 (OpR.store 3 rfl rfl rfl rfl rfl rfl rfl rfl) ?_
   refine TL.nil ?_
   show T X _ _ _
   refine aS ?_
   refine aA rfl rfl ?_
   refine TL.op1 (OpR.loadPtr 1 rfl rfl rfl rfl) rfl ?_
   refine TL.op1 (OpR.loadPtr 3 rfl rfl rfl rfl) rfl ?_
   refine TL.op1 (OpR.lit rfl rfl rfl rfl rfl rfl rfl) rfl ?_
   obtain ⟨x19, hx19, q13⟩ := bnd_some q13
   refine TL.op (OpR.appendM (m := [x17]) e_ref05_Field 2 hx19 rfl rfl rfl rfl rfl rfl rfl rfl rfl (fun _ => rfl)) rfl (fun v20 => ?_)
   refine aA rfl rfl ?_
   refine TL.op0 (OpR.store 1 rfl rfl rfl rfl rfl rfl rfl rfl) ?_
   refine TL.nil ?_
   show T X _ _ _
   refine aS ?_
   iterate 2 refine aA rfl rfl ?_
   refine TL.op1 (OpR.loadPtr 3 rfl rfl rfl rfl) rfl ?_
   iterate 2 refine aA rfl rfl ?_
   refine TL.op1 (OpR.loadPtr 3 rfl rfl rfl rfl) rfl ?_
   iterate 2 refine aA rfl rfl ?_
   refine TL.nil ?_
   show T X _ _ _
   refine T.seq ?_
   refine T.seq ?_
   obtain ⟨t21, ht21, q13⟩ := bnd_some q13
   refine T.cutC (fun S' => S' = ⟨[(44, .val (.bool t21)), (6, .val (.pointer (some ⟨(blk p2), 0, none⟩))), (5, .val (.int .i64 0)), (4, .val (.pointer (some ⟨(blk p1), 0, none⟩))), (1, .val (.int .i64 (w64 (x17.fRaw.fAt + x17.fRaw.fN)))), (0, .val (.string (bs a0)))], [.var (blk p1) [.val (.slice none 0 0), .val (.int .i64 0)] 94, .var (blk p2) [.val v20, .val (.int .i64 0)] 94, .row v20 (List.map e_ref05_Field x19) 4 138], 93⟩) (fun _ h => h) ?_ ?_
   rotate_left
   · rintro _ rfl
     show T X _ _ _
     rcases ite_some q13 with ⟨c24, q13⟩ | ⟨c24, q13⟩
     · refine T.condT rfl (c24) ?_
       refine T.exit ?_
       obtain rfl := Option.some.inj q13
       obtain rfl : _ = _ := i14
       exact ⟨_, Gst.only [0, 1, 4, 5, 6] rfl, v20, rfl⟩
     refine T.condF rfl (eq_false_of_ne_true c24) ?_
     refine T.skip ?_
     show T X _ _ _
     refine T.region ?_
     iterate 3 refine aA rfl rfl ?_
     refine TL.nil ?_
     obtain rfl := Option.some.inj q13
     exact ⟨m11, Nat.lt_succ_self _, _, Gst.only [0, 1, 4, 5, 6] rfl, v20, (w64 ((w64 (x17.fRaw.fAt + x17.fRaw.fN)) + 1), x19), rfl, i14⟩
   refine T.region ?_
   iterate 2 refine aA rfl rfl ?_
   refine TL.op1 (OpR.cast (OpR.pure rfl) (intE (lenS _))) rfl ?_
   iterate 2 refine aA rfl rfl ?_
   rcases ite_some ht21 with ⟨c22, ht21⟩ | ⟨c22, ht21⟩
   · refine TL.off rfl rfl rfl rfl (decide_eq_true c22) rfl rfl ?_
     refine TL.off rfl rfl rfl rfl (decide_eq_true c22) rfl rfl ?_
     refine TL.off rfl rfl rfl rfl (decide_eq_true c22) rfl rfl ?_
     refine TL.off rfl rfl rfl rfl (decide_eq_true c22) rfl rfl ?_
     refine TL.op1 (OpR.pickT rfl (decide_eq_true c22) rfl) rfl ?_
     refine TL.nil ?_
     obtain rfl := Option.some.inj ht21
     exact ⟨_, Gst.trans (Gst.only [0, 1, 4, 5, 6, 44] rfl) (Gst.pick [0, 1, 2] rfl rfl), rfl⟩
   refine TL.on rfl rfl rfl rfl (decide_eq_false c22) ?_
   refine aA rfl rfl ?_
   refine TL.on rfl rfl rfl rfl (decide_eq_false c22) ?_
   refine aA rfl rfl ?_
   refine TL.on rfl rfl rfl rfl (decide_eq_false c22) ?_
   obtain ⟨x23, hx23, ht21⟩ := bnd_some ht21
   refine TL.op1 (OpR.indexS hx23 rfl rfl rfl rfl) rfl ?_
   refine TL.on rfl rfl rfl rfl (decide_eq_false c22) ?_
   refine aA rfl rfl ?_
   refine TL.op1 (OpR.pickF rfl (decide_eq_false c22) rfl) rfl ?_
   refine TL.nil ?_
   obtain rfl := Option.some.inj ht21
   exact ⟨_, Gst.trans (Gst.only [0, 1, 4, 5, 6, 44] rfl) (Gst.pick [0, 1, 2] rfl rfl), rfl⟩
 rintro _ ⟨y7, rfl⟩
 show T X _ _ _
 refine T.seq ?_
 refine T.seq ?_
 obtain ⟨t25, ht25, h0⟩ := bnd_some h0
 refine T.cutC (fun S' => S' = ⟨[(56, .val (.bool t25)), (6, .val (.pointer (some ⟨(blk p2), 0, none⟩))), (5, .val (.int .i64 0)), (4, .val (.pointer (some ⟨(blk p1), 0, none⟩))), (1, .val (.int .i64 t6.1)), (0, .val (.string (bs a0)))], [.var (blk p1) [.val (.slice none 0 0), .val (.int .i64 0)] 94, .var (blk p2) [.val y7, .val (.int .i64 0)] 94, .row y7 (List.map e_ref05_Field t6.2) 4 138], 93⟩) (fun _ h => h) ?_ ?_
 · refine T.region ?_
   iterate 2 refine aA rfl rfl ?_
   refine TL.op1 (OpR.cast (OpR.pure rfl) (intE (lenS _))) rfl ?_
   iterate 2 refine aA rfl rfl ?_
   rcases ite_some ht25 with ⟨c26, ht25⟩ | ⟨c26, ht25⟩
   rotate_left
   · refine TL.off rfl rfl rfl rfl (decide_eq_false c26) rfl rfl ?_
     refine TL.off rfl rfl rfl rfl (decide_eq_false c26) rfl rfl ?_
     refine TL.off rfl rfl rfl rfl (decide_eq_false c26) rfl rfl ?_
     refine TL.off rfl rfl rfl rfl (decide_eq_false c26) rfl rfl ?_
     refine TL.op1 (OpR.pickF rfl (decide_eq_false c26) rfl) rfl ?_
     refine TL.nil ?_
     obtain rfl := Option.some.inj ht25
     exact ⟨_, Gst.only [0, 1, 4, 5, 6, 56] rfl, rfl⟩
   refine TL.on rfl rfl rfl rfl (decide_eq_true c26) ?_
   refine aA rfl rfl ?_
   refine TL.on rfl rfl rfl rfl (decide_eq_true c26) ?_
   refine aA rfl rfl ?_
   refine TL.on rfl rfl rfl rfl (decide_eq_true c26) ?_
   obtain ⟨x27, hx27, ht25⟩ := bnd_some ht25
   refine TL.op1 (OpR.indexS hx27 rfl rfl rfl rfl) rfl ?_
   refine TL.on rfl rfl rfl rfl (decide_eq_true c26) ?_
   refine aA rfl rfl ?_
   refine TL.op1 (OpR.pickT rfl (decide_eq_true c26) rfl) rfl ?_
   refine TL.nil ?_
   obtain rfl := Option.some.inj ht25
   exact ⟨_, Gst.only [0, 1, 4, 5, 6, 56] rfl, rfl⟩
 rintro _ rfl
 show T X _ _ _
 rcases ite_some h0 with ⟨c28, h0⟩ | ⟨c28, h0⟩
 · refine T.condT rfl (c28) ?_
   refine aS ?_
   refine aA rfl rfl ?_
   refine TL.op0 (OpR.store 1 rfl rfl rfl rfl rfl rfl rfl rfl) ?_
   refine TL.nil ?_
   show T X _ _ _
   refine aS ?_
   refine TL.op1 (OpR.loadPtr 1 rfl rfl rfl rfl) rfl ?_
   iterate 2 refine aA rfl rfl ?_
   refine TL.op0 (OpR.store 0 rfl rfl rfl rfl rfl rfl rfl rfl) ?_
   refine aA rfl rfl ?_
   refine TL.nil ?_
   show T X _ _ _
   refine T.ret ?_
   obtain rfl := Option.some.inj h0
   exact PostG.retP (ks := []) (Gst.trans (Gst.only [4, 5] rfl) (Gst.trans (Gst.freezeRow 2 rfl rfl (ReS.cons Re.refl (ReS.cons Re.refl ReS.nil)) (ReO.var (ReL.cons (Re.base .all) (ReL.cons Re.refl ReL.nil)) (ReO.var (ReL.cons (Re.base .all) (ReL.cons Re.refl ReL.nil)) (ReO.same ReO.nil)))) (Gst.pick [0] rfl rfl))) undef (ResL.cons (ResV.var 0 rfl rfl rfl rfl) (ResL.cons (ResV.tmp rfl) ResL.nil)) rfl rfl rfl rfl
 refine T.condF rfl (eq_false_of_ne_true c28) ?_
 refine T.skip ?_
 show T X _ _ _
 refine T.seq ?_
 refine T.seq ?_
 obtain ⟨t29, ht29, h0⟩ := bnd_some h0
 refine T.cutC (fun S' => S' = ⟨[(78, .val (.bool t29)), (6, .val (.pointer (some ⟨(blk p2), 0, none⟩))), (5, .val (.int .i64 0)), (4, .val (.pointer (some ⟨(blk p1), 0, none⟩))), (1, .val (.int .i64 t6.1)), (0, .val (.string (bs a0)))], [.var (blk p1) [.val (.slice none 0 0), .val (.int .i64 0)] 94, .var (blk p2) [.val y7, .val (.int .i64 0)] 94, .row y7 (List.map e_ref05_Field t6.2) 4 138], 93⟩) (fun _ h => h) ?_ ?_
 · refine T.region ?_
   iterate 3 refine aA rfl rfl ?_
   refine TL.op1 (OpR.cast (OpR.pure rfl) (intE (lenS _))) rfl ?_
   iterate 2 refine aA rfl rfl ?_
   rcases ite_some ht29 with ⟨c30, ht29⟩ | ⟨c30, ht29⟩
   rotate_left
   · refine TL.off rfl rfl rfl rfl (decide_eq_false c30) rfl rfl ?_
     refine TL.off rfl rfl rfl rfl (decide_eq_false c30) rfl rfl ?_
     refine TL.off rfl rfl rfl rfl (decide_eq_false c30) rfl rfl ?_
     refine TL.off rfl rfl rfl rfl (decide_eq_false c30) rfl rfl ?_
     refine TL.op1 (OpR.pickF rfl (decide_eq_false c30) rfl) rfl ?_
     refine aA rfl rfl ?_
     refine TL.off rfl rfl rfl rfl rfl rfl rfl ?_
     refine TL.off rfl rfl rfl rfl rfl rfl rfl ?_
     refine TL.off rfl rfl rfl rfl rfl rfl rfl ?_
     refine TL.off rfl rfl rfl rfl rfl rfl rfl ?_
     refine TL.off rfl rfl rfl rfl rfl rfl rfl ?_
     refine TL.op1 (OpR.pickF rfl rfl rfl) rfl ?_
     refine TL.nil ?_
     obtain rfl := Option.some.inj ht29
     exact ⟨_, Gst.only [0, 1, 4, 5, 6, 78] rfl, rfl⟩
   refine TL.on rfl rfl rfl rfl (decide_eq_true c30) ?_
   refine aA rfl rfl ?_
   refine TL.on rfl rfl rfl rfl (decide_eq_true c30) ?_
   refine aA rfl rfl ?_
   refine TL.on rfl rfl rfl rfl (decide_eq_true c30) ?_
   obtain ⟨x31, hx31, ht29⟩ := bnd_some ht29
   refine TL.op1 (OpR.indexS hx31 rfl rfl rfl rfl) rfl ?_
   refine TL.on rfl rfl rfl rfl (decide_eq_true c30) ?_
   refine aA rfl rfl ?_
   refine TL.op1 (OpR.pickT rfl (decide_eq_true c30) rfl) rfl ?_
   refine aA rfl rfl ?_
   rcases ite_some ht29 with ⟨c32, ht29⟩ | ⟨c32, ht29⟩
   rotate_left
   · refine TL.off rfl rfl rfl rfl (beq_eq_false_iff_ne.2 c32) rfl rfl ?_
     refine TL.off rfl rfl rfl rfl (beq_eq_false_iff_ne.2 c32) rfl rfl ?_
     refine TL.off rfl rfl rfl rfl (beq_eq_false_iff_ne.2 c32) rfl rfl ?_
     refine TL.off rfl rfl rfl rfl (beq_eq_false_iff_ne.2 c32) rfl rfl ?_
     refine TL.off rfl rfl rfl rfl (beq_eq_false_iff_ne.2 c32) rfl rfl ?_
     refine TL.op1 (OpR.pickF rfl (beq_eq_false_iff_ne.2 c32) rfl) rfl ?_
     refine TL.nil ?_
     obtain rfl := Option.some.inj ht29
     exact ⟨_, Gst.only [0, 1, 4, 5, 6, 78] rfl, rfl⟩
   refine TL.on rfl rfl rfl rfl (beq_iff_eq.2 c32) ?_
   refine aA rfl rfl ?_
   refine TL.on rfl rfl rfl rfl (beq_iff_eq.2 c32) ?_
   refine aA rfl rfl ?_
   refine TL.on rfl rfl rfl rfl (beq_iff_eq.2 c32) ?_
   refine aA rfl rfl ?_
   refine TL.on rfl rfl rfl rfl (beq_iff_eq.2 c32) ?_
   obtain ⟨x33, hx33, ht29⟩ := bnd_some ht29
   refine TL.op1 (OpR.indexS hx33 rfl rfl rfl rfl) rfl ?_
   refine TL.on rfl rfl rfl rfl (beq_iff_eq.2 c32) ?_
   refine aA rfl rfl ?_
   refine TL.op1 (OpR.pickT rfl (beq_iff_eq.2 c32) rfl) rfl ?_
   refine TL.nil ?_
   obtain rfl := Option.some.inj ht29
   exact ⟨_, Gst.only [0, 1, 4, 5, 6, 78] rfl, rfl⟩
 rintro _ rfl
 show T X _ _ _
 rcases ite_some h0 with ⟨c34, h0⟩ | ⟨c34, h0⟩
 · refine T.condT rfl (c34) ?_
   refine aS ?_
   refine aA rfl rfl ?_
   refine TL.op0 (OpR.store 1 rfl rfl rfl rfl rfl rfl rfl rfl) ?_
   refine TL.nil ?_
   show T X _ _ _
   refine aS ?_
   refine TL.op1 (OpR.loadPtr 1 rfl rfl rfl rfl) rfl ?_
   iterate 2 refine aA rfl rfl ?_
   refine TL.op0 (OpR.store 0 rfl rfl rfl rfl rfl rfl rfl rfl) ?_
   refine aA rfl rfl ?_
   refine TL.nil ?_
   show T X _ _ _
   refine T.ret ?_
   obtain rfl := Option.some.inj h0
   exact PostG.retP (ks := []) (Gst.trans (Gst.only [4, 5] rfl) (Gst.trans (Gst.freezeRow 2 rfl rfl (ReS.cons Re.refl (ReS.cons Re.refl ReS.nil)) (ReO.var (ReL.cons (Re.base .all) (ReL.cons Re.refl ReL.nil)) (ReO.var (ReL.cons (Re.base .all) (ReL.cons Re.refl ReL.nil)) (ReO.same ReO.nil)))) (Gst.pick [0] rfl rfl))) undef (ResL.cons (ResV.var 0 rfl rfl rfl rfl) (ResL.cons (ResV.tmp rfl) ResL.nil)) rfl rfl rfl rfl
 refine T.condF rfl (eq_false_of_ne_true c34) ?_
 refine T.skip ?_
 show T X _ _ _
 refine T.seq ?_
 refine aS ?_
 iterate 2 refine aA rfl rfl ?_
 refine TL.op1 (OpR.cast (OpR.pure rfl) (intE (lenS _))) rfl ?_
 refine aA rfl rfl ?_
 refine TL.nil ?_
 show T X _ _ _
 rcases ite_some h0 with ⟨c35, h0⟩ | ⟨c35, h0⟩
 rotate_left
 · refine T.condF rfl (decide_eq_false c35) ?_
   refine T.skip ?_
   show T X _ _ _
   refine aS ?_
   refine TL.op1 (OpR.loadPtr 1 rfl rfl rfl rfl) rfl ?_
   refine aA rfl rfl ?_
   refine TL.op0 (OpR.store 0 rfl rfl rfl rfl rfl rfl rfl rfl) ?_
   refine aA rfl rfl ?_
   refine TL.nil ?_
   show T X _ _ _
   refine T.ret ?_
   obtain rfl := Option.some.inj h0
   exact PostG.retP (ks := []) (Gst.trans (Gst.only [4, 5] rfl) (Gst.trans (Gst.freezeRow 2 rfl rfl (ReS.cons Re.refl (ReS.cons Re.refl ReS.nil)) (ReO.var (ReL.cons (Re.base .all) (ReL.cons Re.refl ReL.nil)) (ReO.var (ReL.cons (Re.base .all) (ReL.cons Re.refl ReL.nil)) (ReO.same ReO.nil)))) (Gst.pick [0] rfl rfl))) undef (ResL.cons (ResV.var 0 rfl rfl rfl rfl) (ResL.cons (ResV.tmp rfl) ResL.nil)) rfl rfl rfl rfl
 refine T.condT rfl (decide_eq_true c35) ?_
 refine aS ?_
 refine aA rfl rfl ?_
 refine TL.op0 (OpR.store 1 rfl rfl rfl rfl rfl rfl rfl rfl) ?_
 refine TL.nil ?_
 show T X _ _ _
 refine aS ?_
 refine TL.op1 (OpR.loadPtr 1 rfl rfl rfl rfl) rfl ?_
 iterate 2 refine aA rfl rfl ?_
 refine TL.op0 (OpR.store 0 rfl rfl rfl rfl rfl rfl rfl rfl) ?_
 refine aA rfl rfl ?_
 refine TL.nil ?_
 show T X _ _ _
 refine T.ret ?_
 obtain rfl := Option.some.inj h0
 exact PostG.retP (ks := []) (Gst.trans (Gst.only [4, 5] rfl) (Gst.trans (Gst.freezeRow 2 rfl rfl (ReS.cons Re.refl (ReS.cons Re.refl ReS.nil)) (ReO.var (ReL.cons (Re.base .all) (ReL.cons Re.refl ReL.nil)) (ReO.var (ReL.cons (Re.base .all) (ReL.cons Re.refl ReL.nil)) (ReO.same ReO.nil)))) (Gst.pick [0] rfl rfl))) undef (ResL.cons (ResV.var 0 rfl rfl rfl rfl) (ResL.cons (ResV.tmp rfl) ResL.nil)) rfl rfl rfl rfl
noncomputable def ref05_All.l1 (a0 : List UInt8) (s4 : Int × (List ref05_Row)) : Option (Lp (Int × (List ref05_Row)) (List ref05_Row)) :=
  if s4.1 < (a0.length : Int) then
    bnd (ref05_One a0 s4.1) fun x13 =>
    bnd (app 32 s4.2 [x13.1]) fun x15 =>
    some (Lp.next (x13.2, x15))
  else
    some (Lp.done s4.2)
noncomputable def ref05_All (a0 : List UInt8) : Option (List ref05_Row) :=
  bnd (loop (ref05_All.l1 a0) (0, []) : Option (List ref05_Row)) fun t1 =>
  some t1
set_option maxHeartbeats 4000000 in
theorem ref05_All_c {a0 : List UInt8} {res : (List ref05_Row)} (h0 : ref05_All a0 = some res) : CallF X 28 [.val (.string (bs a0))] [] (fun x => .sl 2 (List.map e_ref05_Row res)) (fun x => []) := by
 unfold ref05_All at h0
 refine CallF.mkG (X := X) rfl Try.func28 rfl rfl Try.ntmps28 rfl rfl ?_
 refine aS ?_
 refine aA rfl rfl ?_
 refine TL.nil ?_
 show T X _ _ _
 refine aS ?_
 refine aA rfl rfl ?_
 refine TL.nil ?_
 show T X _ _ _
 refine T.seq ?_
 refine aS ?_
 refine aA rfl rfl ?_
 refine TL.nil ?_
 show T X _ _ _
 obtain ⟨t1, ht1, h0⟩ := bnd_some h0
 refine T.cutC (fun S' => ∃ y2 : Value, S' = ⟨[(3, .val y2), (2, .val (.slice none 0 0))], [.row y2 (List.map e_ref05_Row t1) 2 94], 23⟩) (fun _ h => h) ?_ ?_
 rotate_left
 · rintro _ ⟨y2, rfl⟩
   show T X _ _ _
   refine aS ?_
   iterate 2 refine aA rfl rfl ?_
   refine TL.nil ?_
   show T X _ _ _
   refine T.ret ?_
   obtain rfl := Option.some.inj h0
   exact PostG.retP (ks := []) (Gst.trans (Gst.only [2] rfl) (Gst.trans (Gst.freezeRow 0 rfl rfl (ReS.cons (Re.base .all) ReS.nil) (ReO.same ReO.nil)) (Gst.pick [] rfl rfl))) undef (ResL.cons (ResV.tmp rfl) ResL.nil) rfl rfl rfl rfl
 refine T.block ?_
 obtain ⟨n5, n10⟩ := loop_some ht1
 refine T.loop (fun n S' => ∃ S'', Gst S' S'' ∧ ∃ y3 : Value, ∃ s4 : Int × (List ref05_Row), S'' = ⟨[(4, .val (.int .i64 s4.1)), (3, .val y3), (2, .val (.slice none 0 0)), (0, .val (.string (bs a0)))], [.row y3 (List.map e_ref05_Row s4.2) 2 94], 23⟩ ∧ iter (ref05_All.l1 a0) n s4 = some t1) n5 ?_ ?_
 · exact ⟨_, Gst.trans (Gst.only [0, 2, 3, 4] rfl) (Gst.nilRow (ow := []) 2 94 rfl), (.slice none 0 0), (0, []), rfl, n10⟩
 rintro n5 _ ⟨_, g, y3, s4, rfl, i9⟩
 refine T.ghost g ?_
 obtain ⟨m6, q7, rfl, q8, i9⟩ := iter_succ i9
 unfold ref05_All.l1 at q8
 refine T.seq ?_
 refine aS ?_
 iterate 2 refine aA rfl rfl ?_
 refine TL.op1 (OpR.cast (OpR.pure rfl) (intE (lenS _))) rfl ?_
 refine aA rfl rfl ?_
 refine TL.nil ?_
 show T X _ _ _
 rcases ite_some q8 with ⟨c12, q8⟩ | ⟨c12, q8⟩
 rotate_left
 · refine T.condF rfl (decide_eq_false c12) ?_
   refine T.exit ?_
   obtain rfl := Option.some.inj q8
   obtain rfl : _ = _ := i9
   exact ⟨_, Gst.only [2, 3] rfl, y3, rfl⟩
 refine T.condT rfl (decide_eq_true c12) ?_
 refine T.skip ?_
 show T X _ _ _
 refine T.block ?_
 refine aS ?_
 iterate 2 refine aA rfl rfl ?_
 obtain ⟨x13, hx13, q8⟩ := bnd_some q8
 refine TL.op1 (OpR.call0 fn58 (ref05_One_c hx13) rfl) rfl ?_
 iterate 3 refine aA rfl rfl ?_
 refine TL.op (OpR.alloc rfl rfl (fun _ => rfl)) rfl (fun p14 => ?_)
 refine TL.op0 (OpR.store 1 rfl rfl rfl rfl rfl rfl rfl rfl) ?_
 refine aA rfl rfl ?_
 refine TL.nil ?_
 show T X _ _ _
 refine aS ?_
 refine aA rfl rfl ?_
 refine TL.op1 (OpR.loadPtr 1 rfl rfl rfl rfl) rfl ?_
 refine TL.op1 (OpR.lit rfl rfl rfl rfl rfl rfl rfl) rfl ?_
 obtain ⟨x15, hx15, q8⟩ := bnd_some q8
 refine TL.op (OpR.appendM (m := [x13.1]) e_ref05_Row 0 hx15 rfl rfl rfl rfl rfl rfl rfl rfl rfl (fun _ => rfl)) rfl (fun v16 => ?_)
 refine aA rfl rfl ?_
 refine TL.nil ?_
 show T X _ _ _
 refine T.region ?_
 iterate 2 refine aA rfl rfl ?_
 refine TL.nil ?_
 obtain rfl := Option.some.inj q8
 exact ⟨m6, Nat.lt_succ_self _, _, Gst.trans (Gst.only [0, 2, 3, 4] rfl) (Gst.pick [0] rfl rfl), v16, (x13.2, x15), rfl, i9⟩
noncomputable def ref05_Text.l1 (a0 : List UInt8) (a1 : List Int) (s2 : (List UInt8) × Int) : Option (Lp ((List UInt8) × Int) (List UInt8)) :=
  if s2.2 < (a1.length : Int) then
    bnd (idx a1 s2.2) fun x11 =>
    bnd (cut a0 x11 (w64 (x11 + 1))) fun x12 =>
    bnd (catS s2.1 x12) fun x13 =>
    some (Lp.next (x13, w64 (s2.2 + 1)))
  else
    some (Lp.done s2.1)
noncomputable def ref05_Text (a0 : List UInt8) (a1 : List Int) : Option (List UInt8) :=
  bnd (loop (ref05_Text.l1 a0 a1) ([], 0) : Option (List UInt8)) fun t1 =>
  some t1
set_option maxHeartbeats 4000000 in
theorem ref05_Text_c {a0 : List UInt8} {a1 : List Int} {res : (List UInt8)} (h0 : ref05_Text a0 a1 = some res) : CallF X 59 [.val (.string (bs a0)), .sl 1 (List.map (eI .i64) a1)] [] (fun x => .val (.string (bs res))) (fun x => []) := by
 unfold ref05_Text at h0
 refine CallF.mkG (X := X) rfl Try.func59 rfl rfl Try.ntmps59 rfl rfl ?_
 refine aS ?_
 refine aA rfl rfl ?_
 refine TL.nil ?_
 show T X _ _ _
 refine aS ?_
 refine aA rfl rfl ?_
 refine TL.nil ?_
 show T X _ _ _
 refine T.seq ?_
 refine aS ?_
 refine aA rfl rfl ?_
 refine TL.op1 (OpR.cast (OpR.pure rfl) (intE (lenM _ _))) rfl ?_
 refine aA rfl rfl ?_
 refine TL.nil ?_
 show T X _ _ _
 obtain ⟨t1, ht1, h0⟩ := bnd_some h0
 refine T.cutC (fun S' => S' = ⟨[(5, .val (.string (bs t1))), (4, .val (.string (bs [])))], [], 23⟩) (fun _ h => h) ?_ ?_
 rotate_left
 · rintro _ rfl
   show T X _ _ _
   refine aS ?_
   iterate 2 refine aA rfl rfl ?_
   refine TL.nil ?_
   show T X _ _ _
   refine T.ret ?_
   obtain rfl := Option.some.inj h0
   exact PostG.retP (ks := []) (Gst.only [4] rfl) undef (ResL.cons (ResV.tmp rfl) ResL.nil) rfl rfl rfl rfl
 refine T.block ?_
 obtain ⟨n3, n8⟩ := loop_some ht1
 refine T.loop (fun n S' => ∃ S'', Gst S' S'' ∧ ∃ s2 : (List UInt8) × Int, S'' = ⟨[(10, .val (.int .i64 s2.2)), (9, .val (.int .i64 (a1.length : Int))), (8, .sl 1 (List.map (eI .i64) a1)), (5, .val (.string (bs s2.1))), (4, .val (.string (bs []))), (0, .val (.string (bs a0)))], [], 23⟩ ∧ iter (ref05_Text.l1 a0 a1) n s2 = some t1) n3 ?_ ?_
 · exact ⟨_, Gst.only [0, 4, 5, 8, 9, 10] rfl, ([], 0), rfl, n8⟩
 rintro n3 _ ⟨_, g, s2, rfl, i7⟩
 refine T.ghost g ?_
 obtain ⟨m4, q5, rfl, q6, i7⟩ := iter_succ i7
 unfold ref05_Text.l1 at q6
 refine aS ?_
 refine aA rfl rfl ?_
 refine TL.nil ?_
 show T X _ _ _
 refine T.seq ?_
 rcases ite_some q6 with ⟨c10, q6⟩ | ⟨c10, q6⟩
 rotate_left
 · refine T.condF rfl (decide_eq_false c10) ?_
   refine T.exit ?_
   obtain rfl := Option.some.inj q6
   obtain rfl : _ = _ := i7
   exact ⟨_, Gst.only [4, 5] rfl, rfl⟩
 refine T.condT rfl (decide_eq_true c10) ?_
 refine T.skip ?_
 show T X _ _ _
 refine T.seq ?_
 refine T.block ?_
 refine aS ?_
 obtain ⟨x11, hx11, q6⟩ := bnd_some q6
 refine TL.op1 (OpR.indexM (eI .i64) hx11 rfl rfl rfl rfl rfl) rfl ?_
 iterate 2 refine aA rfl rfl ?_
 refine TL.nil ?_
 show T X _ _ _
 refine T.region ?_
 iterate 5 refine aA rfl rfl ?_
 obtain ⟨x12, hx12, q6⟩ := bnd_some q6
 refine TL.op1 (OpR.sliceS hx12 rfl rfl rfl (BdM.some rfl) (BdM.some rfl)) rfl ?_
 obtain ⟨x13, hx13, q6⟩ := bnd_some q6
 refine TL.op1 (OpR.concatM hx13 rfl rfl) rfl ?_
 refine aA rfl rfl ?_
 refine TL.nil ?_
 show T X _ _ _
 refine T.region ?_
 iterate 2 refine aA rfl rfl ?_
 refine TL.nil ?_
 obtain rfl := Option.some.inj q6
 exact ⟨m4, Nat.lt_succ_self _, _, Gst.only [0, 4, 5, 8, 9, 10] rfl, (x13, w64 (s2.2 + 1)), rfl, i7⟩
noncomputable def ref08_Load.l1 (a0 : List UInt8) (a1 : ref05_Row) (s8 : Int × (List ref07_Cell)) : Option (Lp (Int × (List ref07_Cell)) (Ex (List ref07_Cell) (ref08_Row × Int))) :=
  if s8.1 < (a1.fFields.length : Int) then
    bnd (idx a1.fFields s8.1) fun x17 =>
    if (x17.fBytes.length : Int) > 400 then
      some (Lp.done (Ex.ret ((⟨[], 0, false⟩ : ref08_Row), 7)))
    else
      bnd (ref05_Text a0 x17.fBytes) fun x21 =>
      bnd (cut a0 x17.fRaw.fAt (w64 (x17.fRaw.fAt + x17.fRaw.fN))) fun x22 =>
      bnd (app 40 s8.2 [(⟨x21, x22, true⟩ : ref07_Cell)]) fun x23 =>
      some (Lp.next (w64 (s8.1 + 1), x23))
  else
    some (Lp.done (Ex.brk s8.2))
noncomputable def ref08_Load (a0 : List UInt8) (a1 : ref05_Row) : Option (ref08_Row × Int) :=
  if (a1.fFields.length : Int) > 40 then
    some ((⟨[], 0, false⟩ : ref08_Row), 6)
  else
    bnd (loop (ref08_Load.l1 a0 a1) (0, []) : Option (Ex (List ref07_Cell) (ref08_Row × Int))) fun t4 => match t4 with
      | .brk u5 =>
        some ((⟨u5, a1.fEnd, false⟩ : ref08_Row), 0)
      | .ret u5 => some u5
set_option maxHeartbeats 4000000 in
theorem ref08_Load_c {a0 : List UInt8} {a1 : ref05_Row} {res : ref08_Row × Int} (h0 : ref08_Load a0 a1 = some res) : CallF X 29 [.val (.string (bs a0)), .agg [.sl 4 (List.map e_ref05_Field a1.fFields), .val (.int .i64 a1.fEnd)]] [] (fun x => .tup [.agg [.sl 3 (List.map e_ref07_Cell res.1.fCells), .val (.int .i64 res.1.fEnd), .val (.bool res.1.fHidden)], .val (.int .i64 res.2)]) (fun x => []) := by
 unfold ref08_Load at h0
 refine CallF.mkG (X := X) rfl Try.func29 rfl rfl Try.ntmps29 rfl rfl ?_
 refine aS ?_
 refine TL.op1 (OpR.boxImm rfl rfl) rfl ?_
 refine TL.op (OpR.alloc rfl rfl (fun _ => rfl)) rfl (fun p1 => ?_)
 refine aA rfl rfl ?_
 refine TL.nil ?_
 show T X _ _ _
 refine aS ?_
 iterate 2 refine aA rfl rfl ?_
 refine TL.op1 (OpR.build rfl rfl rfl rfl rfl) rfl ?_
 refine TL.op (OpR.alloc rfl rfl (fun _ => rfl)) rfl (fun p2 => ?_)
 refine TL.op0 (OpR.store 1 rfl rfl rfl rfl rfl rfl rfl rfl) ?_
 refine TL.nil ?_
 show T X _ _ _
 refine T.seq ?_
 refine aS ?_
 iterate 2 refine aA rfl rfl ?_
 refine TL.op1 (OpR.cast (OpR.pure rfl) (intE (lenM _ _))) rfl ?_
 refine aA rfl rfl ?_
 refine TL.nil ?_
 show T X _ _ _
 rcases ite_some h0 with ⟨c3, h0⟩ | ⟨c3, h0⟩
 · refine T.condT rfl (decide_eq_true c3) ?_
   refine aS ?_
   refine TL.op1 (OpR.build rfl rfl rfl rfl rfl) rfl ?_
   refine TL.op0 (OpR.store 0 rfl rfl rfl rfl rfl rfl rfl rfl) ?_
   refine aA rfl rfl ?_
   refine TL.nil ?_
   show T X _ _ _
   refine T.ret ?_
   obtain rfl := Option.some.inj h0
   exact PostG.retP (ks := []) (Gst.trans (Gst.only [4, 5] rfl) (Gst.trans (Gst.denil (ReS.cons Re.refl (ReS.cons Re.refl ReS.nil)) (ReO.var (ReL.cons (Re.base .nil) (ReL.cons Re.refl (ReL.cons Re.refl ReL.nil))) (ReO.same ReO.nil))) (Gst.pick [0] rfl rfl))) undef (ResL.cons (ResV.var 0 rfl rfl rfl rfl) (ResL.cons (ResV.tmp rfl) ResL.nil)) rfl rfl rfl rfl
 refine T.condF rfl (decide_eq_false c3) ?_
 refine T.skip ?_
 show T X _ _ _
 refine T.seq ?_
 refine aS ?_
 iterate 2 refine aA rfl rfl ?_
 refine TL.op1 (OpR.cast (OpR.pure rfl) (intE (lenM _ _))) rfl ?_
 refine aA rfl rfl ?_
 refine TL.nil ?_
 show T X _ _ _
 obtain ⟨t4, ht4, h0⟩ := bnd_some h0
 refine T.cutC (fun S' => ∃ u5, t4 = Ex.brk u5 ∧ ∃ y6 : Value, S' = ⟨[(6, .val (.pointer (some ⟨(blk p2), 0, none⟩))), (5, .val (.int .i64 0)), (4, .val (.pointer (some ⟨(blk p1), 0, none⟩)))], [.var (blk p1) [.val (.slice none 0 0), .val (.int .i64 0), .val (.bool false)] 74, .var (blk p2) [.val y6, .val (.int .i64 a1.fEnd), .val (.bool false)] 74, .row y6 (List.map e_ref07_Cell u5) 3 40], 53⟩) (fun _ h => h) ?_ ?_
 rotate_left
 · rintro _ ⟨u5, rfl, y6, rfl⟩
   show T X _ _ _
   refine aS ?_
   refine TL.op1 (OpR.loadPtr 1 rfl rfl rfl rfl) rfl ?_
   refine TL.op0 (OpR.store 0 rfl rfl rfl rfl rfl rfl rfl rfl) ?_
   refine aA rfl rfl ?_
   refine TL.nil ?_
   show T X _ _ _
   refine T.ret ?_
   obtain rfl := Option.some.inj h0
   exact PostG.retP (ks := []) (Gst.trans (Gst.only [4, 5] rfl) (Gst.trans (Gst.freezeRow 2 rfl rfl (ReS.cons Re.refl (ReS.cons Re.refl ReS.nil)) (ReO.var (ReL.cons (Re.base .all) (ReL.cons Re.refl (ReL.cons Re.refl ReL.nil))) (ReO.var (ReL.cons (Re.base .all) (ReL.cons Re.refl (ReL.cons Re.refl ReL.nil))) (ReO.same ReO.nil)))) (Gst.pick [0] rfl rfl))) undef (ResL.cons (ResV.var 0 rfl rfl rfl rfl) (ResL.cons (ResV.tmp rfl) ResL.nil)) rfl rfl rfl rfl
 refine T.block ?_
 obtain ⟨n9, n14⟩ := loop_some ht4
 refine T.loop (fun n S' => ∃ S'', Gst S' S'' ∧ ∃ y7 : Value, ∃ s8 : Int × (List ref07_Cell), S'' = ⟨[(20, .val (.int .i64 s8.1)), (19, .val (.int .i64 (a1.fFields.length : Int))), (18, .sl 4 (List.map e_ref05_Field a1.fFields)), (6, .val (.pointer (some ⟨(blk p2), 0, none⟩))), (5, .val (.int .i64 0)), (4, .val (.pointer (some ⟨(blk p1), 0, none⟩))), (0, .val (.string (bs a0)))], [.var (blk p1) [.val (.slice none 0 0), .val (.int .i64 0), .val (.bool false)] 74, .var (blk p2) [.val y7, .val (.int .i64 a1.fEnd), .val (.bool false)] 74, .row y7 (List.map e_ref07_Cell s8.2) 3 40], 53⟩ ∧ iter (ref08_Load.l1 a0 a1) n s8 = some t4) n9 ?_ ?_
 · exact ⟨_, Gst.trans (Gst.only [0, 4, 5, 6, 18, 19, 20] rfl) (Gst.nilRow (ow := [.var (blk p1) [.val (.slice none 0 0), .val (.int .i64 0), .val (.bool false)] 74, .var (blk p2) [.val (.slice none 0 0), .val (.int .i64 a1.fEnd), .val (.bool false)] 74]) 3 40 rfl), (.slice none 0 0), (0, []), rfl, n14⟩
 rintro n9 _ ⟨_, g, y7, s8, rfl, i13⟩
 refine T.ghost g ?_
 obtain ⟨m10, q11, rfl, q12, i13⟩ := iter_succ i13
 unfold ref08_Load.l1 at q12
 refine aS ?_
 refine aA rfl rfl ?_
 refine TL.nil ?_
 show T X _ _ _
 refine T.seq ?_
 rcases ite_some q12 with ⟨c16, q12⟩ | ⟨c16, q12⟩
 rotate_left
 · refine T.condF rfl (decide_eq_false c16) ?_
   refine T.exit ?_
   obtain rfl := Option.some.inj q12
   obtain rfl : _ = _ := i13
   exact ⟨_, Gst.only [4, 5, 6] rfl, _, rfl, y7, rfl⟩
 refine T.condT rfl (decide_eq_true c16) ?_
 refine T.skip ?_
 show T X _ _ _
 refine T.seq ?_
 refine T.block ?_
 refine aS ?_
 obtain ⟨x17, hx17, q12⟩ := bnd_some q12
 refine TL.op1 (OpR.indexM e_ref05_Field hx17 rfl rfl rfl rfl rfl) rfl ?_
 refine aA rfl rfl ?_
 refine TL.op (OpR.alloc rfl rfl (fun _ => rfl)) rfl (fun p18 => ?_)
 refine TL.op0 (OpR.store 3 rfl rfl rfl rfl rfl rfl rfl rfl) ?_
 refine TL.nil ?_
 show T X _ _ _
 refine T.seq ?_
 refine aS ?_
 refine aA rfl rfl ?_
 refine TL.op1 (OpR.loadPtr 3 rfl rfl rfl rfl) rfl ?_
 refine TL.op1 (OpR.cast (OpR.pure rfl) (intE (lenM _ _))) rfl ?_
 refine aA rfl rfl ?_
 refine TL.nil ?_
 show T X _ _ _
 rcases ite_some q12 with ⟨c19, q12⟩ | ⟨c19, q12⟩
 · refine T.condT rfl (decide_eq_true c19) ?_
   refine aS ?_
   refine TL.op1 (OpR.build rfl rfl rfl rfl rfl) rfl ?_
   refine TL.op0 (OpR.store 0 rfl rfl rfl rfl rfl rfl rfl rfl) ?_
   refine aA rfl rfl ?_
   refine TL.nil ?_
   show T X _ _ _
   refine T.ret ?_
   obtain rfl := Option.some.inj q12
   obtain rfl : _ = _ := i13
   obtain rfl := Option.some.inj h0
   exact PostG.retP (ks := []) (Gst.trans (Gst.only [4, 5] rfl) (Gst.trans (Gst.denil (ReS.cons Re.refl (ReS.cons Re.refl ReS.nil)) (ReO.var (ReL.cons (Re.base .nil) (ReL.cons Re.refl (ReL.cons Re.refl ReL.nil))) (ReO.same (ReO.same (ReO.same ReO.nil))))) (Gst.pick [0] rfl rfl))) undef (ResL.cons (ResV.var 0 rfl rfl rfl rfl) (ResL.cons (ResV.tmp rfl) ResL.nil)) rfl rfl rfl rfl
 refine T.condF rfl (decide_eq_false c19) ?_
 refine T.skip ?_
 show T X _ _ _
 obtain ⟨x21, hx21, q12⟩ := bnd_some q12
 obtain ⟨x22, hx22, q12⟩ := bnd_some q12
 obtain ⟨x23, hx23, q12⟩ := bnd_some q12
 refine T.drawS drawsX (fun env20 => [.val (.pointer (some ⟨(blk p2), 0, none⟩)), .val y7, .val (.string (bs a0)), .val (.pointer (some ⟨(blk p18), 3, none⟩)), .sl 1 (List.map (eI .i64) x17.fBytes), .val (.string (bs x21)), .val (.string (bs a0)), .val (.pointer (some ⟨(blk p18), 0, none⟩)), .val (.pointer (some ⟨(blk p18), 0, none⟩)), .val (.int .i64 x17.fRaw.fAt), .val (.pointer (some ⟨(blk p18), 0, none⟩)), .val (.pointer (some ⟨(blk p18), 0, none⟩)), .val (.int .i64 x17.fRaw.fAt), .val (.pointer (some ⟨(blk p18), 0, none⟩)), .val (.pointer (some ⟨(blk p18), 1, none⟩)), .val (.int .i64 x17.fRaw.fN), .val (.int .i64 (w64 (x17.fRaw.fAt + x17.fRaw.fN))), .val (.string (bs x22)), .agg [.val (.string (bs x21)), .val (.string (bs x22)), .val (.bool true)], .sl 3 (List.map e_ref07_Cell [(⟨x21, x22, true⟩ : ref07_Cell)]), .val (env20 20), .val (.pointer (some ⟨(blk p2), 0, none⟩)), .dead]) (fun D env20 => [.var (blk p1) [.val (.slice none 0 0), .val (.int .i64 0), .val (.bool false)] 74, (bif D 22 then .var (blk p2) [.val (env20 20), .val (.int .i64 a1.fEnd), .val (.bool false)] 74 else .var (blk p2) [.val y7, .val (.int .i64 a1.fEnd), .val (.bool false)] 74), (bif D 20 then .row (env20 20) (List.map e_ref07_Cell x23) 3 40 else .row y7 (List.map e_ref07_Cell s8.2) 3 40), .var (blk p18) [.val (.int .i64 x17.fRaw.fAt), .val (.int .i64 x17.fRaw.fN), .val (.int .i64 x17.fKind), .sl 1 (List.map (eI .i64) x17.fBytes)] 138]) [0, 1, 0, 0, 8, 28, 0, 0, 128, 384, 0, 1024, 3072, 0, 8192, 24576, 64512, 131008, 262140, 524284, 1048575, 2097151, 4194303] [0, 4, 5, 6, 18, 19, 20] (fun env20 => [.var (blk p1) [.val (.slice none 0 0), .val (.int .i64 0), .val (.bool false)] 74, .var (blk p2) [.val (env20 20), .val (.int .i64 a1.fEnd), .val (.bool false)] 74, .row (env20 20) (List.map e_ref07_Cell x23) 3 40, .var (blk p18) [.val (.int .i64 x17.fRaw.fAt), .val (.int .i64 x17.fRaw.fN), .val (.int .i64 x17.fKind), .sl 1 (List.map (eI .i64) x17.fBytes)] 138]) (by decide +kernel) (by decide +kernel) (fun _ => rfl) (fun _ => rfl) ?_ (fun _ => rfl) (fun _ => rfl) ?_
 rotate_left
 · intro env20
   show T X _ _ _
   refine T.region ?_
   iterate 2 refine aA rfl rfl ?_
   refine TL.nil ?_
   obtain rfl := Option.some.inj q12
   exact ⟨m10, Nat.lt_succ_self _, _, Gst.trans (Gst.only [0, 4, 5, 6, 18, 19, 20] rfl) (Gst.pick [0, 1, 2] rfl rfl), (env20 20), (w64 (s8.1 + 1), x23), rfl, i13⟩
 refine aC ?_
 refine OpsS.cons' true ?_ (fun _ _ _ _ _ _ _ => rfl) ?_
 · intro D env20 hA
   have e20 : D 20 = false := hA.no 20 _ rfl rfl
   have e22 : D 22 = false := hA.no 22 _ rfl rfl
   exact OpS.yes (o0 := [.var (blk p1) [.val (.slice none 0 0), .val (.int .i64 0), .val (.bool false)] 74, .var (blk p2) [.val y7, .val (.int .i64 a1.fEnd), .val (.bool false)] 74, .row y7 (List.map e_ref07_Cell s8.2) 3 40, .var (blk p18) [.val (.int .i64 x17.fRaw.fAt), .val (.int .i64 x17.fRaw.fN), .val (.int .i64 x17.fKind), .sl 1 (List.map (eI .i64) x17.fBytes)] 138]) (o1 := fun x => [.var (blk p1) [.val (.slice none 0 0), .val (.int .i64 0), .val (.bool false)] 74, .var (blk p2) [.val y7, .val (.int .i64 a1.fEnd), .val (.bool false)] 74, .row y7 (List.map e_ref07_Cell s8.2) 3 40, .var (blk p18) [.val (.int .i64 x17.fRaw.fAt), .val (.int .i64 x17.fRaw.fN), .val (.int .i64 x17.fKind), .sl 1 (List.map (eI .i64) x17.fBytes)] 138]) (d := fun x => .val y7) (Want.plain rfl) (by first | rfl | simp only [e20, e22, cond_true, cond_false, List.cons_append, List.nil_append, List.append_nil]) (fun x => by first | rfl | simp only [ins_self, ins_ne D (show 1 ≠ 20 by decide), ins_ne D (show 1 ≠ 22 by decide), upd_self, upd_ne env20 x (show 1 ≠ 20 by decide), e20, e22, cond_true, cond_false, List.cons_append, List.nil_append, List.append_nil]) (fun x => rfl) (OpR.loadPtr 1 rfl rfl rfl rfl)
 iterate 2 refine aC ?_
 refine oS (d := .sl 1 (List.map (eI .i64) x17.fBytes)) (fun _ => Want.plain rfl) (fun _ => rfl) (fun _ _ _ => rfl) (fun _ _ => OpR.loadPtr 3 rfl rfl rfl rfl) (fun _ _ _ _ _ _ _ => rfl) ?_
 refine oS (d := .val (.string (bs x21))) (fun _ => Want.plain rfl) (fun _ => rfl) (fun _ _ _ => rfl) (fun _ _ => OpR.call0 fn59 (ref05_Text_c hx21) rfl) (fun _ _ _ _ _ _ _ => rfl) ?_
 iterate 3 refine aC ?_
 refine oS (d := .val (.int .i64 x17.fRaw.fAt)) (fun _ => Want.plain rfl) (fun _ => rfl) (fun _ _ _ => rfl) (fun _ _ => OpR.loadPtr 3 rfl rfl rfl rfl) (fun _ _ _ _ _ _ _ => rfl) ?_
 iterate 2 refine aC ?_
 refine oS (d := .val (.int .i64 x17.fRaw.fAt)) (fun _ => Want.plain rfl) (fun _ => rfl) (fun _ _ _ => rfl) (fun _ _ => OpR.loadPtr 3 rfl rfl rfl rfl) (fun _ _ _ _ _ _ _ => rfl) ?_
 iterate 2 refine aC ?_
 refine oS (d := .val (.int .i64 x17.fRaw.fN)) (fun _ => Want.plain rfl) (fun _ => rfl) (fun _ _ _ => rfl) (fun _ _ => OpR.loadPtr 3 rfl rfl rfl rfl) (fun _ _ _ _ _ _ _ => rfl) ?_
 refine aC ?_
 refine oS (d := .val (.string (bs x22))) (fun _ => Want.plain rfl) (fun _ => rfl) (fun _ _ _ => rfl) (fun _ _ => OpR.sliceS hx22 rfl rfl rfl (BdM.some rfl) (BdM.some rfl)) (fun _ _ _ _ _ _ _ => rfl) ?_
 refine oS (d := .agg [.val (.string (bs x21)), .val (.string (bs x22)), .val (.bool true)]) (fun _ => Want.plain rfl) (fun _ => rfl) (fun _ _ _ => rfl) (fun _ _ => OpR.build rfl rfl rfl rfl rfl) (fun _ _ _ _ _ _ _ => rfl) ?_
 refine oS (d := .sl 3 (List.map e_ref07_Cell [(⟨x21, x22, true⟩ : ref07_Cell)])) (fun _ => Want.plain rfl) (fun _ => rfl) (fun _ _ _ => rfl) (fun _ _ => OpR.lit rfl rfl rfl rfl rfl rfl rfl) (fun _ _ _ _ _ _ _ => rfl) ?_
 refine OpsS.cons' true ?_ (fun D hA env20 x j hj hD => match j, hj, hD with | 0, _, _ => rfl | 1, _, _ => rfl | 2, _, _ => rfl | 3, _, _ => rfl | 4, _, _ => rfl | 5, _, _ => rfl | 6, _, _ => rfl | 7, _, _ => rfl | 8, _, _ => rfl | 9, _, _ => rfl | 10, _, _ => rfl | 11, _, _ => rfl | 12, _, _ => rfl | 13, _, _ => rfl | 14, _, _ => rfl | 15, _, _ => rfl | 16, _, _ => rfl | 17, _, _ => rfl | 18, _, _ => rfl | 19, _, _ => rfl | 20, hj, _ => absurd rfl hj | 21, _, _ => rfl | 22, _, _ => rfl | _ + 23, _, _ => rfl) ?_
 · intro D env20 hA
   have e22 : D 22 = false := hA.no 22 _ rfl rfl
   exact OpS.yes (o0 := [.var (blk p1) [.val (.slice none 0 0), .val (.int .i64 0), .val (.bool false)] 74, .var (blk p2) [.val y7, .val (.int .i64 a1.fEnd), .val (.bool false)] 74, .row y7 (List.map e_ref07_Cell s8.2) 3 40, .var (blk p18) [.val (.int .i64 x17.fRaw.fAt), .val (.int .i64 x17.fRaw.fN), .val (.int .i64 x17.fKind), .sl 1 (List.map (eI .i64) x17.fBytes)] 138]) (o1 := fun x => [.var (blk p1) [.val (.slice none 0 0), .val (.int .i64 0), .val (.bool false)] 74, .var (blk p2) [.val y7, .val (.int .i64 a1.fEnd), .val (.bool false)] 74, .row x (List.map e_ref07_Cell x23) 3 40, .var (blk p18) [.val (.int .i64 x17.fRaw.fAt), .val (.int .i64 x17.fRaw.fN), .val (.int .i64 x17.fKind), .sl 1 (List.map (eI .i64) x17.fBytes)] 138]) (d := fun x => .val x) (Want.plain rfl) (by first | rfl | simp only [e22, hA.me, cond_true, cond_false, List.cons_append, List.nil_append, List.append_nil]) (fun x => by first | rfl | simp only [ins_self, ins_ne D (show 20 ≠ 22 by decide), upd_self, e22, hA.me, cond_true, cond_false, List.cons_append, List.nil_append, List.append_nil]) (fun x => rfl) (OpR.appendM (m := [(⟨x21, x22, true⟩ : ref07_Cell)]) e_ref07_Cell 2 hx23 rfl rfl rfl rfl rfl rfl rfl rfl rfl (fun _ => rfl))
 refine aC ?_
 refine OpsS.cons' true ?_ (fun _ _ _ _ _ _ _ => rfl) ?_
 · intro D env20 hA
   have e20 : D 20 = true := hA.yes 20 _ rfl rfl
   exact OpS.yes (o0 := [.var (blk p1) [.val (.slice none 0 0), .val (.int .i64 0), .val (.bool false)] 74, .var (blk p2) [.val y7, .val (.int .i64 a1.fEnd), .val (.bool false)] 74, .row (env20 20) (List.map e_ref07_Cell x23) 3 40, .var (blk p18) [.val (.int .i64 x17.fRaw.fAt), .val (.int .i64 x17.fRaw.fN), .val (.int .i64 x17.fKind), .sl 1 (List.map (eI .i64) x17.fBytes)] 138]) (o1 := fun x => [.var (blk p1) [.val (.slice none 0 0), .val (.int .i64 0), .val (.bool false)] 74, .var (blk p2) [.val (env20 20), .val (.int .i64 a1.fEnd), .val (.bool false)] 74, .row (env20 20) (List.map e_ref07_Cell x23) 3 40, .var (blk p18) [.val (.int .i64 x17.fRaw.fAt), .val (.int .i64 x17.fRaw.fN), .val (.int .i64 x17.fKind), .sl 1 (List.map (eI .i64) x17.fBytes)] 138]) (d := fun x => .dead) (Want.plain rfl) (by first | rfl | simp only [e20, hA.me, cond_true, cond_false, List.cons_append, List.nil_append, List.append_nil]) (fun x => by first | rfl | simp only [ins_self, ins_ne D (show 22 ≠ 20 by decide), upd_self, upd_ne env20 x (show 22 ≠ 20 by decide), e20, hA.me, cond_true, cond_false, List.cons_append, List.nil_append, List.append_nil]) (fun x => rfl) (OpR.store 1 rfl rfl rfl rfl rfl rfl rfl rfl)
 exact trivial
noncomputable def ref11_Load.l1 (a0 : List UInt8) (x4 : (List ref05_Row)) (s10 : Int × Bool × (List ref08_Row)) : Option (Lp (Int × Bool × (List ref08_Row)) (Ex (Bool × (List ref08_Row)) (ref11_Grid × Int))) :=
  if s10.1 < (x4.length : Int) then
    bnd (idx x4 s10.1) fun x19 =>
    bnd (ref08_Load a0 x19) fun x21 =>
    if x21.2 = 0 then
      bnd (app 40 s10.2.2 [x21.1]) fun x24 =>
      some (Lp.next (w64 (s10.1 + 1), (!(x19.fEnd == 0)), x24))
    else
      some (Lp.done (Ex.ret ((⟨[], false, 2⟩ : ref11_Grid), x21.2)))
  else
    some (Lp.done (Ex.brk (s10.2.1, s10.2.2)))
noncomputable def ref11_Load.l2 (x4 : (List ref05_Row)) (s27 : Int × Int) : Option (Lp (Int × Int) Int) :=
  if s27.1 ≥ 0 then
    bnd (idx x4 s27.1) fun x36 =>
    bnd (if x36.fEnd = 0 then
      some s27.2
    else
      some x36.fEnd : Option Int) fun t37 =>
    some (Lp.next (w64 (s27.1 - 1), t37))
  else
    some (Lp.done s27.2)
noncomputable def ref11_Load (a0 : List UInt8) : Option (ref11_Grid × Int) :=
  if (a0.length : Int) > 4096 then
    some ((⟨[], false, 2⟩ : ref11_Grid), 8)
  else
    bnd (ref05_All a0) fun x4 =>
    if (x4.length : Int) > 400 then
      some ((⟨[], false, 2⟩ : ref11_Grid), 6)
    else
      bnd (loop (ref11_Load.l1 a0 x4) (0, false, []) : Option (Ex (Bool × (List ref08_Row)) (ref11_Grid × Int))) fun t6 => match t6 with
        | .brk u7 =>
          bnd (loop (ref11_Load.l2 x4) (w64 ((x4.length : Int) - 1), 2) : Option Int) fun t26 =>
          some ((⟨u7.2, u7.1, t26⟩ : ref11_Grid), 0)
        | .ret u7 => some u7
set_option maxHeartbeats 4000000 in
theorem ref11_Load_c {a0 : List UInt8} {res : ref11_Grid × Int} (h0 : ref11_Load a0 = some res) : CallF X 11 [.val (.string (bs a0))] [] (fun x => .tup [.agg [.sl 3 (List.map e_ref08_Row res.1.fRows), .val (.bool res.1.fTail), .val (.int .i64 res.1.fEnd)], .val (.int .i64 res.2)]) (fun x => []) := by
 unfold ref11_Load at h0
 refine CallF.mkG (X := X) rfl Try.func11 rfl rfl Try.ntmps11 rfl rfl ?_
 refine aS ?_
 refine TL.op (OpR.alloc rfl rfl (fun _ => rfl)) rfl (fun p1 => ?_)
 refine aA rfl rfl ?_
 refine TL.nil ?_
 show T X _ _ _
 refine aS ?_
 refine TL.op1 (OpR.build rfl rfl rfl rfl rfl) rfl ?_
 refine TL.op (OpR.alloc rfl rfl (fun _ => rfl)) rfl (fun p2 => ?_)
 refine TL.op0 (OpR.store 1 rfl rfl rfl rfl rfl rfl rfl rfl) ?_
 refine TL.nil ?_
 show T X _ _ _
 refine T.seq ?_
 refine aS ?_
 refine aA rfl rfl ?_
 refine TL.op1 (OpR.cast (OpR.pure rfl) (intE (lenS _))) rfl ?_
 refine aA rfl rfl ?_
 refine TL.nil ?_
 show T X _ _ _
 rcases ite_some h0 with ⟨c3, h0⟩ | ⟨c3, h0⟩
 · refine T.condT rfl (decide_eq_true c3) ?_
   refine aS ?_
   refine TL.op1 (OpR.loadPtr 1 rfl rfl rfl rfl) rfl ?_
   refine TL.op0 (OpR.store 0 rfl rfl rfl rfl rfl rfl rfl rfl) ?_
   refine aA rfl rfl ?_
   refine TL.nil ?_
   show T X _ _ _
   refine T.ret ?_
   obtain rfl := Option.some.inj h0
   exact PostG.retP (ks := []) (Gst.trans (Gst.only [2, 3] rfl) (Gst.trans (Gst.denil (ReS.cons Re.refl (ReS.cons Re.refl ReS.nil)) (ReO.var (ReL.cons (Re.base .nil) (ReL.cons Re.refl (ReL.cons Re.refl ReL.nil))) (ReO.same ReO.nil))) (Gst.pick [0] rfl rfl))) undef (ResL.cons (ResV.var 0 rfl rfl rfl rfl) (ResL.cons (ResV.tmp rfl) ResL.nil)) rfl rfl rfl rfl
 refine T.condF rfl (decide_eq_false c3) ?_
 refine T.skip ?_
 show T X _ _ _
 refine aS ?_
 refine aA rfl rfl ?_
 obtain ⟨x4, hx4, h0⟩ := bnd_some h0
 refine TL.op1 (OpR.call0 fn28 (ref05_All_c hx4) rfl) rfl ?_
 refine aA rfl rfl ?_
 refine TL.nil ?_
 show T X _ _ _
 refine T.seq ?_
 refine aS ?_
 refine aA rfl rfl ?_
 refine TL.op1 (OpR.cast (OpR.pure rfl) (intE (lenM _ _))) rfl ?_
 refine aA rfl rfl ?_
 refine TL.nil ?_
 show T X _ _ _
 rcases ite_some h0 with ⟨c5, h0⟩ | ⟨c5, h0⟩
 · refine T.condT rfl (decide_eq_true c5) ?_
   refine aS ?_
   refine TL.op1 (OpR.loadPtr 1 rfl rfl rfl rfl) rfl ?_
   refine TL.op0 (OpR.store 0 rfl rfl rfl rfl rfl rfl rfl rfl) ?_
   refine aA rfl rfl ?_
   refine TL.nil ?_
   show T X _ _ _
   refine T.ret ?_
   obtain rfl := Option.some.inj h0
   exact PostG.retP (ks := []) (Gst.trans (Gst.only [2, 3] rfl) (Gst.trans (Gst.denil (ReS.cons Re.refl (ReS.cons Re.refl ReS.nil)) (ReO.var (ReL.cons (Re.base .nil) (ReL.cons Re.refl (ReL.cons Re.refl ReL.nil))) (ReO.same ReO.nil))) (Gst.pick [0] rfl rfl))) undef (ResL.cons (ResV.var 0 rfl rfl rfl rfl) (ResL.cons (ResV.tmp rfl) ResL.nil)) rfl rfl rfl rfl
 refine T.condF rfl (decide_eq_false c5) ?_
 refine T.skip ?_
 show T X _ _ _
 refine T.seq ?_
 refine aS ?_
 refine aA rfl rfl ?_
 refine TL.op1 (OpR.cast (OpR.pure rfl) (intE (lenM _ _))) rfl ?_
 refine aA rfl rfl ?_
 refine TL.nil ?_
 show T X _ _ _
 obtain ⟨t6, ht6, h0⟩ := bnd_some h0
 refine T.cutC (fun S' => ∃ u7, t6 = Ex.brk u7 ∧ ∃ y8 : Value, S' = ⟨[(5, .sl 2 (List.map e_ref05_Row x4)), (4, .val (.pointer (some ⟨(blk p2), 0, none⟩))), (3, .val (.int .i64 0)), (2, .val (.pointer (some ⟨(blk p1), 0, none⟩)))], [.var (blk p1) [.val (.slice none 0 0), .val (.bool false), .val (.int .i64 0)] 30, .var (blk p2) [.val y8, .val (.bool u7.1), .val (.int .i64 2)] 30, .row y8 (List.map e_ref08_Row u7.2) 3 74], 69⟩) (fun _ h => h) ?_ ?_
 rotate_left
 · rintro _ ⟨u7, rfl, y8, rfl⟩
   show T X _ _ _
   refine T.seq ?_
   refine aS ?_
   refine aA rfl rfl ?_
   refine TL.op1 (OpR.cast (OpR.pure rfl) (intE (lenM _ _))) rfl ?_
   iterate 2 refine aA rfl rfl ?_
   refine TL.nil ?_
   show T X _ _ _
   obtain ⟨t26, ht26, h0⟩ := bnd_some h0
   refine T.cutC (fun S' => S' = ⟨[(4, .val (.pointer (some ⟨(blk p2), 0, none⟩))), (3, .val (.int .i64 0)), (2, .val (.pointer (some ⟨(blk p1), 0, none⟩)))], [.var (blk p1) [.val (.slice none 0 0), .val (.bool false), .val (.int .i64 0)] 30, .var (blk p2) [.val y8, .val (.bool u7.1), .val (.int .i64 t26)] 30, .row y8 (List.map e_ref08_Row u7.2) 3 74], 69⟩) (fun _ h => h) ?_ ?_
   rotate_left
   · rintro _ rfl
     show T X _ _ _
     refine aS ?_
     refine TL.op1 (OpR.loadPtr 1 rfl rfl rfl rfl) rfl ?_
     refine TL.op0 (OpR.store 0 rfl rfl rfl rfl rfl rfl rfl rfl) ?_
     refine aA rfl rfl ?_
     refine TL.nil ?_
     show T X _ _ _
     refine T.ret ?_
     obtain rfl := Option.some.inj h0
     exact PostG.retP (ks := []) (Gst.trans (Gst.only [2, 3] rfl) (Gst.trans (Gst.freezeRow 2 rfl rfl (ReS.cons Re.refl (ReS.cons Re.refl ReS.nil)) (ReO.var (ReL.cons (Re.base .all) (ReL.cons Re.refl (ReL.cons Re.refl ReL.nil))) (ReO.var (ReL.cons (Re.base .all) (ReL.cons Re.refl (ReL.cons Re.refl ReL.nil))) (ReO.same ReO.nil)))) (Gst.pick [0] rfl rfl))) undef (ResL.cons (ResV.var 0 rfl rfl rfl rfl) (ResL.cons (ResV.tmp rfl) ResL.nil)) rfl rfl rfl rfl
   refine T.block ?_
   obtain ⟨n28, n33⟩ := loop_some ht26
   refine T.loop (fun n S' => ∃ S'', Gst S' S'' ∧ ∃ s27 : Int × Int, S'' = ⟨[(10, .val (.int .i64 s27.1)), (5, .sl 2 (List.map e_ref05_Row x4)), (4, .val (.pointer (some ⟨(blk p2), 0, none⟩))), (3, .val (.int .i64 0)), (2, .val (.pointer (some ⟨(blk p1), 0, none⟩)))], [.var (blk p1) [.val (.slice none 0 0), .val (.bool false), .val (.int .i64 0)] 30, .var (blk p2) [.val y8, .val (.bool u7.1), .val (.int .i64 s27.2)] 30, .row y8 (List.map e_ref08_Row u7.2) 3 74], 69⟩ ∧ iter (ref11_Load.l2 x4) n s27 = some t26) n28 ?_ ?_
   · exact ⟨_, Gst.only [2, 3, 4, 5, 10] rfl, (w64 ((x4.length : Int) - 1), 2), rfl, n33⟩
   rintro n28 _ ⟨_, g, s27, rfl, i32⟩
   refine T.ghost g ?_
   obtain ⟨m29, q30, rfl, q31, i32⟩ := iter_succ i32
   unfold ref11_Load.l2 at q31
   refine T.seq ?_
   refine aS ?_
   iterate 2 refine aA rfl rfl ?_
   refine TL.nil ?_
   show T X _ _ _
   rcases ite_some q31 with ⟨c35, q31⟩ | ⟨c35, q31⟩
   rotate_left
   · refine T.condF rfl (decide_eq_false c35) ?_
     refine T.exit ?_
     obtain rfl := Option.some.inj q31
     obtain rfl : _ = _ := i32
     exact ⟨_, Gst.only [2, 3, 4] rfl, rfl⟩
   refine T.condT rfl (decide_eq_true c35) ?_
   refine T.skip ?_
   show T X _ _ _
   refine T.seq ?_
   refine T.block ?_
   refine aS ?_
   iterate 2 refine aA rfl rfl ?_
   obtain ⟨x36, hx36, q31⟩ := bnd_some q31
   refine TL.op1 (OpR.indexM e_ref05_Row hx36 rfl rfl rfl rfl rfl) rfl ?_
   iterate 3 refine aA rfl rfl ?_
   refine TL.nil ?_
   show T X _ _ _
   obtain ⟨t37, ht37, q31⟩ := bnd_some q31
   refine T.cutC (fun S' => S' = ⟨[(10, .val (.int .i64 s27.1)), (5, .sl 2 (List.map e_ref05_Row x4)), (4, .val (.pointer (some ⟨(blk p2), 0, none⟩))), (3, .val (.int .i64 0)), (2, .val (.pointer (some ⟨(blk p1), 0, none⟩)))], [.var (blk p1) [.val (.slice none 0 0), .val (.bool false), .val (.int .i64 0)] 30, .var (blk p2) [.val y8, .val (.bool u7.1), .val (.int .i64 t37)] 30, .row y8 (List.map e_ref08_Row u7.2) 3 74], 69⟩) (fun _ h => h) ?_ ?_
   rotate_left
   · rintro _ rfl
     show T X _ _ _
     refine T.region ?_
     iterate 3 refine aA rfl rfl ?_
     refine TL.nil ?_
     obtain rfl := Option.some.inj q31
     exact ⟨m29, Nat.lt_succ_self _, _, Gst.only [2, 3, 4, 5, 10] rfl, (w64 (s27.1 - 1), t37), rfl, i32⟩
   rcases ite_some ht37 with ⟨c38, ht37⟩ | ⟨c38, ht37⟩
   · refine T.condF rfl (not_t (beq_iff_eq.2 c38)) ?_
     refine T.skip ?_
     obtain rfl := Option.some.inj ht37
     exact ⟨_, Gst.only [2, 3, 4, 5, 10] rfl, rfl⟩
   refine T.condT rfl (not_f (beq_eq_false_iff_ne.2 c38)) ?_
   refine T.region ?_
   iterate 2 refine aA rfl rfl ?_
   refine TL.op1 (OpR.indexM e_ref05_Row hx36 rfl rfl rfl rfl rfl) rfl ?_
   iterate 3 refine aA rfl rfl ?_
   refine TL.op0 (OpR.store 1 rfl rfl rfl rfl rfl rfl rfl rfl) ?_
   refine TL.nil ?_
   obtain rfl := Option.some.inj ht37
   exact ⟨_, Gst.only [2, 3, 4, 5, 10] rfl, rfl⟩
 refine T.block ?_
 obtain ⟨n11, n16⟩ := loop_some ht6
 refine T.loop (fun n S' => ∃ S'', Gst S' S'' ∧ ∃ y9 : Value, ∃ s10 : Int × Bool × (List ref08_Row), S'' = ⟨[(24, .val (.int .i64 s10.1)), (23, .val (.int .i64 (x4.length : Int))), (22, .sl 2 (List.map e_ref05_Row x4)), (5, .sl 2 (List.map e_ref05_Row x4)), (4, .val (.pointer (some ⟨(blk p2), 0, none⟩))), (3, .val (.int .i64 0)), (2, .val (.pointer (some ⟨(blk p1), 0, none⟩))), (0, .val (.string (bs a0)))], [.var (blk p1) [.val (.slice none 0 0), .val (.bool false), .val (.int .i64 0)] 30, .var (blk p2) [.val y9, .val (.bool s10.2.1), .val (.int .i64 2)] 30, .row y9 (List.map e_ref08_Row s10.2.2) 3 74], 69⟩ ∧ iter (ref11_Load.l1 a0 x4) n s10 = some t6) n11 ?_ ?_
 · exact ⟨_, Gst.trans (Gst.only [0, 2, 3, 4, 5, 22, 23, 24] rfl) (Gst.nilRow (ow := [.var (blk p1) [.val (.slice none 0 0), .val (.bool false), .val (.int .i64 0)] 30, .var (blk p2) [.val (.slice none 0 0), .val (.bool false), .val (.int .i64 2)] 30]) 3 74 rfl), (.slice none 0 0), (0, false, []), rfl, n16⟩
 rintro n11 _ ⟨_, g, y9, s10, rfl, i15⟩
 refine T.ghost g ?_
 obtain ⟨m12, q13, rfl, q14, i15⟩ := iter_succ i15
 unfold ref11_Load.l1 at q14
 refine aS ?_
 refine aA rfl rfl ?_
 refine TL.nil ?_
 show T X _ _ _
 refine T.seq ?_
 rcases ite_some q14 with ⟨c18, q14⟩ | ⟨c18, q14⟩
 rotate_left
 · refine T.condF rfl (decide_eq_false c18) ?_
   refine T.exit ?_
   obtain rfl := Option.some.inj q14
   obtain rfl : _ = _ := i15
   exact ⟨_, Gst.only [2, 3, 4, 5] rfl, _, rfl, y9, rfl⟩
 refine T.condT rfl (decide_eq_true c18) ?_
 refine T.skip ?_
 show T X _ _ _
 refine T.seq ?_
 refine T.block ?_
 refine aS ?_
 obtain ⟨x19, hx19, q14⟩ := bnd_some q14
 refine TL.op1 (OpR.indexM e_ref05_Row hx19 rfl rfl rfl rfl rfl) rfl ?_
 refine aA rfl rfl ?_
 refine TL.op (OpR.alloc rfl rfl (fun _ => rfl)) rfl (fun p20 => ?_)
 refine TL.op0 (OpR.store 3 rfl rfl rfl rfl rfl rfl rfl rfl) ?_
 refine TL.nil ?_
 show T X _ _ _
 refine aS ?_
 refine aA rfl rfl ?_
 refine TL.op1 (OpR.loadPtr 3 rfl rfl rfl rfl) rfl ?_
 obtain ⟨x21, hx21, q14⟩ := bnd_some q14
 refine TL.op1 (OpR.call0 fn29 (ref08_Load_c hx21) rfl) rfl ?_
 iterate 3 refine aA rfl rfl ?_
 refine TL.op (OpR.alloc rfl rfl (fun _ => rfl)) rfl (fun p22 => ?_)
 refine TL.op0 (OpR.store 4 rfl rfl rfl rfl rfl rfl rfl rfl) ?_
 refine aA rfl rfl ?_
 refine TL.nil ?_
 show T X _ _ _
 refine T.seq ?_
 refine aS ?_
 iterate 2 refine aA rfl rfl ?_
 refine TL.nil ?_
 show T X _ _ _
 rcases ite_some q14 with ⟨c23, q14⟩ | ⟨c23, q14⟩
 rotate_left
 · refine T.condT rfl (not_f (beq_eq_false_iff_ne.2 c23)) ?_
   refine aS ?_
   refine TL.op1 (OpR.build rfl rfl rfl rfl rfl) rfl ?_
   refine aA rfl rfl ?_
   refine TL.op0 (OpR.store 0 rfl rfl rfl rfl rfl rfl rfl rfl) ?_
   refine aA rfl rfl ?_
   refine TL.nil ?_
   show T X _ _ _
   refine T.ret ?_
   obtain rfl := Option.some.inj q14
   obtain rfl : _ = _ := i15
   obtain rfl := Option.some.inj h0
   exact PostG.retP (ks := []) (Gst.trans (Gst.only [2, 3] rfl) (Gst.trans (Gst.denil (ReS.cons Re.refl (ReS.cons Re.refl ReS.nil)) (ReO.var (ReL.cons (Re.base .nil) (ReL.cons Re.refl (ReL.cons Re.refl ReL.nil))) (ReO.same (ReO.same (ReO.same (ReO.same ReO.nil)))))) (Gst.pick [0] rfl rfl))) undef (ResL.cons (ResV.var 0 rfl rfl rfl rfl) (ResL.cons (ResV.tmp rfl) ResL.nil)) rfl rfl rfl rfl
 refine T.condF rfl (not_t (beq_iff_eq.2 c23)) ?_
 refine T.skip ?_
 show T X _ _ _
 refine aS ?_
 refine aA rfl rfl ?_
 refine TL.op1 (OpR.loadPtr 1 rfl rfl rfl rfl) rfl ?_
 refine TL.op1 (OpR.loadPtr 4 rfl rfl rfl rfl) rfl ?_
 refine TL.op1 (OpR.lit rfl rfl rfl rfl rfl rfl rfl) rfl ?_
 obtain ⟨x24, hx24, q14⟩ := bnd_some q14
 refine TL.op (OpR.appendM (m := [x21.1]) e_ref08_Row 2 hx24 rfl rfl rfl rfl rfl rfl rfl rfl rfl (fun _ => rfl)) rfl (fun v25 => ?_)
 refine aA rfl rfl ?_
 refine TL.op0 (OpR.store 1 rfl rfl rfl rfl rfl rfl rfl rfl) ?_
 refine TL.nil ?_
 show T X _ _ _
 refine T.region ?_
 refine aA rfl rfl ?_
 refine TL.op1 (OpR.loadPtr 3 rfl rfl rfl rfl) rfl ?_
 iterate 2 refine aA rfl rfl ?_
 refine TL.op0 (OpR.store 1 rfl rfl rfl rfl rfl rfl rfl rfl) ?_
 refine TL.nil ?_
 show T X _ _ _
 refine T.region ?_
 iterate 2 refine aA rfl rfl ?_
 refine TL.nil ?_
 obtain rfl := Option.some.inj q14
 exact ⟨m12, Nat.lt_succ_self _, _, Gst.trans (Gst.only [0, 2, 3, 4, 5, 22, 23, 24] rfl) (Gst.pick [0, 1, 2] rfl rfl), v25, (w64 (s10.1 + 1), (!(x19.fEnd == 0)), x24), rfl, i15⟩
noncomputable def law11_Begun (a0 : List UInt8) : Option ((grid_Grid × ref11_Grid × Bool × (List UInt8)) ⊕ (grid_Grid × ref11_Grid)) :=
  bnd (grid_Load a0) fun x3 =>
  match x3 with
  | .inl x3 =>
      bnd (ref11_Load a0) fun x6 =>
      bnd (if x3.2.1 = 0 then
        some ((x6.2 == 0), x3.1.fRows.fRoot, x3.1.fTail, x3.1.fEnd, x6.1.fRows, x6.1.fTail, x6.1.fEnd)
      else
        some (false, x3.1.fRows.fRoot, x3.1.fTail, x3.1.fEnd, x6.1.fRows, x6.1.fTail, x6.1.fEnd) : Option (Bool × (Option NP) × Bool × Int × (List ref08_Row) × Bool × Int)) fun t8 =>
      some (Sum.inl ((⟨(⟨t8.2.1⟩ : tree_Tree_damier_row_Row), t8.2.2.1, t8.2.2.2.1⟩ : grid_Grid), (⟨t8.2.2.2.2.1, t8.2.2.2.2.2.1, t8.2.2.2.2.2.2⟩ : ref11_Grid), t8.1, x3.2.2))
  | .inr x3 =>
      bnd (ref11_Load a0) fun x12 =>
      some (Sum.inr (x3.1, x12.1))
set_option maxHeartbeats 4000000 in
theorem law11_Begun_c {a0 : List UInt8} {res : (grid_Grid × ref11_Grid × Bool × (List UInt8)) ⊕ (grid_Grid × ref11_Grid)} (h0 : law11_Begun a0 = some res) : CallF X 4 [.val (.string (bs a0))] [] (fun x => (match res with | .inl res => .tup [.agg [(eOP res.1.fRows.fRoot), .val (.bool res.1.fTail), .val (.int .i64 res.1.fEnd)], .val (.pointer (some ⟨(blk (vn x 0)), 0, none⟩)), .agg [.sl 3 (List.map e_ref08_Row res.2.1.fRows), .val (.bool res.2.1.fTail), .val (.int .i64 res.2.1.fEnd)], .val (.bool res.2.2.1)] | .inr res => .tup [.agg [(eOP res.1.fRows.fRoot), .val (.bool res.1.fTail), .val (.int .i64 res.1.fEnd)], .val (.pointer none), .agg [.sl 3 (List.map e_ref08_Row res.2.fRows), .val (.bool res.2.fTail), .val (.int .i64 res.2.fEnd)], .val (.bool false)])) (fun x => (match res with | .inl res => [.var (blk (vn x 0)) [.val (vn x 1)] 123, .row (vn x 1) (List.map byteD res.2.2.2) 1 5] | .inr res => [])) := by
 unfold law11_Begun at h0
 refine CallF.mkG (X := X) rfl Try.func4 rfl rfl Try.ntmps4 rfl rfl ?_
 refine aS ?_
 refine TL.op (OpR.alloc rfl rfl (fun _ => rfl)) rfl (fun p1 => ?_)
 refine aA rfl rfl ?_
 refine TL.op (OpR.alloc rfl rfl (fun _ => rfl)) rfl (fun p2 => ?_)
 refine aA rfl rfl ?_
 refine TL.nil ?_
 show T X _ _ _
 refine aS ?_
 refine aA rfl rfl ?_
 refine TL.op1 (OpR.toBytesM rfl rfl rfl rfl rfl rfl rfl) rfl ?_
 obtain ⟨x3, hx3, h0⟩ := bnd_some h0
 rcases x3 with x3 | x3
 rotate_left
 · dsimp only at h0
   refine TL.op1 (OpR.call0 fn10 (grid_Load_cx2 hx3) rfl) rfl ?_
   iterate 4 refine aA rfl rfl ?_
   refine TL.op (OpR.alloc rfl rfl (fun _ => rfl)) rfl (fun p11 => ?_)
   refine TL.op0 (OpR.store 2 rfl rfl rfl rfl rfl rfl rfl rfl) ?_
   iterate 2 refine aA rfl rfl ?_
   refine TL.nil ?_
   show T X _ _ _
   refine aS ?_
   refine aA rfl rfl ?_
   obtain ⟨x12, hx12, h0⟩ := bnd_some h0
   refine TL.op1 (OpR.call0 fn11 (ref11_Load_c hx12) rfl) rfl ?_
   iterate 3 refine aA rfl rfl ?_
   refine TL.op (OpR.alloc rfl rfl (fun _ => rfl)) rfl (fun p13 => ?_)
   refine TL.op0 (OpR.store 3 rfl rfl rfl rfl rfl rfl rfl rfl) ?_
   refine aA rfl rfl ?_
   refine TL.nil ?_
   show T X _ _ _
   refine T.seq ?_
   refine T.drawS drawsX (fun env14 => [.agg [(eOP x3.1.fRows.fRoot), .val (.bool x3.1.fTail), .val (.int .i64 x3.1.fEnd)], .val (.pointer none), .agg [.sl 3 (List.map e_ref08_Row x12.1.fRows), .val (.bool x12.1.fTail), .val (.int .i64 x12.1.fEnd)], .val (.pointer none), .val (.bool false), .val (.bool false), .tup [], .tup [], .val (.bool false), .val (.bool false), .tup [], .tup [], .val (.bool false), .dead, .val (.pointer none), .dead, .val (.bool false)]) (fun D env14 => [(bif D 13 then .var (blk p1) [(eOP x3.1.fRows.fRoot), .val (.bool x3.1.fTail), .val (.int .i64 x3.1.fEnd)] 26 else .var (blk p1) [(eOP none), .val (.bool false), .val (.int .i64 0)] 26), (bif D 15 then .var (blk p2) [.sl 3 (List.map e_ref08_Row x12.1.fRows), .val (.bool x12.1.fTail), .val (.int .i64 x12.1.fEnd)] 30 else .var (blk p2) [.val (.slice none 0 0), .val (.bool false), .val (.int .i64 0)] 30), .var (blk p11) [(eOP x3.1.fRows.fRoot), .val (.bool x3.1.fTail), .val (.int .i64 x3.1.fEnd)] 26, .var (blk p13) [.sl 3 (List.map e_ref08_Row x12.1.fRows), .val (.bool x12.1.fTail), .val (.int .i64 x12.1.fEnd)] 30]) [0, 0, 0, 0, 8, 24, 56, 120, 248, 504, 1016, 2040, 4088, 1017, 9211, 25599, 65535] [2, 3, 4, 5] (fun env14 => [.var (blk p1) [(eOP x3.1.fRows.fRoot), .val (.bool x3.1.fTail), .val (.int .i64 x3.1.fEnd)] 26, .var (blk p2) [.sl 3 (List.map e_ref08_Row x12.1.fRows), .val (.bool x12.1.fTail), .val (.int .i64 x12.1.fEnd)] 30, .var (blk p11) [(eOP x3.1.fRows.fRoot), .val (.bool x3.1.fTail), .val (.int .i64 x3.1.fEnd)] 26, .var (blk p13) [.sl 3 (List.map e_ref08_Row x12.1.fRows), .val (.bool x12.1.fTail), .val (.int .i64 x12.1.fEnd)] 30]) (by decide +kernel) (by decide +kernel) (fun _ => rfl) (fun _ => rfl) ?_ (fun _ => rfl) (fun _ => rfl) ?_
   rotate_left
   · intro env14
     show T X _ _ _
     refine T.ret ?_
     obtain rfl := Option.some.inj h0
     exact PostG.retP (ks := []) (Gst.trans (Gst.only [2, 3, 4, 5] rfl) (Gst.pick [0, 1] rfl rfl)) undef (ResL.cons (ResV.var 0 rfl rfl rfl rfl) (ResL.cons (ResV.tmp rfl) (ResL.cons (ResV.var 1 rfl rfl rfl rfl) (ResL.cons (ResV.tmp rfl) ResL.nil)))) rfl rfl rfl rfl
   refine oS (d := .agg [(eOP x3.1.fRows.fRoot), .val (.bool x3.1.fTail), .val (.int .i64 x3.1.fEnd)]) (fun _ => Want.plain rfl) (fun _ => rfl) (fun _ _ _ => rfl) (fun _ _ => OpR.loadPtr 2 rfl rfl rfl rfl) (fun _ _ _ _ _ _ _ => rfl) ?_
   refine aC ?_
   refine oS (d := .agg [.sl 3 (List.map e_ref08_Row x12.1.fRows), .val (.bool x12.1.fTail), .val (.int .i64 x12.1.fEnd)]) (fun _ => Want.plain rfl) (fun _ => rfl) (fun _ _ _ => rfl) (fun _ _ => OpR.loadPtr 3 rfl rfl rfl rfl) (fun _ _ _ _ _ _ _ => rfl) ?_
   refine aC ?_
   refine oS (d := .val (.bool false)) (fun _ => Want.plain rfl) (fun _ => rfl) (fun _ _ _ => rfl) (fun _ _ => OpR.ptrNe (A := none) rfl rfl rfl) (fun _ _ _ _ _ _ _ => rfl) ?_
   refine aC ?_
   refine OpsS.cons' false (fun D env14 hA => OpS.no (Want.bool rfl rfl rfl rfl rfl) rfl rfl) (fun _ _ _ _ _ _ _ => rfl) ?_
   refine OpsS.cons' false (fun D env14 hA => OpS.no (Want.bool rfl rfl rfl rfl rfl) rfl rfl) (fun _ _ _ _ _ _ _ => rfl) ?_
   refine oS (d := .val (.bool false)) (fun _ => Want.plain rfl) (fun _ => rfl) (fun _ _ _ => rfl) (fun _ _ => OpR.pickF rfl rfl rfl) (fun _ _ _ _ _ _ _ => rfl) ?_
   refine aC ?_
   refine OpsS.cons' false (fun D env14 hA => OpS.no (Want.bool rfl rfl rfl rfl rfl) rfl rfl) (fun _ _ _ _ _ _ _ => rfl) ?_
   refine OpsS.cons' false (fun D env14 hA => OpS.no (Want.bool rfl rfl rfl rfl rfl) rfl rfl) (fun _ _ _ _ _ _ _ => rfl) ?_
   refine oS (d := .val (.bool false)) (fun _ => Want.plain rfl) (fun _ => rfl) (fun _ _ _ => rfl) (fun _ _ => OpR.pickF rfl rfl rfl) (fun _ _ _ _ _ _ _ => rfl) ?_
   refine OpsS.cons' true ?_ (fun _ _ _ _ _ _ _ => rfl) ?_
   · intro D env14 hA
     have e15 : D 15 = false := hA.no 15 _ rfl rfl
     exact OpS.yes (o0 := [.var (blk p1) [(eOP none), .val (.bool false), .val (.int .i64 0)] 26, .var (blk p2) [.val (.slice none 0 0), .val (.bool false), .val (.int .i64 0)] 30, .var (blk p11) [(eOP x3.1.fRows.fRoot), .val (.bool x3.1.fTail), .val (.int .i64 x3.1.fEnd)] 26, .var (blk p13) [.sl 3 (List.map e_ref08_Row x12.1.fRows), .val (.bool x12.1.fTail), .val (.int .i64 x12.1.fEnd)] 30]) (o1 := fun x => [.var (blk p1) [(eOP x3.1.fRows.fRoot), .val (.bool x3.1.fTail), .val (.int .i64 x3.1.fEnd)] 26, .var (blk p2) [.val (.slice none 0 0), .val (.bool false), .val (.int .i64 0)] 30, .var (blk p11) [(eOP x3.1.fRows.fRoot), .val (.bool x3.1.fTail), .val (.int .i64 x3.1.fEnd)] 26, .var (blk p13) [.sl 3 (List.map e_ref08_Row x12.1.fRows), .val (.bool x12.1.fTail), .val (.int .i64 x12.1.fEnd)] 30]) (d := fun x => .dead) (Want.plain rfl) (by first | rfl | simp only [e15, hA.me, cond_true, cond_false, List.cons_append, List.nil_append, List.append_nil]) (fun x => by first | rfl | simp only [ins_self, ins_ne D (show 13 ≠ 15 by decide), upd_self, e15, hA.me, cond_true, cond_false, List.cons_append, List.nil_append, List.append_nil]) (fun x => rfl) (OpR.store 0 rfl rfl rfl rfl rfl rfl rfl rfl)
   refine aC ?_
   refine OpsS.cons' true ?_ (fun _ _ _ _ _ _ _ => rfl) ?_
   · intro D env14 hA
     have e13 : D 13 = true := hA.yes 13 _ rfl rfl
     exact OpS.yes (o0 := [.var (blk p1) [(eOP x3.1.fRows.fRoot), .val (.bool x3.1.fTail), .val (.int .i64 x3.1.fEnd)] 26, .var (blk p2) [.val (.slice none 0 0), .val (.bool false), .val (.int .i64 0)] 30, .var (blk p11) [(eOP x3.1.fRows.fRoot), .val (.bool x3.1.fTail), .val (.int .i64 x3.1.fEnd)] 26, .var (blk p13) [.sl 3 (List.map e_ref08_Row x12.1.fRows), .val (.bool x12.1.fTail), .val (.int .i64 x12.1.fEnd)] 30]) (o1 := fun x => [.var (blk p1) [(eOP x3.1.fRows.fRoot), .val (.bool x3.1.fTail), .val (.int .i64 x3.1.fEnd)] 26, .var (blk p2) [.sl 3 (List.map e_ref08_Row x12.1.fRows), .val (.bool x12.1.fTail), .val (.int .i64 x12.1.fEnd)] 30, .var (blk p11) [(eOP x3.1.fRows.fRoot), .val (.bool x3.1.fTail), .val (.int .i64 x3.1.fEnd)] 26, .var (blk p13) [.sl 3 (List.map e_ref08_Row x12.1.fRows), .val (.bool x12.1.fTail), .val (.int .i64 x12.1.fEnd)] 30]) (d := fun x => .dead) (Want.plain rfl) (by first | rfl | simp only [e13, hA.me, cond_true, cond_false, List.cons_append, List.nil_append, List.append_nil]) (fun x => by first | rfl | simp only [ins_self, ins_ne D (show 15 ≠ 13 by decide), upd_self, e13, hA.me, cond_true, cond_false, List.cons_append, List.nil_append, List.append_nil]) (fun x => rfl) (OpR.store 1 rfl rfl rfl rfl rfl rfl rfl rfl)
   refine aC ?_
   exact trivial
 dsimp only at h0
 refine TL.op (OpR.call [] fn10 (grid_Load_cx1 hx3) rfl rfl rfl (fun _ => rfl)) rfl (fun w4 => ?_)
 iterate 4 refine aA rfl rfl ?_
 refine TL.op (OpR.alloc rfl rfl (fun _ => rfl)) rfl (fun p5 => ?_)
 refine TL.op0 (OpR.store 4 rfl rfl rfl rfl rfl rfl rfl rfl) ?_
 iterate 2 refine aA rfl rfl ?_
 refine TL.nil ?_
 show T X _ _ _
 refine aS ?_
 refine aA rfl rfl ?_
 obtain ⟨x6, hx6, h0⟩ := bnd_some h0
 refine TL.op1 (OpR.call0 fn11 (ref11_Load_c hx6) rfl) rfl ?_
 iterate 3 refine aA rfl rfl ?_
 refine TL.op (OpR.alloc rfl rfl (fun _ => rfl)) rfl (fun p7 => ?_)
 refine TL.op0 (OpR.store 5 rfl rfl rfl rfl rfl rfl rfl rfl) ?_
 refine aA rfl rfl ?_
 refine TL.nil ?_
 show T X _ _ _
 refine T.seq ?_
 obtain ⟨t8, ht8, h0⟩ := bnd_some h0
 refine T.cutC (fun S' => S' = ⟨[(5, .val (.bool t8.1)), (4, .val (.pointer (some ⟨(blk p2), 0, none⟩))), (3, .val (.pointer (some ⟨(blk (vn w4 0)), 0, none⟩))), (2, .val (.pointer (some ⟨(blk p1), 0, none⟩)))], [.var (blk p1) [(eOP t8.2.1), .val (.bool t8.2.2.1), .val (.int .i64 t8.2.2.2.1)] 26, .var (blk (vn w4 0)) [.val (vn w4 1)] 123, .var (blk p2) [.sl 3 (List.map e_ref08_Row t8.2.2.2.2.1), .val (.bool t8.2.2.2.2.2.1), .val (.int .i64 t8.2.2.2.2.2.2)] 30, .row (vn w4 1) (List.map byteD x3.2.2) 1 5], 36⟩) (fun _ h => h) ?_ ?_
 rotate_left
 · rintro _ rfl
   show T X _ _ _
   refine T.ret ?_
   obtain rfl := Option.some.inj h0
   exact PostG.retP (ks := [1, 3]) (Gst.only [2, 3, 4, 5] rfl) (.tuple #[(vn w4 0), (vn w4 1)]) (ResL.cons (ResV.var 0 rfl rfl rfl rfl) (ResL.cons (ResV.tmp rfl) (ResL.cons (ResV.var 2 rfl rfl rfl rfl) (ResL.cons (ResV.tmp rfl) ResL.nil)))) rfl rfl rfl rfl
 rcases ite_some ht8 with ⟨c10, ht8⟩ | ⟨c10, ht8⟩
 rotate_left
 · refine T.drawS drawsX (fun env9 => [.agg [(eOP x3.1.fRows.fRoot), .val (.bool x3.1.fTail), .val (.int .i64 x3.1.fEnd)], .val (.pointer (some ⟨(blk (vn w4 0)), 0, none⟩)), .agg [.sl 3 (List.map e_ref08_Row x6.1.fRows), .val (.bool x6.1.fTail), .val (.int .i64 x6.1.fEnd)], .val (.pointer (some ⟨(blk (vn w4 0)), 0, none⟩)), .val (.bool true), .val (.bool true), .val (.int .i64 x3.2.1), .val (.bool (x3.2.1 == 0)), .val (.bool (x3.2.1 == 0)), .val (.bool (x3.2.1 == 0)), .tup [], .tup [], .val (.bool false), .dead, .val (.pointer (some ⟨(blk (vn w4 0)), 0, none⟩)), .dead, .val (.bool false)]) (fun D env9 => [(bif D 13 then .var (blk p1) [(eOP x3.1.fRows.fRoot), .val (.bool x3.1.fTail), .val (.int .i64 x3.1.fEnd)] 26 else .var (blk p1) [(eOP none), .val (.bool false), .val (.int .i64 0)] 26), (bif D 15 then .var (blk p2) [.sl 3 (List.map e_ref08_Row x6.1.fRows), .val (.bool x6.1.fTail), .val (.int .i64 x6.1.fEnd)] 30 else .var (blk p2) [.val (.slice none 0 0), .val (.bool false), .val (.int .i64 0)] 30), .var (blk (vn w4 0)) [.val (vn w4 1)] 123, .row (vn w4 1) (List.map byteD x3.2.2) 1 5, .var (blk p5) [(eOP x3.1.fRows.fRoot), .val (.bool x3.1.fTail), .val (.int .i64 x3.1.fEnd)] 26, .var (blk p7) [.sl 3 (List.map e_ref08_Row x6.1.fRows), .val (.bool x6.1.fTail), .val (.int .i64 x6.1.fEnd)] 30]) [0, 0, 0, 0, 8, 24, 56, 120, 248, 504, 1016, 2040, 4088, 1017, 9211, 25599, 65535] [2, 3, 4, 5] (fun env9 => [.var (blk p1) [(eOP x3.1.fRows.fRoot), .val (.bool x3.1.fTail), .val (.int .i64 x3.1.fEnd)] 26, .var (blk p2) [.sl 3 (List.map e_ref08_Row x6.1.fRows), .val (.bool x6.1.fTail), .val (.int .i64 x6.1.fEnd)] 30, .var (blk (vn w4 0)) [.val (vn w4 1)] 123, .row (vn w4 1) (List.map byteD x3.2.2) 1 5, .var (blk p5) [(eOP x3.1.fRows.fRoot), .val (.bool x3.1.fTail), .val (.int .i64 x3.1.fEnd)] 26, .var (blk p7) [.sl 3 (List.map e_ref08_Row x6.1.fRows), .val (.bool x6.1.fTail), .val (.int .i64 x6.1.fEnd)] 30]) (by decide +kernel) (by decide +kernel) (fun _ => rfl) (fun _ => rfl) ?_ (fun _ => rfl) (fun _ => rfl) ?_
   rotate_left
   · intro env9
     obtain rfl := Option.some.inj ht8
     exact ⟨_, Gst.trans (Gst.only [2, 3, 4, 5] rfl) (Gst.pick [0, 2, 1, 3] rfl rfl), rfl⟩
   refine oS (d := .agg [(eOP x3.1.fRows.fRoot), .val (.bool x3.1.fTail), .val (.int .i64 x3.1.fEnd)]) (fun _ => Want.plain rfl) (fun _ => rfl) (fun _ _ _ => rfl) (fun _ _ => OpR.loadPtr 4 rfl rfl rfl rfl) (fun _ _ _ _ _ _ _ => rfl) ?_
   refine aC ?_
   refine oS (d := .agg [.sl 3 (List.map e_ref08_Row x6.1.fRows), .val (.bool x6.1.fTail), .val (.int .i64 x6.1.fEnd)]) (fun _ => Want.plain rfl) (fun _ => rfl) (fun _ _ _ => rfl) (fun _ _ => OpR.loadPtr 5 rfl rfl rfl rfl) (fun _ _ _ _ _ _ _ => rfl) ?_
   refine aC ?_
   refine oS (d := .val (.bool true)) (fun _ => Want.plain rfl) (fun _ => rfl) (fun _ _ _ => rfl) (fun _ _ => OpR.ptrNe (A := some ⟨(blk (vn w4 0)), 0, none⟩) rfl rfl rfl) (fun _ _ _ _ _ _ _ => rfl) ?_
   refine aC ?_
   refine oS (d := .val (.int .i64 x3.2.1)) (fun _ => Want.bool rfl rfl rfl rfl rfl) (fun _ => rfl) (fun _ _ _ => rfl) (fun _ _ => OpR.pure rfl) (fun _ _ _ _ _ _ _ => rfl) ?_
   refine oS (d := .val (.bool (x3.2.1 == 0))) (fun _ => Want.bool rfl rfl rfl rfl rfl) (fun _ => rfl) (fun _ _ _ => rfl) (fun _ _ => OpR.pure rfl) (fun _ _ _ _ _ _ _ => rfl) ?_
   refine oS (d := .val (.bool (x3.2.1 == 0))) (fun _ => Want.plain rfl) (fun _ => rfl) (fun _ _ _ => rfl) (fun _ _ => OpR.pickT rfl rfl rfl) (fun _ _ _ _ _ _ _ => rfl) ?_
   refine aC ?_
   refine OpsS.cons' false (fun D env9 hA => OpS.no (Want.bool rfl rfl rfl rfl (by rw [(beq_eq_false_iff_ne.2 c10)]; rfl)) rfl rfl) (fun _ _ _ _ _ _ _ => rfl) ?_
   refine OpsS.cons' false (fun D env9 hA => OpS.no (Want.bool rfl rfl rfl rfl (by rw [(beq_eq_false_iff_ne.2 c10)]; rfl)) rfl rfl) (fun _ _ _ _ _ _ _ => rfl) ?_
   refine oS (d := .val (.bool false)) (fun _ => Want.plain rfl) (fun _ => rfl) (fun _ _ _ => rfl) (fun _ _ => OpR.pickF rfl (beq_eq_false_iff_ne.2 c10) rfl) (fun _ _ _ _ _ _ _ => rfl) ?_
   refine OpsS.cons' true ?_ (fun _ _ _ _ _ _ _ => rfl) ?_
   · intro D env9 hA
     have e15 : D 15 = false := hA.no 15 _ rfl rfl
     exact OpS.yes (o0 := [.var (blk p1) [(eOP none), .val (.bool false), .val (.int .i64 0)] 26, .var (blk p2) [.val (.slice none 0 0), .val (.bool false), .val (.int .i64 0)] 30, .var (blk (vn w4 0)) [.val (vn w4 1)] 123, .row (vn w4 1) (List.map byteD x3.2.2) 1 5, .var (blk p5) [(eOP x3.1.fRows.fRoot), .val (.bool x3.1.fTail), .val (.int .i64 x3.1.fEnd)] 26, .var (blk p7) [.sl 3 (List.map e_ref08_Row x6.1.fRows), .val (.bool x6.1.fTail), .val (.int .i64 x6.1.fEnd)] 30]) (o1 := fun x => [.var (blk p1) [(eOP x3.1.fRows.fRoot), .val (.bool x3.1.fTail), .val (.int .i64 x3.1.fEnd)] 26, .var (blk p2) [.val (.slice none 0 0), .val (.bool false), .val (.int .i64 0)] 30, .var (blk (vn w4 0)) [.val (vn w4 1)] 123, .row (vn w4 1) (List.map byteD x3.2.2) 1 5, .var (blk p5) [(eOP x3.1.fRows.fRoot), .val (.bool x3.1.fTail), .val (.int .i64 x3.1.fEnd)] 26, .var (blk p7) [.sl 3 (List.map e_ref08_Row x6.1.fRows), .val (.bool x6.1.fTail), .val (.int .i64 x6.1.fEnd)] 30]) (d := fun x => .dead) (Want.plain rfl) (by first | rfl | simp only [e15, hA.me, cond_true, cond_false, List.cons_append, List.nil_append, List.append_nil]) (fun x => by first | rfl | simp only [ins_self, ins_ne D (show 13 ≠ 15 by decide), upd_self, e15, hA.me, cond_true, cond_false, List.cons_append, List.nil_append, List.append_nil]) (fun x => rfl) (OpR.store 0 rfl rfl rfl rfl rfl rfl rfl rfl)
   refine aC ?_
   refine OpsS.cons' true ?_ (fun _ _ _ _ _ _ _ => rfl) ?_
   · intro D env9 hA
     have e13 : D 13 = true := hA.yes 13 _ rfl rfl
     exact OpS.yes (o0 := [.var (blk p1) [(eOP x3.1.fRows.fRoot), .val (.bool x3.1.fTail), .val (.int .i64 x3.1.fEnd)] 26, .var (blk p2) [.val (.slice none 0 0), .val (.bool false), .val (.int .i64 0)] 30, .var (blk (vn w4 0)) [.val (vn w4 1)] 123, .row (vn w4 1) (List.map byteD x3.2.2) 1 5, .var (blk p5) [(eOP x3.1.fRows.fRoot), .val (.bool x3.1.fTail), .val (.int .i64 x3.1.fEnd)] 26, .var (blk p7) [.sl 3 (List.map e_ref08_Row x6.1.fRows), .val (.bool x6.1.fTail), .val (.int .i64 x6.1.fEnd)] 30]) (o1 := fun x => [.var (blk p1) [(eOP x3.1.fRows.fRoot), .val (.bool x3.1.fTail), .val (.int .i64 x3.1.fEnd)] 26, .var (blk p2) [.sl 3 (List.map e_ref08_Row x6.1.fRows), .val (.bool x6.1.fTail), .val (.int .i64 x6.1.fEnd)] 30, .var (blk (vn w4 0)) [.val (vn w4 1)] 123, .row (vn w4 1) (List.map byteD x3.2.2) 1 5, .var (blk p5) [(eOP x3.1.fRows.fRoot), .val (.bool x3.1.fTail), .val (.int .i64 x3.1.fEnd)] 26, .var (blk p7) [.sl 3 (List.map e_ref08_Row x6.1.fRows), .val (.bool x6.1.fTail), .val (.int .i64 x6.1.fEnd)] 30]) (d := fun x => .dead) (Want.plain rfl) (by first | rfl | simp only [e13, hA.me, cond_true, cond_false, List.cons_append, List.nil_append, List.append_nil]) (fun x => by first | rfl | simp only [ins_self, ins_ne D (show 15 ≠ 13 by decide), upd_self, e13, hA.me, cond_true, cond_false, List.cons_append, List.nil_append, List.append_nil]) (fun x => rfl) (OpR.store 1 rfl rfl rfl rfl rfl rfl rfl rfl)
   refine aC ?_
   exact trivial
 refine T.drawS drawsX (fun env9 => [.agg [(eOP x3.1.fRows.fRoot), .val (.bool x3.1.fTail), .val (.int .i64 x3.1.fEnd)], .val (.pointer (some ⟨(blk (vn w4 0)), 0, none⟩)), .agg [.sl 3 (List.map e_ref08_Row x6.1.fRows), .val (.bool x6.1.fTail), .val (.int .i64 x6.1.fEnd)], .val (.pointer (some ⟨(blk (vn w4 0)), 0, none⟩)), .val (.bool true), .val (.bool true), .val (.int .i64 x3.2.1), .val (.bool (x3.2.1 == 0)), .val (.bool (x3.2.1 == 0)), .val (.bool (x3.2.1 == 0)), .val (.int .i64 x6.2), .val (.bool (x6.2 == 0)), .val (.bool (x6.2 == 0)), .dead, .val (.pointer (some ⟨(blk (vn w4 0)), 0, none⟩)), .dead, .val (.bool (x6.2 == 0))]) (fun D env9 => [(bif D 13 then .var (blk p1) [(eOP x3.1.fRows.fRoot), .val (.bool x3.1.fTail), .val (.int .i64 x3.1.fEnd)] 26 else .var (blk p1) [(eOP none), .val (.bool false), .val (.int .i64 0)] 26), (bif D 15 then .var (blk p2) [.sl 3 (List.map e_ref08_Row x6.1.fRows), .val (.bool x6.1.fTail), .val (.int .i64 x6.1.fEnd)] 30 else .var (blk p2) [.val (.slice none 0 0), .val (.bool false), .val (.int .i64 0)] 30), .var (blk (vn w4 0)) [.val (vn w4 1)] 123, .row (vn w4 1) (List.map byteD x3.2.2) 1 5, .var (blk p5) [(eOP x3.1.fRows.fRoot), .val (.bool x3.1.fTail), .val (.int .i64 x3.1.fEnd)] 26, .var (blk p7) [.sl 3 (List.map e_ref08_Row x6.1.fRows), .val (.bool x6.1.fTail), .val (.int .i64 x6.1.fEnd)] 30]) [0, 0, 0, 0, 8, 24, 56, 120, 248, 504, 1016, 2040, 4088, 1017, 9211, 25599, 65535] [2, 3, 4, 5] (fun env9 => [.var (blk p1) [(eOP x3.1.fRows.fRoot), .val (.bool x3.1.fTail), .val (.int .i64 x3.1.fEnd)] 26, .var (blk p2) [.sl 3 (List.map e_ref08_Row x6.1.fRows), .val (.bool x6.1.fTail), .val (.int .i64 x6.1.fEnd)] 30, .var (blk (vn w4 0)) [.val (vn w4 1)] 123, .row (vn w4 1) (List.map byteD x3.2.2) 1 5, .var (blk p5) [(eOP x3.1.fRows.fRoot), .val (.bool x3.1.fTail), .val (.int .i64 x3.1.fEnd)] 26, .var (blk p7) [.sl 3 (List.map e_ref08_Row x6.1.fRows), .val (.bool x6.1.fTail), .val (.int .i64 x6.1.fEnd)] 30]) (by decide +kernel) (by decide +kernel) (fun _ => rfl) (fun _ => rfl) ?_ (fun _ => rfl) (fun _ => rfl) ?_
 rotate_left
 · intro env9
   obtain rfl := Option.some.inj ht8
   exact ⟨_, Gst.trans (Gst.only [2, 3, 4, 5] rfl) (Gst.pick [0, 2, 1, 3] rfl rfl), rfl⟩
 refine oS (d := .agg [(eOP x3.1.fRows.fRoot), .val (.bool x3.1.fTail), .val (.int .i64 x3.1.fEnd)]) (fun _ => Want.plain rfl) (fun _ => rfl) (fun _ _ _ => rfl) (fun _ _ => OpR.loadPtr 4 rfl rfl rfl rfl) (fun _ _ _ _ _ _ _ => rfl) ?_
 refine aC ?_
 refine oS (d := .agg [.sl 3 (List.map e_ref08_Row x6.1.fRows), .val (.bool x6.1.fTail), .val (.int .i64 x6.1.fEnd)]) (fun _ => Want.plain rfl) (fun _ => rfl) (fun _ _ _ => rfl) (fun _ _ => OpR.loadPtr 5 rfl rfl rfl rfl) (fun _ _ _ _ _ _ _ => rfl) ?_
 refine aC ?_
 refine oS (d := .val (.bool true)) (fun _ => Want.plain rfl) (fun _ => rfl) (fun _ _ _ => rfl) (fun _ _ => OpR.ptrNe (A := some ⟨(blk (vn w4 0)), 0, none⟩) rfl rfl rfl) (fun _ _ _ _ _ _ _ => rfl) ?_
 refine aC ?_
 refine oS (d := .val (.int .i64 x3.2.1)) (fun _ => Want.bool rfl rfl rfl rfl rfl) (fun _ => rfl) (fun _ _ _ => rfl) (fun _ _ => OpR.pure rfl) (fun _ _ _ _ _ _ _ => rfl) ?_
 refine oS (d := .val (.bool (x3.2.1 == 0))) (fun _ => Want.bool rfl rfl rfl rfl rfl) (fun _ => rfl) (fun _ _ _ => rfl) (fun _ _ => OpR.pure rfl) (fun _ _ _ _ _ _ _ => rfl) ?_
 refine oS (d := .val (.bool (x3.2.1 == 0))) (fun _ => Want.plain rfl) (fun _ => rfl) (fun _ _ _ => rfl) (fun _ _ => OpR.pickT rfl rfl rfl) (fun _ _ _ _ _ _ _ => rfl) ?_
 refine aC ?_
 refine oS (d := .val (.int .i64 x6.2)) (fun _ => Want.bool rfl rfl rfl rfl (by rw [(beq_iff_eq.2 c10)]; rfl)) (fun _ => rfl) (fun _ _ _ => rfl) (fun _ _ => OpR.pure rfl) (fun _ _ _ _ _ _ _ => rfl) ?_
 refine oS (d := .val (.bool (x6.2 == 0))) (fun _ => Want.bool rfl rfl rfl rfl (by rw [(beq_iff_eq.2 c10)]; rfl)) (fun _ => rfl) (fun _ _ _ => rfl) (fun _ _ => OpR.pure rfl) (fun _ _ _ _ _ _ _ => rfl) ?_
 refine oS (d := .val (.bool (x6.2 == 0))) (fun _ => Want.plain rfl) (fun _ => rfl) (fun _ _ _ => rfl) (fun _ _ => OpR.pickT rfl (beq_iff_eq.2 c10) rfl) (fun _ _ _ _ _ _ _ => rfl) ?_
 refine OpsS.cons' true ?_ (fun _ _ _ _ _ _ _ => rfl) ?_
 · intro D env9 hA
   have e15 : D 15 = false := hA.no 15 _ rfl rfl
   exact OpS.yes (o0 := [.var (blk p1) [(eOP none), .val (.bool false), .val (.int .i64 0)] 26, .var (blk p2) [.val (.slice none 0 0), .val (.bool false), .val (.int .i64 0)] 30, .var (blk (vn w4 0)) [.val (vn w4 1)] 123, .row (vn w4 1) (List.map byteD x3.2.2) 1 5, .var (blk p5) [(eOP x3.1.fRows.fRoot), .val (.bool x3.1.fTail), .val (.int .i64 x3.1.fEnd)] 26, .var (blk p7) [.sl 3 (List.map e_ref08_Row x6.1.fRows), .val (.bool x6.1.fTail), .val (.int .i64 x6.1.fEnd)] 30]) (o1 := fun x => [.var (blk p1) [(eOP x3.1.fRows.fRoot), .val (.bool x3.1.fTail), .val (.int .i64 x3.1.fEnd)] 26, .var (blk p2) [.val (.slice none 0 0), .val (.bool false), .val (.int .i64 0)] 30, .var (blk (vn w4 0)) [.val (vn w4 1)] 123, .row (vn w4 1) (List.map byteD x3.2.2) 1 5, .var (blk p5) [(eOP x3.1.fRows.fRoot), .val (.bool x3.1.fTail), .val (.int .i64 x3.1.fEnd)] 26, .var (blk p7) [.sl 3 (List.map e_ref08_Row x6.1.fRows), .val (.bool x6.1.fTail), .val (.int .i64 x6.1.fEnd)] 30]) (d := fun x => .dead) (Want.plain rfl) (by first | rfl | simp only [e15, hA.me, cond_true, cond_false, List.cons_append, List.nil_append, List.append_nil]) (fun x => by first | rfl | simp only [ins_self, ins_ne D (show 13 ≠ 15 by decide), upd_self, e15, hA.me, cond_true, cond_false, List.cons_append, List.nil_append, List.append_nil]) (fun x => rfl) (OpR.store 0 rfl rfl rfl rfl rfl rfl rfl rfl)
 refine aC ?_
 refine OpsS.cons' true ?_ (fun _ _ _ _ _ _ _ => rfl) ?_
 · intro D env9 hA
   have e13 : D 13 = true := hA.yes 13 _ rfl rfl
   exact OpS.yes (o0 := [.var (blk p1) [(eOP x3.1.fRows.fRoot), .val (.bool x3.1.fTail), .val (.int .i64 x3.1.fEnd)] 26, .var (blk p2) [.val (.slice none 0 0), .val (.bool false), .val (.int .i64 0)] 30, .var (blk (vn w4 0)) [.val (vn w4 1)] 123, .row (vn w4 1) (List.map byteD x3.2.2) 1 5, .var (blk p5) [(eOP x3.1.fRows.fRoot), .val (.bool x3.1.fTail), .val (.int .i64 x3.1.fEnd)] 26, .var (blk p7) [.sl 3 (List.map e_ref08_Row x6.1.fRows), .val (.bool x6.1.fTail), .val (.int .i64 x6.1.fEnd)] 30]) (o1 := fun x => [.var (blk p1) [(eOP x3.1.fRows.fRoot), .val (.bool x3.1.fTail), .val (.int .i64 x3.1.fEnd)] 26, .var (blk p2) [.sl 3 (List.map e_ref08_Row x6.1.fRows), .val (.bool x6.1.fTail), .val (.int .i64 x6.1.fEnd)] 30, .var (blk (vn w4 0)) [.val (vn w4 1)] 123, .row (vn w4 1) (List.map byteD x3.2.2) 1 5, .var (blk p5) [(eOP x3.1.fRows.fRoot), .val (.bool x3.1.fTail), .val (.int .i64 x3.1.fEnd)] 26, .var (blk p7) [.sl 3 (List.map e_ref08_Row x6.1.fRows), .val (.bool x6.1.fTail), .val (.int .i64 x6.1.fEnd)] 30]) (d := fun x => .dead) (Want.plain rfl) (by first | rfl | simp only [e13, hA.me, cond_true, cond_false, List.cons_append, List.nil_append, List.append_nil]) (fun x => by first | rfl | simp only [ins_self, ins_ne D (show 15 ≠ 13 by decide), upd_self, e13, hA.me, cond_true, cond_false, List.cons_append, List.nil_append, List.append_nil]) (fun x => rfl) (OpR.store 1 rfl rfl rfl rfl rfl rfl rfl rfl)
 refine aC ?_
 exact trivial
theorem law11_Begun_cx1 {a0 : List UInt8} {res : grid_Grid × ref11_Grid × Bool × (List UInt8)} (h0 : law11_Begun a0 = some (Sum.inl res)) : CallF X 4 [.val (.string (bs a0))] [] (fun x => .tup [.agg [(eOP res.1.fRows.fRoot), .val (.bool res.1.fTail), .val (.int .i64 res.1.fEnd)], .val (.pointer (some ⟨(blk (vn x 0)), 0, none⟩)), .agg [.sl 3 (List.map e_ref08_Row res.2.1.fRows), .val (.bool res.2.1.fTail), .val (.int .i64 res.2.1.fEnd)], .val (.bool res.2.2.1)]) (fun x => [.var (blk (vn x 0)) [.val (vn x 1)] 123, .row (vn x 1) (List.map byteD res.2.2.2) 1 5]) := law11_Begun_c h0
theorem law11_Begun_cx2 {a0 : List UInt8} {res : grid_Grid × ref11_Grid} (h0 : law11_Begun a0 = some (Sum.inr res)) : CallF X 4 [.val (.string (bs a0))] [] (fun x => .tup [.agg [(eOP res.1.fRows.fRoot), .val (.bool res.1.fTail), .val (.int .i64 res.1.fEnd)], .val (.pointer none), .agg [.sl 3 (List.map e_ref08_Row res.2.fRows), .val (.bool res.2.fTail), .val (.int .i64 res.2.fEnd)], .val (.bool false)]) (fun x => []) := law11_Begun_c h0
noncomputable def tree_Tree_row_Row_Len (a0 : tree_Tree_damier_row_Row) : Option Int :=
  bnd (some a0.fRoot) fun q1 => match q1 with
    | none =>
      some 0
    | some z2 =>
      bnd (o_tree_Node_damier_row_Row z2) fun x3 =>
      some x3.fN
set_option maxHeartbeats 4000000 in
theorem tree_Tree_row_Row_Len_c {a0 : tree_Tree_damier_row_Row} {res : Int} (h0 : tree_Tree_row_Row_Len a0 = some res) : CallF X 42 [.agg [(eOP a0.fRoot)]] [] (fun x => .val (.int .i64 res)) (fun x => []) := by
 unfold tree_Tree_row_Row_Len at h0
 refine CallF.mkG (X := X) rfl Try.func42 rfl rfl Try.ntmps42 rfl rfl ?_
 refine aS ?_
 refine TL.op1 (OpR.boxImm rfl rfl) rfl ?_
 refine aA rfl rfl ?_
 refine TL.nil ?_
 show T X _ _ _
 refine T.seq ?_
 refine aS ?_
 refine aA rfl rfl ?_
 obtain ⟨q1, hq1, h0⟩ := bnd_some h0
 rcases q1 with _ | z2
 · dsimp only at h0
   refine TL.op1 (OpR.cast (OpR.pure rfl) (congrArg eOP (Option.some.inj hq1))) rfl ?_
   refine TL.op1 (OpR.ptrNil (A := none) rfl rfl rfl) rfl ?_
   refine TL.nil ?_
   show T X _ _ _
   refine T.condT rfl rfl ?_
   refine aS ?_
   refine aA rfl rfl ?_
   refine TL.nil ?_
   show T X _ _ _
   refine T.ret ?_
   obtain rfl := Option.some.inj h0
   exact PostG.retP (ks := []) (Gst.only [2] rfl) undef (ResL.cons (ResV.tmp rfl) ResL.nil) rfl rfl rfl rfl
 dsimp only at h0
 obtain ⟨x3, hx3, h0⟩ := bnd_some h0
 rw [o_tree_Node_damier_row_Row_eq hx3] at hq1
 refine TL.op1 (OpR.cast (OpR.pure rfl) (congrArg eOP (Option.some.inj hq1))) rfl ?_
 refine TL.op1 (OpR.nodNil rfl rfl rfl) rfl ?_
 refine TL.nil ?_
 show T X _ _ _
 refine T.condF rfl rfl ?_
 refine T.skip ?_
 show T X _ _ _
 refine aS ?_
 refine aA rfl rfl ?_
 refine TL.op1 (OpR.cast (OpR.pure rfl) (congrArg eOP (Option.some.inj hq1))) rfl ?_
 iterate 4 refine aA rfl rfl ?_
 refine TL.nil ?_
 show T X _ _ _
 refine T.ret ?_
 obtain rfl := Option.some.inj h0
 exact PostG.retP (ks := []) (Gst.only [2] rfl) undef (ResL.cons (ResV.tmp rfl) ResL.nil) rfl rfl rfl rfl
noncomputable def grid_Grid_Len (a0 : grid_Grid) : Option Int :=
  bnd (tree_Tree_row_Row_Len a0.fRows) fun x1 =>
  some x1
set_option maxHeartbeats 4000000 in
theorem grid_Grid_Len_c {a0 : grid_Grid} {res : Int} (h0 : grid_Grid_Len a0 = some res) : CallF X 16 [.agg [(eOP a0.fRows.fRoot), .val (.bool a0.fTail), .val (.int .i64 a0.fEnd)]] [] (fun x => .val (.int .i64 res)) (fun x => []) := by
 unfold grid_Grid_Len at h0
 refine CallF.mkG (X := X) rfl Try.func16 rfl rfl Try.ntmps16 rfl rfl ?_
 refine aS ?_
 refine TL.op1 (OpR.boxImm rfl rfl) rfl ?_
 refine aA rfl rfl ?_
 refine TL.nil ?_
 show T X _ _ _
 refine aS ?_
 iterate 2 refine aA rfl rfl ?_
 obtain ⟨x1, hx1, h0⟩ := bnd_some h0
 refine TL.op1 (OpR.call0 fn42 (tree_Tree_row_Row_Len_c hx1) rfl) rfl ?_
 refine aA rfl rfl ?_
 refine TL.nil ?_
 show T X _ _ _
 refine T.ret ?_
 obtain rfl := Option.some.inj h0
 exact PostG.retP (ks := []) (Gst.only [2] rfl) undef (ResL.cons (ResV.tmp rfl) ResL.nil) rfl rfl rfl rfl
noncomputable def walk_stretch_row_Row (a0 : tree_Tree_damier_row_Row) (a1 : Int) (a2 : Int) : Option (Int × Int) :=
  bnd (tree_Tree_row_Row_Len a0) fun x1 =>
  bnd (some (if x1 < (if 0 > a1 then 0 else a1) then x1 else (if 0 > a1 then 0 else a1))) fun x2 =>
  bnd (tree_Tree_row_Row_Len a0) fun x3 =>
  bnd (some (if x3 < (if x2 > a2 then x2 else a2) then x3 else (if x2 > a2 then x2 else a2))) fun x4 =>
  some (x2, x4)
set_option maxHeartbeats 4000000 in
theorem walk_stretch_row_Row_c {a0 : tree_Tree_damier_row_Row} {a1 : Int} {a2 : Int} {res : Int × Int} (h0 : walk_stretch_row_Row a0 a1 a2 = some res) : CallF X 43 [.agg [(eOP a0.fRoot)], .val (.int .i64 a1), .val (.int .i64 a2)] [] (fun x => .tup [.val (.int .i64 res.1), .val (.int .i64 res.2)]) (fun x => []) := by
 unfold walk_stretch_row_Row at h0
 refine CallF.mkG (X := X) rfl Try.func43 rfl rfl Try.ntmps43 rfl rfl ?_
 refine aS ?_
 refine TL.op1 (OpR.boxImm rfl rfl) rfl ?_
 iterate 2 refine aA rfl rfl ?_
 refine TL.nil ?_
 show T X _ _ _
 refine aS ?_
 iterate 3 refine aA rfl rfl ?_
 obtain ⟨x1, hx1, h0⟩ := bnd_some h0
 refine TL.op1 (OpR.call0 fn42 (tree_Tree_row_Row_Len_c hx1) rfl) rfl ?_
 obtain ⟨x2, hx2, h0⟩ := bnd_some h0
 refine TL.op1 (OpR.cast (OpR.pure rfl) (intE (Option.some.inj hx2))) rfl ?_
 refine aA rfl rfl ?_
 refine TL.nil ?_
 show T X _ _ _
 refine aS ?_
 iterate 5 refine aA rfl rfl ?_
 obtain ⟨x3, hx3, h0⟩ := bnd_some h0
 refine TL.op1 (OpR.call0 fn42 (tree_Tree_row_Row_Len_c hx3) rfl) rfl ?_
 obtain ⟨x4, hx4, h0⟩ := bnd_some h0
 refine TL.op1 (OpR.cast (OpR.pure rfl) (intE (Option.some.inj hx4))) rfl ?_
 iterate 2 refine aA rfl rfl ?_
 refine TL.nil ?_
 show T X _ _ _
 refine T.ret ?_
 obtain rfl := Option.some.inj h0
 exact PostG.retP (ks := []) (Gst.only [6, 7] rfl) undef (ResL.cons (ResV.tmp rfl) (ResL.cons (ResV.tmp rfl) ResL.nil)) rfl rfl rfl rfl
noncomputable def walk_Range_row_Row (a0 : tree_Tree_damier_row_Row) (a1 : Int) (a2 : Int) : Option (Int × Int × (Option NP)) :=
  bnd (walk_stretch_row_Row a0 a1 a2) fun x4 =>
  some (x4.1, x4.2, a0.fRoot)
set_option maxHeartbeats 4000000 in
theorem walk_Range_row_Row_c {a0 : tree_Tree_damier_row_Row} {a1 : Int} {a2 : Int} {res : Int × Int × (Option NP)} (h0 : walk_Range_row_Row a0 a1 a2 = some res) : CallF X 17 [.agg [(eOP a0.fRoot)], .val (.int .i64 a1), .val (.int .i64 a2)] [] (fun x => .fn (.func 44) [] [.val (.pointer (some ⟨(blk (vn x 0)), 0, none⟩)), .val (.pointer (some ⟨(blk (vn x 1)), 0, none⟩)), .val (.pointer (some ⟨(blk (vn x 2)), 0, none⟩))]) (fun x => [.var (blk (vn x 0)) [.val (.int .i64 res.1)] 3, .var (blk (vn x 1)) [.val (.int .i64 res.2.1)] 3, .var (blk (vn x 2)) [(eOP res.2.2)] 24]) := by
 unfold walk_Range_row_Row at h0
 refine CallF.mkG (X := X) rfl Try.func17 rfl rfl Try.ntmps17 rfl rfl ?_
 refine aS ?_
 refine TL.op (OpR.boxVar rfl rfl (fun _ => rfl)) rfl (fun p1 => ?_)
 refine TL.op (OpR.boxVar rfl rfl (fun _ => rfl)) rfl (fun p2 => ?_)
 refine TL.op (OpR.boxVar rfl rfl (fun _ => rfl)) rfl (fun p3 => ?_)
 refine aA rfl rfl ?_
 refine TL.nil ?_
 show T X _ _ _
 refine aS ?_
 refine TL.op1 (OpR.loadPtr 0 rfl rfl rfl rfl) rfl ?_
 refine TL.op1 (OpR.loadPtr 1 rfl rfl rfl rfl) rfl ?_
 refine TL.op1 (OpR.loadPtr 2 rfl rfl rfl rfl) rfl ?_
 obtain ⟨x4, hx4, h0⟩ := bnd_some h0
 refine TL.op1 (OpR.call0 fn43 (walk_stretch_row_Row_c hx4) rfl) rfl ?_
 iterate 3 refine aA rfl rfl ?_
 refine TL.op0 (OpR.store 1 rfl rfl rfl rfl rfl rfl rfl rfl) ?_
 refine TL.op0 (OpR.store 2 rfl rfl rfl rfl rfl rfl rfl rfl) ?_
 refine TL.nil ?_
 show T X _ _ _
 refine aS ?_
 iterate 2 refine aA rfl rfl ?_
 refine TL.nil ?_
 show T X _ _ _
 refine T.ret ?_
 obtain rfl := Option.some.inj h0
 exact PostG.retP (ks := [0, 1, 2]) (Gst.trans (Gst.only [6] rfl) (Gst.pick [1, 2, 0] rfl rfl)) (.tuple #[p2, p3, p1]) (ResL.cons (ResV.tmp rfl) ResL.nil) rfl rfl rfl rfl
noncomputable def tree_Tree_row_Row_Root (a0 : tree_Tree_damier_row_Row) : Option (Unit ⊕ ((List NP) × (List row_Row) × Int)) :=
  bnd (some a0.fRoot) fun q1 => match q1 with
    | none =>
      some (Sum.inl ())
    | some z2 =>
      bnd (o_tree_Node_damier_row_Row z2) fun x3 =>
      some (Sum.inr (x3.fKids, x3.fItems, x3.fN))
set_option maxHeartbeats 4000000 in
theorem tree_Tree_row_Row_Root_c {a0 : tree_Tree_damier_row_Row} {res : Unit ⊕ ((List NP) × (List row_Row) × Int)} (h0 : tree_Tree_row_Row_Root a0 = some res) : CallF X 46 [.agg [(eOP a0.fRoot)]] [] (fun x => (match res with | .inl res => .val (.pointer none) | .inr res => .nod [.sl 1 (List.map eNP res.1), .sl 3 (List.map e_row_Row res.2.1), .val (.int .i64 res.2.2)])) (fun x => (match res with | .inl res => [] | .inr res => [])) := by
 unfold tree_Tree_row_Row_Root at h0
 refine CallF.mkG (X := X) rfl Try.func46 rfl rfl Try.ntmps46 rfl rfl ?_
 refine aS ?_
 refine TL.op1 (OpR.boxImm rfl rfl) rfl ?_
 refine aA rfl rfl ?_
 refine TL.nil ?_
 show T X _ _ _
 refine aS ?_
 refine aA rfl rfl ?_
 obtain ⟨q1, hq1, h0⟩ := bnd_some h0
 rcases q1 with _ | z2
 · dsimp only at h0
   refine TL.op1 (OpR.cast (OpR.pure rfl) (congrArg eOP (Option.some.inj hq1))) rfl ?_
   refine aA rfl rfl ?_
   refine TL.nil ?_
   show T X _ _ _
   refine T.ret ?_
   obtain rfl := Option.some.inj h0
   exact PostG.retP (ks := []) (Gst.only [2] rfl) undef (ResL.cons (ResV.tmp rfl) ResL.nil) rfl rfl rfl rfl
 dsimp only at h0
 obtain ⟨x3, hx3, h0⟩ := bnd_some h0
 rw [o_tree_Node_damier_row_Row_eq hx3] at hq1
 refine TL.op1 (OpR.cast (OpR.pure rfl) (congrArg eOP (Option.some.inj hq1))) rfl ?_
 refine aA rfl rfl ?_
 refine TL.nil ?_
 show T X _ _ _
 refine T.ret ?_
 obtain rfl := Option.some.inj h0
 exact PostG.retP (ks := []) (Gst.only [2] rfl) undef (ResL.cons (ResV.tmp rfl) ResL.nil) rfl rfl rfl rfl
theorem tree_Tree_row_Row_Root_cx1 {a0 : tree_Tree_damier_row_Row} {res : Unit} (h0 : tree_Tree_row_Row_Root a0 = some (Sum.inl res)) : CallF X 46 [.agg [(eOP a0.fRoot)]] [] (fun x => .val (.pointer none)) (fun x => []) := tree_Tree_row_Row_Root_c h0
theorem tree_Tree_row_Row_Root_cx2 {a0 : tree_Tree_damier_row_Row} {res : (List NP) × (List row_Row) × Int} (h0 : tree_Tree_row_Row_Root a0 = some (Sum.inr res)) : CallF X 46 [.agg [(eOP a0.fRoot)]] [] (fun x => .nod [.sl 1 (List.map eNP res.1), .sl 3 (List.map e_row_Row res.2.1), .val (.int .i64 res.2.2)]) (fun x => []) := tree_Tree_row_Row_Root_c h0
noncomputable def walk_stack_row_Row_down.l1 (a4 : Int) (s4 : (List NP) × (List row_Row) × Int × Int × (List walk_frame_damier_row_Row)) (s14 : Int × Int) : Option (Lp (Int × Int) (Int × Int)) :=
  bnd (if s14.2 < (w64 ((s4.1.length : Int) - 1)) then
    bnd (idx s4.1 s14.2) fun x24 =>
    bnd (o_tree_Node_damier_row_Row x24) fun x25 =>
    some (decide (a4 ≥ (w64 (s14.1 + x25.fN))))
  else
    some false : Option Bool) fun t22 =>
  if t22 = true then
    bnd (idx s4.1 s14.2) fun x27 =>
    bnd (o_tree_Node_damier_row_Row x27) fun x28 =>
    some (Lp.next (w64 (s14.1 + x28.fN), w64 (s14.2 + 1)))
  else
    some (Lp.done (s14.1, s14.2))
noncomputable def walk_stack_row_Row_down.l2 (a4 : Int) (s4 : (List NP) × (List row_Row) × Int × Int × (List walk_frame_damier_row_Row)) : Option (Lp ((List NP) × (List row_Row) × Int × Int × (List walk_frame_damier_row_Row)) ((List NP) × (List row_Row) × Int × Int × (List walk_frame_damier_row_Row))) :=
  if (s4.1.length : Int) > 0 then
    bnd (loop (walk_stack_row_Row_down.l1 a4 s4) (s4.2.2.2.1, 0) : Option (Int × Int)) fun t13 =>
    bnd (app 24 s4.2.2.2.2 [(⟨(some (c_tree_Node_damier_row_Row (⟨s4.1, s4.2.1, s4.2.2.1⟩ : tree_Node_damier_row_Row))), t13.1, t13.2⟩ : walk_frame_damier_row_Row)]) fun x29 =>
    bnd (idx s4.1 t13.2) fun x31 =>
    bnd (o_tree_Node_damier_row_Row x31) fun x32 =>
    some (Lp.next (x32.fKids, x32.fItems, x32.fN, t13.1, x29))
  else
    some (Lp.done (s4.1, s4.2.1, s4.2.2.1, s4.2.2.2.1, s4.2.2.2.2))
noncomputable def walk_stack_row_Row_down (a0 : List NP) (a1 : List row_Row) (a2 : Int) (a3 : Int) (a4 : Int) : Option (List walk_frame_damier_row_Row) :=
  bnd (loop (walk_stack_row_Row_down.l2 a4) (a0, a1, a2, a3, []) : Option ((List NP) × (List row_Row) × Int × Int × (List walk_frame_damier_row_Row))) fun t1 =>
  bnd (app 24 t1.2.2.2.2 [(⟨(some (c_tree_Node_damier_row_Row (⟨t1.1, t1.2.1, t1.2.2.1⟩ : tree_Node_damier_row_Row))), t1.2.2.2.1, w64 (a4 - t1.2.2.2.1)⟩ : walk_frame_damier_row_Row)]) fun x33 =>
  some x33
set_option maxHeartbeats 4000000 in
theorem walk_stack_row_Row_down_c {a0 : List NP} {a1 : List row_Row} {a2 : Int} {a3 : Int} {a4 : Int} {b0 : Nat} {res : (List walk_frame_damier_row_Row)} (h0 : walk_stack_row_Row_down a0 a1 a2 a3 a4 = some res) : CallF X 45 [.val (.pointer (some ⟨b0, 0, none⟩)), .nod [.sl 1 (List.map eNP a0), .sl 3 (List.map e_row_Row a1), .val (.int .i64 a2)], .val (.int .i64 a3), .val (.int .i64 a4)] [.var b0 [.val (.slice none 0 0)] 111] (fun x => .tup []) (fun x => [.var b0 [.val (vn x 0)] 111, .row (vn x 0) (List.map e_walk_frame_damier_row_Row res) 3 117]) := by
 unfold walk_stack_row_Row_down at h0
 refine CallF.mkG (X := X) rfl Try.func45 rfl rfl Try.ntmps45 rfl rfl ?_
 refine T.seq ?_
 obtain ⟨t1, ht1, h0⟩ := bnd_some h0
 refine T.cutC (fun S' => ∃ y2 : Value, S' = ⟨[(3, .val (.int .i64 a4)), (2, .val (.int .i64 t1.2.2.2.1)), (1, .nod [.sl 1 (List.map eNP t1.1), .sl 3 (List.map e_row_Row t1.2.1), .val (.int .i64 t1.2.2.1)]), (0, .val (.pointer (some ⟨b0, 0, none⟩)))], [.var b0 [.val y2] 111, .row y2 (List.map e_walk_frame_damier_row_Row t1.2.2.2.2) 3 117], 88⟩) (fun _ h => h) ?_ ?_
 rotate_left
 · rintro _ ⟨y2, rfl⟩
   show T X _ _ _
   refine T.region ?_
   iterate 4 refine aA rfl rfl ?_
   refine TL.op1 (OpR.loadPtr 0 rfl rfl rfl rfl) rfl ?_
   iterate 5 refine aA rfl rfl ?_
   refine TL.op1 (OpR.build rfl rfl rfl rfl rfl) rfl ?_
   refine TL.op1 (OpR.lit rfl rfl rfl rfl rfl rfl rfl) rfl ?_
   obtain ⟨x33, hx33, h0⟩ := bnd_some h0
   refine TL.op (OpR.appendM (m := [(⟨(some (c_tree_Node_damier_row_Row (⟨t1.1, t1.2.1, t1.2.2.1⟩ : tree_Node_damier_row_Row))), t1.2.2.2.1, w64 (a4 - t1.2.2.2.1)⟩ : walk_frame_damier_row_Row)]) e_walk_frame_damier_row_Row 1 hx33 rfl rfl rfl rfl rfl rfl rfl rfl rfl (fun _ => rfl)) rfl (fun v34 => ?_)
   iterate 2 refine aA rfl rfl ?_
   refine TL.op0 (OpR.store 0 rfl rfl rfl rfl rfl rfl rfl rfl) ?_
   refine TL.nil ?_
   obtain rfl := Option.some.inj h0
   exact PostG.finP (ks := [0, 1]) (Gst.only [] rfl) (.tuple #[v34]) ResL.nil rfl rfl rfl rfl
 refine T.block ?_
 obtain ⟨n5, n10⟩ := loop_some ht1
 refine T.loop (fun n S' => ∃ S'', Gst S' S'' ∧ ∃ y3 : Value, ∃ s4 : (List NP) × (List row_Row) × Int × Int × (List walk_frame_damier_row_Row), S'' = ⟨[(3, .val (.int .i64 a4)), (2, .val (.int .i64 s4.2.2.2.1)), (1, .nod [.sl 1 (List.map eNP s4.1), .sl 3 (List.map e_row_Row s4.2.1), .val (.int .i64 s4.2.2.1)]), (0, .val (.pointer (some ⟨b0, 0, none⟩)))], [.var b0 [.val y3] 111, .row y3 (List.map e_walk_frame_damier_row_Row s4.2.2.2.2) 3 117], 88⟩ ∧ iter (walk_stack_row_Row_down.l2 a4) n s4 = some t1) n5 ?_ ?_
 · exact ⟨_, Gst.trans (Gst.only [0, 1, 2, 3] rfl) (Gst.nilRow (ow := [.var b0 [.val (.slice none 0 0)] 111]) 3 117 rfl), (.slice none 0 0), (a0, a1, a2, a3, []), rfl, n10⟩
 rintro n5 _ ⟨_, g, y3, s4, rfl, i9⟩
 refine T.ghost g ?_
 obtain ⟨m6, q7, rfl, q8, i9⟩ := iter_succ i9
 unfold walk_stack_row_Row_down.l2 at q8
 refine T.seq ?_
 refine aS ?_
 iterate 4 refine aA rfl rfl ?_
 refine TL.op1 (OpR.cast (OpR.pure rfl) (intE (lenM _ _))) rfl ?_
 refine aA rfl rfl ?_
 refine TL.nil ?_
 show T X _ _ _
 rcases ite_some q8 with ⟨c12, q8⟩ | ⟨c12, q8⟩
 rotate_left
 · refine T.condF rfl (decide_eq_false c12) ?_
   refine T.exit ?_
   obtain rfl := Option.some.inj q8
   obtain rfl : _ = _ := i9
   exact ⟨_, Gst.only [0, 1, 2, 3] rfl, y3, rfl⟩
 refine T.condT rfl (decide_eq_true c12) ?_
 refine T.skip ?_
 show T X _ _ _
 refine T.block ?_
 refine aS ?_
 refine aA rfl rfl ?_
 refine TL.nil ?_
 show T X _ _ _
 refine T.seq ?_
 obtain ⟨t13, ht13, q8⟩ := bnd_some q8
 refine T.cutC (fun S' => S' = ⟨[(8, .val (.int .i64 t13.2)), (3, .val (.int .i64 a4)), (2, .val (.int .i64 t13.1)), (1, .nod [.sl 1 (List.map eNP s4.1), .sl 3 (List.map e_row_Row s4.2.1), .val (.int .i64 s4.2.2.1)]), (0, .val (.pointer (some ⟨b0, 0, none⟩)))], [.var b0 [.val y3] 111, .row y3 (List.map e_walk_frame_damier_row_Row s4.2.2.2.2) 3 117], 88⟩) (fun _ h => h) ?_ ?_
 rotate_left
 · rintro _ rfl
   show T X _ _ _
   refine aS ?_
   iterate 4 refine aA rfl rfl ?_
   refine TL.op1 (OpR.loadPtr 0 rfl rfl rfl rfl) rfl ?_
   iterate 3 refine aA rfl rfl ?_
   refine TL.op1 (OpR.build rfl rfl rfl rfl rfl) rfl ?_
   refine TL.op1 (OpR.lit rfl rfl rfl rfl rfl rfl rfl) rfl ?_
   obtain ⟨x29, hx29, q8⟩ := bnd_some q8
   refine TL.op (OpR.appendM (m := [(⟨(some (c_tree_Node_damier_row_Row (⟨s4.1, s4.2.1, s4.2.2.1⟩ : tree_Node_damier_row_Row))), t13.1, t13.2⟩ : walk_frame_damier_row_Row)]) e_walk_frame_damier_row_Row 1 hx29 rfl rfl rfl rfl rfl rfl rfl rfl rfl (fun _ => rfl)) rfl (fun v30 => ?_)
   iterate 2 refine aA rfl rfl ?_
   refine TL.op0 (OpR.store 0 rfl rfl rfl rfl rfl rfl rfl rfl) ?_
   refine TL.nil ?_
   show T X _ _ _
   refine T.region ?_
   iterate 5 refine aA rfl rfl ?_
   obtain ⟨x31, hx31, q8⟩ := bnd_some q8
   obtain ⟨x32, hx32, q8⟩ := bnd_some q8
   rw [o_tree_Node_damier_row_Row_eq hx32] at hx31
   refine TL.op1 (OpR.indexM eNP hx31 rfl rfl rfl rfl rfl) rfl ?_
   iterate 2 refine aA rfl rfl ?_
   refine TL.nil ?_
   obtain rfl := Option.some.inj q8
   exact ⟨m6, Nat.lt_succ_self _, _, Gst.only [0, 1, 2, 3] rfl, v30, (x32.fKids, x32.fItems, x32.fN, t13.1, x29), rfl, i9⟩
 refine T.block ?_
 obtain ⟨n15, n20⟩ := loop_some ht13
 refine T.loop (fun n S' => ∃ S'', Gst S' S'' ∧ ∃ s14 : Int × Int, S'' = ⟨[(8, .val (.int .i64 s14.2)), (3, .val (.int .i64 a4)), (2, .val (.int .i64 s14.1)), (1, .nod [.sl 1 (List.map eNP s4.1), .sl 3 (List.map e_row_Row s4.2.1), .val (.int .i64 s4.2.2.1)]), (0, .val (.pointer (some ⟨b0, 0, none⟩)))], [.var b0 [.val y3] 111, .row y3 (List.map e_walk_frame_damier_row_Row s4.2.2.2.2) 3 117], 88⟩ ∧ iter (walk_stack_row_Row_down.l1 a4 s4) n s14 = some t13) n15 ?_ ?_
 · exact ⟨_, Gst.only [0, 1, 2, 3, 8] rfl, (s4.2.2.2.1, 0), rfl, n20⟩
 rintro n15 _ ⟨_, g, s14, rfl, i19⟩
 refine T.ghost g ?_
 obtain ⟨m16, q17, rfl, q18, i19⟩ := iter_succ i19
 unfold walk_stack_row_Row_down.l1 at q18
 refine T.seq ?_
 refine T.seq ?_
 obtain ⟨t22, ht22, q18⟩ := bnd_some q18
 refine T.cutC (fun S' => S' = ⟨[(38, .val (.bool t22)), (8, .val (.int .i64 s14.2)), (3, .val (.int .i64 a4)), (2, .val (.int .i64 s14.1)), (1, .nod [.sl 1 (List.map eNP s4.1), .sl 3 (List.map e_row_Row s4.2.1), .val (.int .i64 s4.2.2.1)]), (0, .val (.pointer (some ⟨b0, 0, none⟩)))], [.var b0 [.val y3] 111, .row y3 (List.map e_walk_frame_damier_row_Row s4.2.2.2.2) 3 117], 88⟩) (fun _ h => h) ?_ ?_
 rotate_left
 · rintro _ rfl
   show T X _ _ _
   rcases ite_some q18 with ⟨c26, q18⟩ | ⟨c26, q18⟩
   rotate_left
   · refine T.condF rfl (eq_false_of_ne_true c26) ?_
     refine T.exit ?_
     obtain rfl := Option.some.inj q18
     obtain rfl : _ = _ := i19
     exact ⟨_, Gst.only [0, 1, 2, 3, 8] rfl, rfl⟩
   refine T.condT rfl (c26) ?_
   refine T.skip ?_
   show T X _ _ _
   refine T.block ?_
   refine aS ?_
   iterate 6 refine aA rfl rfl ?_
   obtain ⟨x27, hx27, q18⟩ := bnd_some q18
   obtain ⟨x28, hx28, q18⟩ := bnd_some q18
   rw [o_tree_Node_damier_row_Row_eq hx28] at hx27
   refine TL.op1 (OpR.indexM eNP hx27 rfl rfl rfl rfl rfl) rfl ?_
   iterate 6 refine aA rfl rfl ?_
   refine TL.nil ?_
   show T X _ _ _
   refine T.region ?_
   iterate 3 refine aA rfl rfl ?_
   refine TL.nil ?_
   obtain rfl := Option.some.inj q18
   exact ⟨m16, Nat.lt_succ_self _, _, Gst.only [0, 1, 2, 3, 8] rfl, (w64 (s14.1 + x28.fN), w64 (s14.2 + 1)), rfl, i19⟩
 refine T.region ?_
 iterate 5 refine aA rfl rfl ?_
 refine TL.op1 (OpR.cast (OpR.pure rfl) (intE (lenM _ _))) rfl ?_
 iterate 3 refine aA rfl rfl ?_
 rcases ite_some ht22 with ⟨c23, ht22⟩ | ⟨c23, ht22⟩
 rotate_left
 · refine TL.off rfl rfl rfl rfl (decide_eq_false c23) rfl rfl ?_
   refine TL.off rfl rfl rfl rfl (decide_eq_false c23) rfl rfl ?_
   refine TL.off rfl rfl rfl rfl (decide_eq_false c23) rfl rfl ?_
   refine TL.off rfl rfl rfl rfl (decide_eq_false c23) rfl rfl ?_
   refine TL.off rfl rfl rfl rfl (decide_eq_false c23) rfl rfl ?_
   refine TL.off rfl rfl rfl rfl (decide_eq_false c23) rfl rfl ?_
   refine TL.off rfl rfl rfl rfl (decide_eq_false c23) rfl rfl ?_
   refine TL.off rfl rfl rfl rfl (decide_eq_false c23) rfl rfl ?_
   refine TL.off rfl rfl rfl rfl (decide_eq_false c23) rfl rfl ?_
   refine TL.off rfl rfl rfl rfl (decide_eq_false c23) rfl rfl ?_
   refine TL.off rfl rfl rfl rfl (decide_eq_false c23) rfl rfl ?_
   refine TL.off rfl rfl rfl rfl (decide_eq_false c23) rfl rfl ?_
   refine TL.off rfl rfl rfl rfl (decide_eq_false c23) rfl rfl ?_
   refine TL.off rfl rfl rfl rfl (decide_eq_false c23) rfl rfl ?_
   refine TL.op1 (OpR.pickF rfl (decide_eq_false c23) rfl) rfl ?_
   refine TL.nil ?_
   obtain rfl := Option.some.inj ht22
   exact ⟨_, Gst.only [0, 1, 2, 3, 8, 38] rfl, rfl⟩
 refine TL.on rfl rfl rfl rfl (decide_eq_true c23) ?_
 refine aA rfl rfl ?_
 refine TL.on rfl rfl rfl rfl (decide_eq_true c23) ?_
 refine aA rfl rfl ?_
 refine TL.on rfl rfl rfl rfl (decide_eq_true c23) ?_
 refine aA rfl rfl ?_
 refine TL.on rfl rfl rfl rfl (decide_eq_true c23) ?_
 refine aA rfl rfl ?_
 refine TL.on rfl rfl rfl rfl (decide_eq_true c23) ?_
 refine aA rfl rfl ?_
 refine TL.on rfl rfl rfl rfl (decide_eq_true c23) ?_
 refine aA rfl rfl ?_
 refine TL.on rfl rfl rfl rfl (decide_eq_true c23) ?_
 refine aA rfl rfl ?_
 refine TL.on rfl rfl rfl rfl (decide_eq_true c23) ?_
 obtain ⟨x24, hx24, ht22⟩ := bnd_some ht22
 obtain ⟨x25, hx25, ht22⟩ := bnd_some ht22
 rw [o_tree_Node_damier_row_Row_eq hx25] at hx24
 refine TL.op1 (OpR.indexM eNP hx24 rfl rfl rfl rfl rfl) rfl ?_
 refine TL.on rfl rfl rfl rfl (decide_eq_true c23) ?_
 refine aA rfl rfl ?_
 refine TL.on rfl rfl rfl rfl (decide_eq_true c23) ?_
 refine aA rfl rfl ?_
 refine TL.on rfl rfl rfl rfl (decide_eq_true c23) ?_
 refine aA rfl rfl ?_
 refine TL.on rfl rfl rfl rfl (decide_eq_true c23) ?_
 refine aA rfl rfl ?_
 refine TL.on rfl rfl rfl rfl (decide_eq_true c23) ?_
 refine aA rfl rfl ?_
 refine TL.on rfl rfl rfl rfl (decide_eq_true c23) ?_
 refine aA rfl rfl ?_
 refine TL.op1 (OpR.pickT rfl (decide_eq_true c23) rfl) rfl ?_
 refine TL.nil ?_
 obtain rfl := Option.some.inj ht22
 exact ⟨_, Gst.only [0, 1, 2, 3, 8, 38] rfl, rfl⟩
noncomputable def walk_stack_row_Row_top (a0 : List walk_frame_damier_row_Row) : Option Int :=
  bnd (idx a0 (w64 ((a0.length : Int) - 1))) fun x2 =>
  some (w64 ((a0.length : Int) - 1))
set_option maxHeartbeats 4000000 in
theorem walk_stack_row_Row_top_c {a0 : List walk_frame_damier_row_Row} {b0 : Nat} {v1 : Value} {res : Int} (h0 : walk_stack_row_Row_top a0 = some res) : CallF X 47 [.val (.pointer (some ⟨b0, 0, none⟩))] [.var b0 [.val v1] 111, .row v1 (List.map e_walk_frame_damier_row_Row a0) 3 117] (fun x => .val (.pointer (some ⟨blk v1, res.toNat * 3, none⟩))) (fun x => [.var b0 [.val v1] 111, .row v1 (List.map e_walk_frame_damier_row_Row a0) 3 117]) := by
 unfold walk_stack_row_Row_top at h0
 refine CallF.mkG (X := X) rfl Try.func47 rfl rfl Try.ntmps47 rfl rfl ?_
 refine aS ?_
 refine aA rfl rfl ?_
 refine TL.nil ?_
 show T X _ _ _
 refine T.seq ?_
 obtain ⟨x2, hx2, h0⟩ := bnd_some h0
 refine T.drawQ drawsX [.val (.pointer (some ⟨b0, 0, none⟩)), .val (.pointer (some ⟨b0, 0, none⟩)), .val (.pointer (some ⟨b0, 0, none⟩)), .val v1, .val (.pointer (some ⟨b0, 0, none⟩)), .val (.pointer (some ⟨b0, 0, none⟩)), .val (.pointer (some ⟨b0, 0, none⟩)), .val v1, .val (.int .i64 (a0.length : Int)), .val (.int .i64 (w64 ((a0.length : Int) - 1))), .val (.pointer (some ⟨blk v1, (w64 ((a0.length : Int) - 1)).toNat * 3, none⟩)), .val (.pointer (some ⟨blk v1, (w64 ((a0.length : Int) - 1)).toNat * 3, none⟩))] [2] (by decide +kernel) rfl ?_ rfl ?_
 rotate_left
 · show T X _ _ _
   refine T.ret ?_
   obtain rfl := Option.some.inj h0
   exact PostG.retP (ks := [0, 1]) (Gst.only [2] rfl) undef (ResL.cons (ResV.tmp rfl) ResL.nil) rfl rfl rfl rfl
 iterate 3 refine aB rfl rfl rfl ?_
 refine OpsQ.yes (Want.plain rfl) rfl (OpR.loadPtr 0 rfl rfl rfl rfl) ?_
 iterate 3 refine aB rfl rfl rfl ?_
 refine OpsQ.yes (Want.plain rfl) rfl (OpR.loadPtr 0 rfl rfl rfl rfl) ?_
 refine OpsQ.yes (Want.plain rfl) rfl (OpR.rowLenM e_walk_frame_damier_row_Row 1 rfl rfl rfl rfl) ?_
 refine aB rfl rfl rfl ?_
 refine OpsQ.yes (Want.plain rfl) rfl (OpR.rowIndexM e_walk_frame_damier_row_Row 1 hx2 rfl rfl rfl rfl rfl rfl rfl) ?_
 refine aB rfl rfl rfl ?_
 exact OpsQ.nil
noncomputable def walk_stack_row_Row_down_2.l1 (a4 : Int) (s4 : (List NP) × (List row_Row) × Int × Int × (List walk_frame_damier_row_Row)) (s14 : Int × Int) : Option (Lp (Int × Int) (Int × Int)) :=
  bnd (if s14.2 < (w64 ((s4.1.length : Int) - 1)) then
    bnd (idx s4.1 s14.2) fun x24 =>
    bnd (o_tree_Node_damier_row_Row x24) fun x25 =>
    some (decide (a4 ≥ (w64 (s14.1 + x25.fN))))
  else
    some false : Option Bool) fun t22 =>
  if t22 = true then
    bnd (idx s4.1 s14.2) fun x27 =>
    bnd (o_tree_Node_damier_row_Row x27) fun x28 =>
    some (Lp.next (w64 (s14.1 + x28.fN), w64 (s14.2 + 1)))
  else
    some (Lp.done (s14.1, s14.2))
noncomputable def walk_stack_row_Row_down_2.l2 (a4 : Int) (s4 : (List NP) × (List row_Row) × Int × Int × (List walk_frame_damier_row_Row)) : Option (Lp ((List NP) × (List row_Row) × Int × Int × (List walk_frame_damier_row_Row)) ((List NP) × (List row_Row) × Int × Int × (List walk_frame_damier_row_Row))) :=
  if (s4.1.length : Int) > 0 then
    bnd (loop (walk_stack_row_Row_down_2.l1 a4 s4) (s4.2.2.2.1, 0) : Option (Int × Int)) fun t13 =>
    bnd (app 24 s4.2.2.2.2 [(⟨(some (c_tree_Node_damier_row_Row (⟨s4.1, s4.2.1, s4.2.2.1⟩ : tree_Node_damier_row_Row))), t13.1, t13.2⟩ : walk_frame_damier_row_Row)]) fun x29 =>
    bnd (idx s4.1 t13.2) fun x31 =>
    bnd (o_tree_Node_damier_row_Row x31) fun x32 =>
    some (Lp.next (x32.fKids, x32.fItems, x32.fN, t13.1, x29))
  else
    some (Lp.done (s4.1, s4.2.1, s4.2.2.1, s4.2.2.2.1, s4.2.2.2.2))
noncomputable def walk_stack_row_Row_down_2 (a0 : List NP) (a1 : List row_Row) (a2 : Int) (a3 : Int) (a4 : Int) (a5 : List walk_frame_damier_row_Row) : Option (List walk_frame_damier_row_Row) :=
  bnd (loop (walk_stack_row_Row_down_2.l2 a4) (a0, a1, a2, a3, a5) : Option ((List NP) × (List row_Row) × Int × Int × (List walk_frame_damier_row_Row))) fun t1 =>
  bnd (app 24 t1.2.2.2.2 [(⟨(some (c_tree_Node_damier_row_Row (⟨t1.1, t1.2.1, t1.2.2.1⟩ : tree_Node_damier_row_Row))), t1.2.2.2.1, w64 (a4 - t1.2.2.2.1)⟩ : walk_frame_damier_row_Row)]) fun x33 =>
  some x33
set_option maxHeartbeats 4000000 in
theorem walk_stack_row_Row_down_2_c {a0 : List NP} {a1 : List row_Row} {a2 : Int} {a3 : Int} {a4 : Int} {a5 : List walk_frame_damier_row_Row} {b0 : Nat} {v1 : Value} {res : (List walk_frame_damier_row_Row)} (h0 : walk_stack_row_Row_down_2 a0 a1 a2 a3 a4 a5 = some res) : CallF X 45 [.val (.pointer (some ⟨b0, 0, none⟩)), .nod [.sl 1 (List.map eNP a0), .sl 3 (List.map e_row_Row a1), .val (.int .i64 a2)], .val (.int .i64 a3), .val (.int .i64 a4)] [.var b0 [.val v1] 111, .row v1 (List.map e_walk_frame_damier_row_Row a5) 3 117] (fun x => .tup []) (fun x => [.var b0 [.val (vn x 0)] 111, .row (vn x 0) (List.map e_walk_frame_damier_row_Row res) 3 117]) := by
 unfold walk_stack_row_Row_down_2 at h0
 refine CallF.mkG (X := X) rfl Try.func45 rfl rfl Try.ntmps45 rfl rfl ?_
 refine T.seq ?_
 obtain ⟨t1, ht1, h0⟩ := bnd_some h0
 refine T.cutC (fun S' => ∃ y2 : Value, S' = ⟨[(3, .val (.int .i64 a4)), (2, .val (.int .i64 t1.2.2.2.1)), (1, .nod [.sl 1 (List.map eNP t1.1), .sl 3 (List.map e_row_Row t1.2.1), .val (.int .i64 t1.2.2.1)]), (0, .val (.pointer (some ⟨b0, 0, none⟩)))], [.var b0 [.val y2] 111, .row y2 (List.map e_walk_frame_damier_row_Row t1.2.2.2.2) 3 117], 88⟩) (fun _ h => h) ?_ ?_
 rotate_left
 · rintro _ ⟨y2, rfl⟩
   show T X _ _ _
   refine T.region ?_
   iterate 4 refine aA rfl rfl ?_
   refine TL.op1 (OpR.loadPtr 0 rfl rfl rfl rfl) rfl ?_
   iterate 5 refine aA rfl rfl ?_
   refine TL.op1 (OpR.build rfl rfl rfl rfl rfl) rfl ?_
   refine TL.op1 (OpR.lit rfl rfl rfl rfl rfl rfl rfl) rfl ?_
   obtain ⟨x33, hx33, h0⟩ := bnd_some h0
   refine TL.op (OpR.appendM (m := [(⟨(some (c_tree_Node_damier_row_Row (⟨t1.1, t1.2.1, t1.2.2.1⟩ : tree_Node_damier_row_Row))), t1.2.2.2.1, w64 (a4 - t1.2.2.2.1)⟩ : walk_frame_damier_row_Row)]) e_walk_frame_damier_row_Row 1 hx33 rfl rfl rfl rfl rfl rfl rfl rfl rfl (fun _ => rfl)) rfl (fun v34 => ?_)
   iterate 2 refine aA rfl rfl ?_
   refine TL.op0 (OpR.store 0 rfl rfl rfl rfl rfl rfl rfl rfl) ?_
   refine TL.nil ?_
   obtain rfl := Option.some.inj h0
   exact PostG.finP (ks := [0, 1]) (Gst.only [] rfl) (.tuple #[v34]) ResL.nil rfl rfl rfl rfl
 refine T.block ?_
 obtain ⟨n5, n10⟩ := loop_some ht1
 refine T.loop (fun n S' => ∃ S'', Gst S' S'' ∧ ∃ y3 : Value, ∃ s4 : (List NP) × (List row_Row) × Int × Int × (List walk_frame_damier_row_Row), S'' = ⟨[(3, .val (.int .i64 a4)), (2, .val (.int .i64 s4.2.2.2.1)), (1, .nod [.sl 1 (List.map eNP s4.1), .sl 3 (List.map e_row_Row s4.2.1), .val (.int .i64 s4.2.2.1)]), (0, .val (.pointer (some ⟨b0, 0, none⟩)))], [.var b0 [.val y3] 111, .row y3 (List.map e_walk_frame_damier_row_Row s4.2.2.2.2) 3 117], 88⟩ ∧ iter (walk_stack_row_Row_down_2.l2 a4) n s4 = some t1) n5 ?_ ?_
 · exact ⟨_, Gst.only [0, 1, 2, 3] rfl, v1, (a0, a1, a2, a3, a5), rfl, n10⟩
 rintro n5 _ ⟨_, g, y3, s4, rfl, i9⟩
 refine T.ghost g ?_
 obtain ⟨m6, q7, rfl, q8, i9⟩ := iter_succ i9
 unfold walk_stack_row_Row_down_2.l2 at q8
 refine T.seq ?_
 refine aS ?_
 iterate 4 refine aA rfl rfl ?_
 refine TL.op1 (OpR.cast (OpR.pure rfl) (intE (lenM _ _))) rfl ?_
 refine aA rfl rfl ?_
 refine TL.nil ?_
 show T X _ _ _
 rcases ite_some q8 with ⟨c12, q8⟩ | ⟨c12, q8⟩
 rotate_left
 · refine T.condF rfl (decide_eq_false c12) ?_
   refine T.exit ?_
   obtain rfl := Option.some.inj q8
   obtain rfl : _ = _ := i9
   exact ⟨_, Gst.only [0, 1, 2, 3] rfl, y3, rfl⟩
 refine T.condT rfl (decide_eq_true c12) ?_
 refine T.skip ?_
 show T X _ _ _
 refine T.block ?_
 refine aS ?_
 refine aA rfl rfl ?_
 refine TL.nil ?_
 show T X _ _ _
 refine T.seq ?_
 obtain ⟨t13, ht13, q8⟩ := bnd_some q8
 refine T.cutC (fun S' => S' = ⟨[(8, .val (.int .i64 t13.2)), (3, .val (.int .i64 a4)), (2, .val (.int .i64 t13.1)), (1, .nod [.sl 1 (List.map eNP s4.1), .sl 3 (List.map e_row_Row s4.2.1), .val (.int .i64 s4.2.2.1)]), (0, .val (.pointer (some ⟨b0, 0, none⟩)))], [.var b0 [.val y3] 111, .row y3 (List.map e_walk_frame_damier_row_Row s4.2.2.2.2) 3 117], 88⟩) (fun _ h => h) ?_ ?_
 rotate_left
 · rintro _ rfl
   show T X _ _ _
   refine aS ?_
   iterate 4 refine aA rfl rfl ?_
   refine TL.op1 (OpR.loadPtr 0 rfl rfl rfl rfl) rfl ?_
   iterate 3 refine aA rfl rfl ?_
   refine TL.op1 (OpR.build rfl rfl rfl rfl rfl) rfl ?_
   refine TL.op1 (OpR.lit rfl rfl rfl rfl rfl rfl rfl) rfl ?_
   obtain ⟨x29, hx29, q8⟩ := bnd_some q8
   refine TL.op (OpR.appendM (m := [(⟨(some (c_tree_Node_damier_row_Row (⟨s4.1, s4.2.1, s4.2.2.1⟩ : tree_Node_damier_row_Row))), t13.1, t13.2⟩ : walk_frame_damier_row_Row)]) e_walk_frame_damier_row_Row 1 hx29 rfl rfl rfl rfl rfl rfl rfl rfl rfl (fun _ => rfl)) rfl (fun v30 => ?_)
   iterate 2 refine aA rfl rfl ?_
   refine TL.op0 (OpR.store 0 rfl rfl rfl rfl rfl rfl rfl rfl) ?_
   refine TL.nil ?_
   show T X _ _ _
   refine T.region ?_
   iterate 5 refine aA rfl rfl ?_
   obtain ⟨x31, hx31, q8⟩ := bnd_some q8
   obtain ⟨x32, hx32, q8⟩ := bnd_some q8
   rw [o_tree_Node_damier_row_Row_eq hx32] at hx31
   refine TL.op1 (OpR.indexM eNP hx31 rfl rfl rfl rfl rfl) rfl ?_
   iterate 2 refine aA rfl rfl ?_
   refine TL.nil ?_
   obtain rfl := Option.some.inj q8
   exact ⟨m6, Nat.lt_succ_self _, _, Gst.only [0, 1, 2, 3] rfl, v30, (x32.fKids, x32.fItems, x32.fN, t13.1, x29), rfl, i9⟩
 refine T.block ?_
 obtain ⟨n15, n20⟩ := loop_some ht13
 refine T.loop (fun n S' => ∃ S'', Gst S' S'' ∧ ∃ s14 : Int × Int, S'' = ⟨[(8, .val (.int .i64 s14.2)), (3, .val (.int .i64 a4)), (2, .val (.int .i64 s14.1)), (1, .nod [.sl 1 (List.map eNP s4.1), .sl 3 (List.map e_row_Row s4.2.1), .val (.int .i64 s4.2.2.1)]), (0, .val (.pointer (some ⟨b0, 0, none⟩)))], [.var b0 [.val y3] 111, .row y3 (List.map e_walk_frame_damier_row_Row s4.2.2.2.2) 3 117], 88⟩ ∧ iter (walk_stack_row_Row_down_2.l1 a4 s4) n s14 = some t13) n15 ?_ ?_
 · exact ⟨_, Gst.only [0, 1, 2, 3, 8] rfl, (s4.2.2.2.1, 0), rfl, n20⟩
 rintro n15 _ ⟨_, g, s14, rfl, i19⟩
 refine T.ghost g ?_
 obtain ⟨m16, q17, rfl, q18, i19⟩ := iter_succ i19
 unfold walk_stack_row_Row_down_2.l1 at q18
 refine T.seq ?_
 refine T.seq ?_
 obtain ⟨t22, ht22, q18⟩ := bnd_some q18
 refine T.cutC (fun S' => S' = ⟨[(38, .val (.bool t22)), (8, .val (.int .i64 s14.2)), (3, .val (.int .i64 a4)), (2, .val (.int .i64 s14.1)), (1, .nod [.sl 1 (List.map eNP s4.1), .sl 3 (List.map e_row_Row s4.2.1), .val (.int .i64 s4.2.2.1)]), (0, .val (.pointer (some ⟨b0, 0, none⟩)))], [.var b0 [.val y3] 111, .row y3 (List.map e_walk_frame_damier_row_Row s4.2.2.2.2) 3 117], 88⟩) (fun _ h => h) ?_ ?_
 rotate_left
 · rintro _ rfl
   show T X _ _ _
   rcases ite_some q18 with ⟨c26, q18⟩ | ⟨c26, q18⟩
   rotate_left
   · refine T.condF rfl (eq_false_of_ne_true c26) ?_
     refine T.exit ?_
     obtain rfl := Option.some.inj q18
     obtain rfl : _ = _ := i19
     exact ⟨_, Gst.only [0, 1, 2, 3, 8] rfl, rfl⟩
   refine T.condT rfl (c26) ?_
   refine T.skip ?_
   show T X _ _ _
   refine T.block ?_
   refine aS ?_
   iterate 6 refine aA rfl rfl ?_
   obtain ⟨x27, hx27, q18⟩ := bnd_some q18
   obtain ⟨x28, hx28, q18⟩ := bnd_some q18
   rw [o_tree_Node_damier_row_Row_eq hx28] at hx27
   refine TL.op1 (OpR.indexM eNP hx27 rfl rfl rfl rfl rfl) rfl ?_
   iterate 6 refine aA rfl rfl ?_
   refine TL.nil ?_
   show T X _ _ _
   refine T.region ?_
   iterate 3 refine aA rfl rfl ?_
   refine TL.nil ?_
   obtain rfl := Option.some.inj q18
   exact ⟨m16, Nat.lt_succ_self _, _, Gst.only [0, 1, 2, 3, 8] rfl, (w64 (s14.1 + x28.fN), w64 (s14.2 + 1)), rfl, i19⟩
 refine T.region ?_
 iterate 5 refine aA rfl rfl ?_
 refine TL.op1 (OpR.cast (OpR.pure rfl) (intE (lenM _ _))) rfl ?_
 iterate 3 refine aA rfl rfl ?_
 rcases ite_some ht22 with ⟨c23, ht22⟩ | ⟨c23, ht22⟩
 rotate_left
 · refine TL.off rfl rfl rfl rfl (decide_eq_false c23) rfl rfl ?_
   refine TL.off rfl rfl rfl rfl (decide_eq_false c23) rfl rfl ?_
   refine TL.off rfl rfl rfl rfl (decide_eq_false c23) rfl rfl ?_
   refine TL.off rfl rfl rfl rfl (decide_eq_false c23) rfl rfl ?_
   refine TL.off rfl rfl rfl rfl (decide_eq_false c23) rfl rfl ?_
   refine TL.off rfl rfl rfl rfl (decide_eq_false c23) rfl rfl ?_
   refine TL.off rfl rfl rfl rfl (decide_eq_false c23) rfl rfl ?_
   refine TL.off rfl rfl rfl rfl (decide_eq_false c23) rfl rfl ?_
   refine TL.off rfl rfl rfl rfl (decide_eq_false c23) rfl rfl ?_
   refine TL.off rfl rfl rfl rfl (decide_eq_false c23) rfl rfl ?_
   refine TL.off rfl rfl rfl rfl (decide_eq_false c23) rfl rfl ?_
   refine TL.off rfl rfl rfl rfl (decide_eq_false c23) rfl rfl ?_
   refine TL.off rfl rfl rfl rfl (decide_eq_false c23) rfl rfl ?_
   refine TL.off rfl rfl rfl rfl (decide_eq_false c23) rfl rfl ?_
   refine TL.op1 (OpR.pickF rfl (decide_eq_false c23) rfl) rfl ?_
   refine TL.nil ?_
   obtain rfl := Option.some.inj ht22
   exact ⟨_, Gst.only [0, 1, 2, 3, 8, 38] rfl, rfl⟩
 refine TL.on rfl rfl rfl rfl (decide_eq_true c23) ?_
 refine aA rfl rfl ?_
 refine TL.on rfl rfl rfl rfl (decide_eq_true c23) ?_
 refine aA rfl rfl ?_
 refine TL.on rfl rfl rfl rfl (decide_eq_true c23) ?_
 refine aA rfl rfl ?_
 refine TL.on rfl rfl rfl rfl (decide_eq_true c23) ?_
 refine aA rfl rfl ?_
 refine TL.on rfl rfl rfl rfl (decide_eq_true c23) ?_
 refine aA rfl rfl ?_
 refine TL.on rfl rfl rfl rfl (decide_eq_true c23) ?_
 refine aA rfl rfl ?_
 refine TL.on rfl rfl rfl rfl (decide_eq_true c23) ?_
 refine aA rfl rfl ?_
 refine TL.on rfl rfl rfl rfl (decide_eq_true c23) ?_
 obtain ⟨x24, hx24, ht22⟩ := bnd_some ht22
 obtain ⟨x25, hx25, ht22⟩ := bnd_some ht22
 rw [o_tree_Node_damier_row_Row_eq hx25] at hx24
 refine TL.op1 (OpR.indexM eNP hx24 rfl rfl rfl rfl rfl) rfl ?_
 refine TL.on rfl rfl rfl rfl (decide_eq_true c23) ?_
 refine aA rfl rfl ?_
 refine TL.on rfl rfl rfl rfl (decide_eq_true c23) ?_
 refine aA rfl rfl ?_
 refine TL.on rfl rfl rfl rfl (decide_eq_true c23) ?_
 refine aA rfl rfl ?_
 refine TL.on rfl rfl rfl rfl (decide_eq_true c23) ?_
 refine aA rfl rfl ?_
 refine TL.on rfl rfl rfl rfl (decide_eq_true c23) ?_
 refine aA rfl rfl ?_
 refine TL.on rfl rfl rfl rfl (decide_eq_true c23) ?_
 refine aA rfl rfl ?_
 refine TL.op1 (OpR.pickT rfl (decide_eq_true c23) rfl) rfl ?_
 refine TL.nil ?_
 obtain rfl := Option.some.inj ht22
 exact ⟨_, Gst.only [0, 1, 2, 3, 8, 38] rfl, rfl⟩
end Go.Proofs.Ytpmhiiemklhbhaa.S
