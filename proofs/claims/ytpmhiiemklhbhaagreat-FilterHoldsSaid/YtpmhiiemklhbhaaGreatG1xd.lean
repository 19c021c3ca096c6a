/- Printed by a program of this session's own (gen.py): Lean functions for Go functions, and the proofs that the Go code comes to their answers. -/
import Derived.Test.YtpmhiiemklhbhaaGreatG1xc
import Derived.Test.YtpmhiiemklhbhaaGreatG1xa
import Derived.Test.YtpmhiiemklhbhaaGreatG1xb
set_option maxHeartbeats 4000000
set_option linter.unusedVariables false
set_option linter.unusedSimpArgs false
set_option maxRecDepth 20000
namespace Go.Proofs.YtpmhiiemklhbhaaGreat.S
open Go Go.Sm
attribute [local irreducible] T TL OpR CallT iter loop
noncomputable def piece_Text_Flat_nil.l1 (a0 : piece_Text) (s4 : Int × (List UInt8)) : Option (Lp (Int × (List UInt8)) (List UInt8)) :=
  if s4.1 < (a0.fL.length : Int) then
    bnd (idx a0.fL s4.1) fun x13 =>
    bnd (arena_Arena_Bytes_nil x13) fun x15 =>
    bnd (app 1 s4.2 x15) fun x16 =>
    some (Lp.next (w64 (s4.1 + 1), x16))
  else
    some (Lp.done s4.2)
noncomputable def piece_Text_Flat_nil (a0 : piece_Text) : Option (List UInt8) :=
  bnd (loop (piece_Text_Flat_nil.l1 a0) (0, []) : Option (List UInt8)) fun t1 =>
  some t1
theorem piece_Text_Flat_nil_c {a0 : piece_Text} {res : (List UInt8)} (h0 : piece_Text_Flat_nil a0 = some res) : CallF X 183 [.agg [.sl 2 (List.map e_arena_Span a0.fL), dN a0.fN], dQ] [] (fun x => .sl 1 (lB res)) (fun x => []) := by
 unfold piece_Text_Flat_nil at h0
 refine CallF.mkG (X := X) rfl Tryz.func183 rfl rfl Tryz.ntmps183 rfl rfl ?_
 refine aS ?_
 refine TL.op1 (OpR.boxImm rfl rfl) rfl ?_
 refine aA rfl rfl ?_
 refine aN rfl ?_
 refine aS ?_
 refine aA rfl rfl ?_
 refine aN rfl ?_
 refine T.seq ?_
 refine aS ?_
 iterate 2 refine aA rfl rfl ?_
 refine TL.op1 (OpR.cast (OpR.pure rfl) (intE (lenM _ _))) rfl ?_
 refine aA rfl rfl ?_
 refine aN rfl ?_
 obtain ⟨t1, ht1, h0⟩ := bS h0
 refine T.cutC (fun S' => ∃ y2 : Value, S' = ⟨[(5, .val y2), (4, .val (.slice none 0 0))], [.row y2 (lB t1) 1 5], 22⟩) (fun _ h => h) ?_ ?_
 rotate_left
 · rintro _ ⟨y2, rfl⟩
   show T X _ _ _
   refine aS ?_
   iterate 2 refine aA rfl rfl ?_
   refine aN rfl ?_
   refine T.ret ?_
   obtain rfl := osi h0
   exact PostG.retP (ks := []) (Gst.trans (Gst.only [4] rfl) (Gst.trans (Gst.freezeRow 0 rfl rfl (ReS.cons (Re.base .all) ReS.nil) (ReO.same ReO.nil)) (Gst.pick [] rfl rfl))) undef (cT rfl ResL.nil) rfl rfl rfl rfl
 refine T.block ?_
 obtain ⟨n5, n10⟩ := loop_some ht1
 refine T.loop (fun n S' => ∃ S'', Gst S' S'' ∧ ∃ y3 : Value, ∃ s4 : Int × (List UInt8), S'' = ⟨[(11, (dN s4.1)), (10, (dN (a0.fL.length : Int))), (9, .sl 2 (List.map e_arena_Span a0.fL)), (5, .val y3), (4, .val (.slice none 0 0)), (1, dQ)], [.row y3 (lB s4.2) 1 5], 22⟩ ∧ iter (piece_Text_Flat_nil.l1 a0) n s4 = some t1) n5 ?_ ?_
 · exact ⟨_, Gst.trans (Gst.only [1, 4, 5, 9, 10, 11] rfl) (Gst.nilRow (ow := []) 1 5 rfl), (.slice none 0 0), (0, []), rfl, n10⟩
 rintro n5 _ ⟨_, g, y3, s4, rfl, i9⟩
 refine T.ghost g ?_
 obtain ⟨m6, q7, rfl, q8, i9⟩ := iter_succ i9
 unfold piece_Text_Flat_nil.l1 at q8
 refine aS ?_
 refine aA rfl rfl ?_
 refine aN rfl ?_
 refine T.seq ?_
 rcases ite_some q8 with ⟨c12, q8⟩ | ⟨c12, q8⟩
 rotate_left
 · refine T.condF rfl (eF c12) ?_
   refine T.exit ?_
   obtain rfl := osi q8
   obtain rfl : _ = _ := i9
   exact ⟨_, Gst.only [4, 5] rfl, y3, rfl⟩
 refine T.condT rfl (eT c12) ?_
 refine aK rfl ?_
 refine T.seq ?_
 refine T.block ?_
 refine aS ?_
 obtain ⟨x13, hx13, q8⟩ := bS q8
 refine TL.op1 (OpR.indexM e_arena_Span hx13 rfl rfl rfl rfl rfl) rfl ?_
 refine aA rfl rfl ?_
 refine TL.op (OpR.alloc rfl rfl (fun _ => rfl)) rfl (fun p14 => ?_)
 refine TL.op0 (OpR.store 1 rfl rfl rfl rfl rfl rfl rfl rfl) ?_
 refine aN rfl ?_
 refine T.region ?_
 iterate 2 refine aA rfl rfl ?_
 refine TL.op1 (OpR.loadPtr 1 rfl rfl rfl rfl) rfl ?_
 obtain ⟨x15, hx15, q8⟩ := bS q8
 refine TL.op1 (OpR.call0 fn201 (arena_Arena_Bytes_nil_c hx15) rfl) rfl ?_
 obtain ⟨x16, hx16, q8⟩ := bS q8
 refine TL.op (OpR.appendM (m := x15) byteD 0 hx16 rfl rfl rfl rfl rfl rfl rfl rfl rfl (fun _ => rfl)) rfl (fun v17 => ?_)
 refine aA rfl rfl ?_
 refine aN rfl ?_
 refine T.region ?_
 iterate 2 refine aA rfl rfl ?_
 refine TL.nil ?_
 obtain rfl := osi q8
 exact ⟨m6, Nat.lt_succ_self _, _, gP [1, 4, 5, 9, 10, 11] [0] rfl rfl rfl, v17, (w64 (s4.1 + 1), x16), rfl, i9⟩
noncomputable def cell_Cell_Bytes_nil (a0 : cell_Cell) : Option (List UInt8) :=
  bnd (piece_Text_Flat_nil a0.fText) fun x1 =>
  some x1
theorem cell_Cell_Bytes_nil_c {a0 : cell_Cell} {res : (List UInt8)} (h0 : cell_Cell_Bytes_nil a0 = some res) : CallF X 113 [.agg [.sl 2 (List.map e_arena_Span a0.fText.fL), dN a0.fText.fN, dN a0.fRaw.fAt, dN a0.fRaw.fN, dT a0.fKept], dQ] [] (fun x => .sl 1 (lB res)) (fun x => []) := by
 unfold cell_Cell_Bytes_nil at h0
 refine CallF.mkG (X := X) rfl Tryz.func113 rfl rfl Tryz.ntmps113 rfl rfl ?_
 refine aS ?_
 refine TL.op1 (OpR.boxImm rfl rfl) rfl ?_
 refine aA rfl rfl ?_
 refine aN rfl ?_
 refine aS ?_
 iterate 3 refine aA rfl rfl ?_
 obtain ⟨x1, hx1, h0⟩ := bS h0
 refine TL.op1 (OpR.call0 fn183 (piece_Text_Flat_nil_c hx1) rfl) rfl ?_
 refine aA rfl rfl ?_
 refine aN rfl ?_
 refine T.ret ?_
 obtain rfl := osi h0
 exact rO [] [4] rfl undef (cT rfl ResL.nil) rfl rfl rfl rfl
noncomputable def filter_Holds_nil (a0 : row_Row) (a1 : filter_Test) : Option Bool :=
  bnd (row_Row_At a0 a1.fCol) fun x1 =>
  bnd (filter_of a1.fOp) fun x4 =>
  match x4 with
  | .inl x4 =>
      bnd (cell_Cell_Bytes_nil x1.1) fun x5 =>
      bnd (filter_of_1 x5 a1.fArg) fun x6 =>
      some (!(x6 == a1.fNot))
  | .inr (.inl x4) =>
      bnd (cell_Cell_Bytes_nil x1.1) fun x7 =>
      bnd (bytes_Equal x7 a1.fArg) fun x8 =>
      some (!(x8 == a1.fNot))
  | .inr (.inr (.inl x4)) =>
      bnd (cell_Cell_Bytes_nil x1.1) fun x9 =>
      bnd (filter_of_2 x9 a1.fArg) fun x10 =>
      some (!(x10 == a1.fNot))
  | .inr (.inr (.inr (.inl x4))) =>
      bnd (cell_Cell_Bytes_nil x1.1) fun x11 =>
      bnd (filter_of_3 x11 a1.fArg) fun x12 =>
      some (!(x12 == a1.fNot))
  | .inr (.inr (.inr (.inr (.inl x4)))) =>
      bnd (cell_Cell_Bytes_nil x1.1) fun x13 =>
      bnd (bytes_HasPrefix x13 a1.fArg) fun x14 =>
      some (!(x14 == a1.fNot))
  | .inr (.inr (.inr (.inr (.inr (.inl x4))))) =>
      bnd (cell_Cell_Bytes_nil x1.1) fun x15 =>
      bnd (bytes_HasSuffix x15 a1.fArg) fun x16 =>
      some (!(x16 == a1.fNot))
  | .inr (.inr (.inr (.inr (.inr (.inr x4))))) =>
      bnd (cell_Cell_Bytes_nil x1.1) fun x17 =>
      bnd (filter_of_4 x17 a1.fArg) fun x18 =>
      some (!(x18 == a1.fNot))
theorem filter_Holds_nil_c {a0 : row_Row} {a1 : filter_Test} {res : Bool} (h0 : filter_Holds_nil a0 a1 = some res) : CallF X 44 [.agg [.sl 5 (List.map e_cell_Cell a0.fCells), dN a0.fEnd, dT a0.fHidden], dQ, .agg [dN a1.fCol, dN a1.fOp, .val (.string (bs a1.fArg)), dT a1.fNot]] [] (fun x => (dT res)) (fun x => []) := by
 unfold filter_Holds_nil at h0
 refine CallF.mkG (X := X) rfl Tryz.func44 rfl rfl Tryz.ntmps44 rfl rfl ?_
 refine aS ?_
 refine TL.op1 (OpR.boxImm rfl rfl) rfl ?_
 refine TL.op1 (OpR.boxImm rfl rfl) rfl ?_
 refine aA rfl rfl ?_
 refine aN rfl ?_
 refine aS ?_
 iterate 3 refine aA rfl rfl ?_
 obtain ⟨x1, hx1, h0⟩ := bS h0
 refine TL.op1 (OpR.call0 fn111 (row_Row_At_c hx1) rfl) rfl ?_
 iterate 3 refine aA rfl rfl ?_
 refine TL.op (OpR.alloc rfl rfl (fun _ => rfl)) rfl (fun p2 => ?_)
 refine TL.op0 (OpR.store 0 rfl rfl rfl rfl rfl rfl rfl rfl) ?_
 refine aA rfl rfl ?_
 refine aN rfl ?_
 refine T.seq ?_
 obtain ⟨x4, hx4, h0⟩ := bS h0
 rcases x4 with x4 | (x4 | (x4 | (x4 | (x4 | (x4 | x4)))))
 · dsimp only at h0
   obtain ⟨x5, hx5, h0⟩ := bS h0
   obtain ⟨x6, hx6, h0⟩ := bS h0
   refine T.drawQ drawsX [.nod [dN a1.fOp, .val (.string (bs a1.fArg)), dT a1.fNot], dN a1.fOp, .agg [.fn (.func 175) [] []], .fn (.func 175) [] [], .agg [.sl 2 (List.map e_arena_Span x1.1.fText.fL), dN x1.1.fText.fN, dN x1.1.fRaw.fAt, dN x1.1.fRaw.fN, dT x1.1.fKept], dQ, .sl 1 (lB x5), .nod [.val (.string (bs a1.fArg)), dT a1.fNot], .val (.string (bs a1.fArg)), .sl 1 (lB a1.fArg), dT x6, .nod [dT a1.fNot], dT a1.fNot, dT (!(x6 == a1.fNot)), dT (!(x6 == a1.fNot))] [6] (by decide +kernel) rfl ?_ rfl ?_
   rotate_left
   · show T X _ _ _
     refine T.ret ?_
     obtain rfl := osi h0
     exact rP [] [6] [] rfl rfl rfl undef (cT rfl ResL.nil) rfl rfl rfl rfl
   iterate 2 refine aB rfl rfl rfl ?_
   refine OpsQ.yes (Want.plain rfl) rfl (OpR.call0 fn112 (filter_of_cx1 hx4) rfl) ?_
   refine aB rfl rfl rfl ?_
   refine OpsQ.yes (Want.plain rfl) rfl (OpR.loadPtr 0 rfl rfl rfl rfl) ?_
   refine aB rfl rfl rfl ?_
   refine OpsQ.yes (Want.plain rfl) rfl (OpR.call0 fn113 (cell_Cell_Bytes_nil_c hx5) rfl) ?_
   iterate 2 refine aB rfl rfl rfl ?_
   refine OpsQ.yes (Want.plain rfl) rfl (OpR.toBytesM rfl rfl rfl rfl rfl rfl rfl) ?_
   refine OpsQ.yes (Want.plain rfl) rfl (OpR.callV [] rfl fn175 (filter_of_1_c hx6) rfl rfl rfl (fun _ => rfl)) ?_
   iterate 2 refine aB rfl rfl rfl ?_
   refine OpsQ.yes (Want.plain rfl) rfl (OpR.neBool rfl rfl rfl rfl) ?_
   refine aB rfl rfl rfl ?_
   exact OpsQ.nil
 · dsimp only at h0
   obtain ⟨x7, hx7, h0⟩ := bS h0
   obtain ⟨x8, hx8, h0⟩ := bS h0
   refine T.drawQ drawsX [.nod [dN a1.fOp, .val (.string (bs a1.fArg)), dT a1.fNot], dN a1.fOp, .agg [.fn (.func 177) [] []], .fn (.func 177) [] [], .agg [.sl 2 (List.map e_arena_Span x1.1.fText.fL), dN x1.1.fText.fN, dN x1.1.fRaw.fAt, dN x1.1.fRaw.fN, dT x1.1.fKept], dQ, .sl 1 (lB x7), .nod [.val (.string (bs a1.fArg)), dT a1.fNot], .val (.string (bs a1.fArg)), .sl 1 (lB a1.fArg), dT x8, .nod [dT a1.fNot], dT a1.fNot, dT (!(x8 == a1.fNot)), dT (!(x8 == a1.fNot))] [6] (by decide +kernel) rfl ?_ rfl ?_
   rotate_left
   · show T X _ _ _
     refine T.ret ?_
     obtain rfl := osi h0
     exact rP [] [6] [] rfl rfl rfl undef (cT rfl ResL.nil) rfl rfl rfl rfl
   iterate 2 refine aB rfl rfl rfl ?_
   refine OpsQ.yes (Want.plain rfl) rfl (OpR.call0 fn112 (filter_of_cx2 hx4) rfl) ?_
   refine aB rfl rfl rfl ?_
   refine OpsQ.yes (Want.plain rfl) rfl (OpR.loadPtr 0 rfl rfl rfl rfl) ?_
   refine aB rfl rfl rfl ?_
   refine OpsQ.yes (Want.plain rfl) rfl (OpR.call0 fn113 (cell_Cell_Bytes_nil_c hx7) rfl) ?_
   iterate 2 refine aB rfl rfl rfl ?_
   refine OpsQ.yes (Want.plain rfl) rfl (OpR.toBytesM rfl rfl rfl rfl rfl rfl rfl) ?_
   refine OpsQ.yes (Want.plain rfl) rfl (OpR.callV [] rfl fn177 (bytes_Equal_c hx8) rfl rfl rfl (fun _ => rfl)) ?_
   iterate 2 refine aB rfl rfl rfl ?_
   refine OpsQ.yes (Want.plain rfl) rfl (OpR.neBool rfl rfl rfl rfl) ?_
   refine aB rfl rfl rfl ?_
   exact OpsQ.nil
 · dsimp only at h0
   obtain ⟨x9, hx9, h0⟩ := bS h0
   obtain ⟨x10, hx10, h0⟩ := bS h0
   refine T.drawQ drawsX [.nod [dN a1.fOp, .val (.string (bs a1.fArg)), dT a1.fNot], dN a1.fOp, .agg [.fn (.func 178) [] []], .fn (.func 178) [] [], .agg [.sl 2 (List.map e_arena_Span x1.1.fText.fL), dN x1.1.fText.fN, dN x1.1.fRaw.fAt, dN x1.1.fRaw.fN, dT x1.1.fKept], dQ, .sl 1 (lB x9), .nod [.val (.string (bs a1.fArg)), dT a1.fNot], .val (.string (bs a1.fArg)), .sl 1 (lB a1.fArg), dT x10, .nod [dT a1.fNot], dT a1.fNot, dT (!(x10 == a1.fNot)), dT (!(x10 == a1.fNot))] [6] (by decide +kernel) rfl ?_ rfl ?_
   rotate_left
   · show T X _ _ _
     refine T.ret ?_
     obtain rfl := osi h0
     exact rP [] [6] [] rfl rfl rfl undef (cT rfl ResL.nil) rfl rfl rfl rfl
   iterate 2 refine aB rfl rfl rfl ?_
   refine OpsQ.yes (Want.plain rfl) rfl (OpR.call0 fn112 (filter_of_cx3 hx4) rfl) ?_
   refine aB rfl rfl rfl ?_
   refine OpsQ.yes (Want.plain rfl) rfl (OpR.loadPtr 0 rfl rfl rfl rfl) ?_
   refine aB rfl rfl rfl ?_
   refine OpsQ.yes (Want.plain rfl) rfl (OpR.call0 fn113 (cell_Cell_Bytes_nil_c hx9) rfl) ?_
   iterate 2 refine aB rfl rfl rfl ?_
   refine OpsQ.yes (Want.plain rfl) rfl (OpR.toBytesM rfl rfl rfl rfl rfl rfl rfl) ?_
   refine OpsQ.yes (Want.plain rfl) rfl (OpR.callV [] rfl fn178 (filter_of_2_c hx10) rfl rfl rfl (fun _ => rfl)) ?_
   iterate 2 refine aB rfl rfl rfl ?_
   refine OpsQ.yes (Want.plain rfl) rfl (OpR.neBool rfl rfl rfl rfl) ?_
   refine aB rfl rfl rfl ?_
   exact OpsQ.nil
 · dsimp only at h0
   obtain ⟨x11, hx11, h0⟩ := bS h0
   obtain ⟨x12, hx12, h0⟩ := bS h0
   refine T.drawQ drawsX [.nod [dN a1.fOp, .val (.string (bs a1.fArg)), dT a1.fNot], dN a1.fOp, .agg [.fn (.func 179) [] []], .fn (.func 179) [] [], .agg [.sl 2 (List.map e_arena_Span x1.1.fText.fL), dN x1.1.fText.fN, dN x1.1.fRaw.fAt, dN x1.1.fRaw.fN, dT x1.1.fKept], dQ, .sl 1 (lB x11), .nod [.val (.string (bs a1.fArg)), dT a1.fNot], .val (.string (bs a1.fArg)), .sl 1 (lB a1.fArg), dT x12, .nod [dT a1.fNot], dT a1.fNot, dT (!(x12 == a1.fNot)), dT (!(x12 == a1.fNot))] [6] (by decide +kernel) rfl ?_ rfl ?_
   rotate_left
   · show T X _ _ _
     refine T.ret ?_
     obtain rfl := osi h0
     exact rP [] [6] [] rfl rfl rfl undef (cT rfl ResL.nil) rfl rfl rfl rfl
   iterate 2 refine aB rfl rfl rfl ?_
   refine OpsQ.yes (Want.plain rfl) rfl (OpR.call0 fn112 (filter_of_cx4 hx4) rfl) ?_
   refine aB rfl rfl rfl ?_
   refine OpsQ.yes (Want.plain rfl) rfl (OpR.loadPtr 0 rfl rfl rfl rfl) ?_
   refine aB rfl rfl rfl ?_
   refine OpsQ.yes (Want.plain rfl) rfl (OpR.call0 fn113 (cell_Cell_Bytes_nil_c hx11) rfl) ?_
   iterate 2 refine aB rfl rfl rfl ?_
   refine OpsQ.yes (Want.plain rfl) rfl (OpR.toBytesM rfl rfl rfl rfl rfl rfl rfl) ?_
   refine OpsQ.yes (Want.plain rfl) rfl (OpR.callV [] rfl fn179 (filter_of_3_c hx12) rfl rfl rfl (fun _ => rfl)) ?_
   iterate 2 refine aB rfl rfl rfl ?_
   refine OpsQ.yes (Want.plain rfl) rfl (OpR.neBool rfl rfl rfl rfl) ?_
   refine aB rfl rfl rfl ?_
   exact OpsQ.nil
 · dsimp only at h0
   obtain ⟨x13, hx13, h0⟩ := bS h0
   obtain ⟨x14, hx14, h0⟩ := bS h0
   refine T.drawQ drawsX [.nod [dN a1.fOp, .val (.string (bs a1.fArg)), dT a1.fNot], dN a1.fOp, .agg [.fn (.func 180) [] []], .fn (.func 180) [] [], .agg [.sl 2 (List.map e_arena_Span x1.1.fText.fL), dN x1.1.fText.fN, dN x1.1.fRaw.fAt, dN x1.1.fRaw.fN, dT x1.1.fKept], dQ, .sl 1 (lB x13), .nod [.val (.string (bs a1.fArg)), dT a1.fNot], .val (.string (bs a1.fArg)), .sl 1 (lB a1.fArg), dT x14, .nod [dT a1.fNot], dT a1.fNot, dT (!(x14 == a1.fNot)), dT (!(x14 == a1.fNot))] [6] (by decide +kernel) rfl ?_ rfl ?_
   rotate_left
   · show T X _ _ _
     refine T.ret ?_
     obtain rfl := osi h0
     exact rP [] [6] [] rfl rfl rfl undef (cT rfl ResL.nil) rfl rfl rfl rfl
   iterate 2 refine aB rfl rfl rfl ?_
   refine OpsQ.yes (Want.plain rfl) rfl (OpR.call0 fn112 (filter_of_cx5 hx4) rfl) ?_
   refine aB rfl rfl rfl ?_
   refine OpsQ.yes (Want.plain rfl) rfl (OpR.loadPtr 0 rfl rfl rfl rfl) ?_
   refine aB rfl rfl rfl ?_
   refine OpsQ.yes (Want.plain rfl) rfl (OpR.call0 fn113 (cell_Cell_Bytes_nil_c hx13) rfl) ?_
   iterate 2 refine aB rfl rfl rfl ?_
   refine OpsQ.yes (Want.plain rfl) rfl (OpR.toBytesM rfl rfl rfl rfl rfl rfl rfl) ?_
   refine OpsQ.yes (Want.plain rfl) rfl (OpR.callV [] rfl fn180 (bytes_HasPrefix_c hx14) rfl rfl rfl (fun _ => rfl)) ?_
   iterate 2 refine aB rfl rfl rfl ?_
   refine OpsQ.yes (Want.plain rfl) rfl (OpR.neBool rfl rfl rfl rfl) ?_
   refine aB rfl rfl rfl ?_
   exact OpsQ.nil
 · dsimp only at h0
   obtain ⟨x15, hx15, h0⟩ := bS h0
   obtain ⟨x16, hx16, h0⟩ := bS h0
   refine T.drawQ drawsX [.nod [dN a1.fOp, .val (.string (bs a1.fArg)), dT a1.fNot], dN a1.fOp, .agg [.fn (.func 181) [] []], .fn (.func 181) [] [], .agg [.sl 2 (List.map e_arena_Span x1.1.fText.fL), dN x1.1.fText.fN, dN x1.1.fRaw.fAt, dN x1.1.fRaw.fN, dT x1.1.fKept], dQ, .sl 1 (lB x15), .nod [.val (.string (bs a1.fArg)), dT a1.fNot], .val (.string (bs a1.fArg)), .sl 1 (lB a1.fArg), dT x16, .nod [dT a1.fNot], dT a1.fNot, dT (!(x16 == a1.fNot)), dT (!(x16 == a1.fNot))] [6] (by decide +kernel) rfl ?_ rfl ?_
   rotate_left
   · show T X _ _ _
     refine T.ret ?_
     obtain rfl := osi h0
     exact rP [] [6] [] rfl rfl rfl undef (cT rfl ResL.nil) rfl rfl rfl rfl
   iterate 2 refine aB rfl rfl rfl ?_
   refine OpsQ.yes (Want.plain rfl) rfl (OpR.call0 fn112 (filter_of_cx6 hx4) rfl) ?_
   refine aB rfl rfl rfl ?_
   refine OpsQ.yes (Want.plain rfl) rfl (OpR.loadPtr 0 rfl rfl rfl rfl) ?_
   refine aB rfl rfl rfl ?_
   refine OpsQ.yes (Want.plain rfl) rfl (OpR.call0 fn113 (cell_Cell_Bytes_nil_c hx15) rfl) ?_
   iterate 2 refine aB rfl rfl rfl ?_
   refine OpsQ.yes (Want.plain rfl) rfl (OpR.toBytesM rfl rfl rfl rfl rfl rfl rfl) ?_
   refine OpsQ.yes (Want.plain rfl) rfl (OpR.callV [] rfl fn181 (bytes_HasSuffix_c hx16) rfl rfl rfl (fun _ => rfl)) ?_
   iterate 2 refine aB rfl rfl rfl ?_
   refine OpsQ.yes (Want.plain rfl) rfl (OpR.neBool rfl rfl rfl rfl) ?_
   refine aB rfl rfl rfl ?_
   exact OpsQ.nil
 dsimp only at h0
 obtain ⟨x17, hx17, h0⟩ := bS h0
 obtain ⟨x18, hx18, h0⟩ := bS h0
 refine T.drawQ drawsX [.nod [dN a1.fOp, .val (.string (bs a1.fArg)), dT a1.fNot], dN a1.fOp, .agg [.fn (.func 182) [] []], .fn (.func 182) [] [], .agg [.sl 2 (List.map e_arena_Span x1.1.fText.fL), dN x1.1.fText.fN, dN x1.1.fRaw.fAt, dN x1.1.fRaw.fN, dT x1.1.fKept], dQ, .sl 1 (lB x17), .nod [.val (.string (bs a1.fArg)), dT a1.fNot], .val (.string (bs a1.fArg)), .sl 1 (lB a1.fArg), dT x18, .nod [dT a1.fNot], dT a1.fNot, dT (!(x18 == a1.fNot)), dT (!(x18 == a1.fNot))] [6] (by decide +kernel) rfl ?_ rfl ?_
 rotate_left
 · show T X _ _ _
   refine T.ret ?_
   obtain rfl := osi h0
   exact rP [] [6] [] rfl rfl rfl undef (cT rfl ResL.nil) rfl rfl rfl rfl
 iterate 2 refine aB rfl rfl rfl ?_
 refine OpsQ.yes (Want.plain rfl) rfl (OpR.call0 fn112 (filter_of_cx7 hx4) rfl) ?_
 refine aB rfl rfl rfl ?_
 refine OpsQ.yes (Want.plain rfl) rfl (OpR.loadPtr 0 rfl rfl rfl rfl) ?_
 refine aB rfl rfl rfl ?_
 refine OpsQ.yes (Want.plain rfl) rfl (OpR.call0 fn113 (cell_Cell_Bytes_nil_c hx17) rfl) ?_
 iterate 2 refine aB rfl rfl rfl ?_
 refine OpsQ.yes (Want.plain rfl) rfl (OpR.toBytesM rfl rfl rfl rfl rfl rfl rfl) ?_
 refine OpsQ.yes (Want.plain rfl) rfl (OpR.callV [] rfl fn182 (filter_of_4_c hx18) rfl rfl rfl (fun _ => rfl)) ?_
 iterate 2 refine aB rfl rfl rfl ?_
 refine OpsQ.yes (Want.plain rfl) rfl (OpR.neBool rfl rfl rfl rfl) ?_
 refine aB rfl rfl rfl ?_
 exact OpsQ.nil
noncomputable def filter_all_nil.l1 (a0 : row_Row) (a1 : List filter_Test) (s3 : Int) : Option (Lp Int (Ex Unit Bool)) :=
  if s3 < (a1.length : Int) then
    bnd (idx a1 s3) fun x12 =>
    bnd (filter_Holds_nil a0 x12) fun x14 =>
    if x14 = true then
      some (Lp.next (w64 (s3 + 1)))
    else
      some (Lp.done (Ex.ret false))
  else
    some (Lp.done (Ex.brk ()))
noncomputable def filter_all_nil (a0 : row_Row) (a1 : List filter_Test) : Option Bool :=
  bnd (loop (filter_all_nil.l1 a0 a1) 0 : Option (Ex Unit Bool)) fun t1 => match t1 with
    | .brk u2 =>
      some true
    | .ret u2 => some u2
theorem filter_all_nil_c {a0 : row_Row} {a1 : List filter_Test} {res : Bool} (h0 : filter_all_nil a0 a1 = some res) : CallF X 118 [.agg [.sl 5 (List.map e_cell_Cell a0.fCells), dN a0.fEnd, dT a0.fHidden], dQ, .sl 4 (List.map e_filter_Test a1)] [] (fun x => (dT res)) (fun x => []) := by
 unfold filter_all_nil at h0
 refine CallF.mkG (X := X) rfl Tryz.func118 rfl rfl Tryz.ntmps118 rfl rfl ?_
 refine aS ?_
 refine TL.op1 (OpR.boxImm rfl rfl) rfl ?_
 refine aA rfl rfl ?_
 refine aN rfl ?_
 refine T.seq ?_
 refine aS ?_
 refine aA rfl rfl ?_
 refine TL.op1 (OpR.cast (OpR.pure rfl) (intE (lenM _ _))) rfl ?_
 refine aA rfl rfl ?_
 refine aN rfl ?_
 obtain ⟨t1, ht1, h0⟩ := bS h0
 refine T.cutC (fun S' => ∃ u2, t1 = Ex.brk u2 ∧ S' = ⟨[(6, (dT false))], [], 21⟩) (fun _ h => h) ?_ ?_
 rotate_left
 · rintro _ ⟨u2, rfl, rfl⟩
   show T X _ _ _
   refine aS ?_
   refine aA rfl rfl ?_
   refine aN rfl ?_
   refine T.ret ?_
   obtain rfl := osi h0
   exact rO [] [6] rfl undef (cT rfl ResL.nil) rfl rfl rfl rfl
 refine T.block ?_
 obtain ⟨n4, n9⟩ := loop_some ht1
 refine T.loop (fun n S' => ∃ S'', Gst S' S'' ∧ ∃ s3 : Int, S'' = ⟨[(11, (dN s3)), (10, (dN (a1.length : Int))), (9, .sl 4 (List.map e_filter_Test a1)), (6, (dT false)), (3, .nod [.sl 5 (List.map e_cell_Cell a0.fCells), dN a0.fEnd, dT a0.fHidden]), (1, dQ)], [], 21⟩ ∧ iter (filter_all_nil.l1 a0 a1) n s3 = some t1) n4 ?_ ?_
 · exact ⟨_, Gst.only [1, 3, 6, 9, 10, 11] rfl, 0, rfl, n9⟩
 rintro n4 _ ⟨_, g, s3, rfl, i8⟩
 refine T.ghost g ?_
 obtain ⟨m5, q6, rfl, q7, i8⟩ := iter_succ i8
 unfold filter_all_nil.l1 at q7
 refine aS ?_
 refine aA rfl rfl ?_
 refine aN rfl ?_
 refine T.seq ?_
 rcases ite_some q7 with ⟨c11, q7⟩ | ⟨c11, q7⟩
 rotate_left
 · refine T.condF rfl (eF c11) ?_
   refine T.exit ?_
   obtain rfl := osi q7
   obtain rfl : _ = _ := i8
   exact ⟨_, Gst.only [6] rfl, _, rfl, rfl⟩
 refine T.condT rfl (eT c11) ?_
 refine aK rfl ?_
 refine T.seq ?_
 refine T.block ?_
 refine aS ?_
 obtain ⟨x12, hx12, q7⟩ := bS q7
 refine TL.op1 (OpR.indexM e_filter_Test hx12 rfl rfl rfl rfl rfl) rfl ?_
 refine aA rfl rfl ?_
 refine TL.op (OpR.alloc rfl rfl (fun _ => rfl)) rfl (fun p13 => ?_)
 refine TL.op0 (OpR.store 0 rfl rfl rfl rfl rfl rfl rfl rfl) ?_
 refine aN rfl ?_
 refine aS ?_
 iterate 2 refine aA rfl rfl ?_
 refine TL.op1 (OpR.loadPtr 0 rfl rfl rfl rfl) rfl ?_
 obtain ⟨x14, hx14, q7⟩ := bS q7
 refine TL.op1 (OpR.call0 fn44 (filter_Holds_nil_c hx14) rfl) rfl ?_
 refine aA rfl rfl ?_
 refine aN rfl ?_
 rcases ite_some q7 with ⟨c15, q7⟩ | ⟨c15, q7⟩
 · refine T.condF rfl (not_t (c15)) ?_
   refine aK rfl ?_
   refine T.region ?_
   iterate 2 refine aA rfl rfl ?_
   refine TL.nil ?_
   obtain rfl := osi q7
   exact ⟨m5, Nat.lt_succ_self _, _, gP [1, 3, 6, 9, 10, 11] [] rfl rfl rfl, w64 (s3 + 1), rfl, i8⟩
 refine T.condT rfl (not_f (eq_false_of_ne_true c15)) ?_
 refine aS ?_
 refine aA rfl rfl ?_
 refine aN rfl ?_
 refine T.ret ?_
 obtain rfl := osi q7
 obtain rfl : _ = _ := i8
 obtain rfl := osi h0
 exact rP [] [6] [] rfl rfl rfl undef (cT rfl ResL.nil) rfl rfl rfl rfl
noncomputable def filter_Show_1_2 (a0 : row_Row) (a1 : List filter_Test) : Option Bool :=
  bnd (filter_all_nil a0 a1) fun x1 =>
  some (!x1)
theorem filter_Show_1_2_c {a0 : row_Row} {a1 : List filter_Test} {b0 : Nat} {b1 : Nat} {res : Bool} (h0 : filter_Show_1_2 a0 a1 = some res) : CallF X 117 [.agg [.sl 5 (List.map e_cell_Cell a0.fCells), dN a0.fEnd, dT a0.fHidden], dP b0, dP b1] [.var b0 [dQ] 28, .var b1 [.sl 4 (List.map e_filter_Test a1)] 88] (fun x => (dT res)) (fun x => [.var b0 [dQ] 28, .var b1 [.sl 4 (List.map e_filter_Test a1)] 88]) := by
 unfold filter_Show_1_2 at h0
 refine CallF.mkG (X := X) rfl Tryz.func117 rfl rfl Tryz.ntmps117 rfl rfl ?_
 refine aS ?_
 refine TL.op1 (OpR.boxImm rfl rfl) rfl ?_
 refine aA rfl rfl ?_
 refine aN rfl ?_
 refine aS ?_
 refine aA rfl rfl ?_
 refine TL.op1 (OpR.loadPtr 0 rfl rfl rfl rfl) rfl ?_
 refine TL.op1 (OpR.loadPtr 1 rfl rfl rfl rfl) rfl ?_
 obtain ⟨x1, hx1, h0⟩ := bS h0
 refine TL.op1 (OpR.call0 fn118 (filter_all_nil_c hx1) rfl) rfl ?_
 iterate 2 refine aA rfl rfl ?_
 refine aN rfl ?_
 refine T.ret ?_
 obtain rfl := osi h0
 exact rO [0, 1] [4] rfl undef (cT rfl ResL.nil) rfl rfl rfl rfl
noncomputable def filter_hide_1_3 (a0 : Int) (a1 : row_Row) (a2 : List filter_Test) : Option row_Row :=
  bnd (filter_Show_1_2 a1 a2) fun x3 =>
  bnd (row_Row_Hide a1 x3) fun x4 =>
  some x4
theorem filter_hide_1_3_c {a0 : Int} {a1 : row_Row} {a2 : List filter_Test} {b0 : Nat} {b1 : Nat} {b2 : Nat} {res : row_Row} (h0 : filter_hide_1_3 a0 a1 a2 = some res) : CallF X 185 [dN a0, .agg [.sl 5 (List.map e_cell_Cell a1.fCells), dN a1.fEnd, dT a1.fHidden], dP b0] [.var b0 [.fn (.func 117) [] [dP b1, dP b2]] 130, .var b1 [dQ] 28, .var b2 [.sl 4 (List.map e_filter_Test a2)] 88] (fun x => .agg [.sl 5 (List.map e_cell_Cell res.fCells), dN res.fEnd, dT res.fHidden]) (fun x => [.var b0 [.fn (.func 117) [] [dP b1, dP b2]] 130, .var b1 [dQ] 28, .var b2 [.sl 4 (List.map e_filter_Test a2)] 88]) := by
 unfold filter_hide_1_3 at h0
 refine CallF.mkG (X := X) rfl Tryz.func185 rfl rfl Tryz.ntmps185 rfl rfl ?_
 refine aS ?_
 refine TL.op1 (OpR.boxImm rfl rfl) rfl ?_
 refine TL.op (OpR.alloc rfl rfl (fun _ => rfl)) rfl (fun p1 => ?_)
 refine aN rfl ?_
 refine T.seq ?_
 obtain ⟨x3, hx3, h0⟩ := bS h0
 obtain ⟨x4, hx4, h0⟩ := bS h0
 refine T.drawS drawsX (fun env2 => [.agg [.sl 5 (List.map e_cell_Cell a1.fCells), dN a1.fEnd, dT a1.fHidden], .fn (.func 117) [] [dP b1, dP b2], .agg [.sl 5 (List.map e_cell_Cell a1.fCells), dN a1.fEnd, dT a1.fHidden], dT x3, .agg [.sl 5 (List.map e_cell_Cell x4.fCells), dN x4.fEnd, dT x4.fHidden], .dead]) (fun D env2 => [.var b0 [.fn (.func 117) [] [dP b1, dP b2]] 130, .var b1 [dQ] 28, .var b2 [.sl 4 (List.map e_filter_Test a2)] 88, (bif D 5 then .var (blk p1) [.sl 5 (List.map e_cell_Cell x4.fCells), dN x4.fEnd, dT x4.fHidden] 49 else .var (blk p1) [.val (.slice none 0 0), dN 0, dT false] 49)]) [0, 0, 0, 6, 15, 31] [5] _ (by decide +kernel) (by decide +kernel) (fun _ => rfl) (fun _ => rfl) ?_ (fun _ => rfl) (fun _ => rfl) ?_
 rotate_left
 · intro env2
   show T X _ _ _
   refine T.ret ?_
   obtain rfl := osi h0
   exact rO [0, 1, 2] [5] rfl undef (cV 3 rfl rfl rfl rfl ResL.nil) rfl rfl rfl rfl
 refine aC ?_
 refine oT (.fn (.func 117) [] [dP b1, dP b2]) (fun _ _ => OpR.loadPtr 0 rfl rfl rfl rfl) ?_
 refine aC ?_
 refine OpsS.cons' true ?_ (fun _ _ _ _ _ _ _ => rfl) ?_
 · intro D env2 hA
   have e5 : D 5 = false := hA.no 5 _ rfl rfl
   exact OpS.yp [(5, false)] ⟨e5, trivial⟩ (Want.plain rfl) (OpR.callV [1, 2] rfl fn117 (filter_Show_1_2_c hx3) rfl rfl rfl (fun _ => rfl)) (fun x => rfl) (fun x => rfl)
 refine oT (.agg [.sl 5 (List.map e_cell_Cell x4.fCells), dN x4.fEnd, dT x4.fHidden]) (fun _ _ => OpR.call0 fn121 (row_Row_Hide_c hx4) rfl) ?_
 refine OpsS.cons' true ?_ (fun _ _ _ _ _ _ _ => rfl) ?_
 · intro D env2 hA
   exact OpS.yp [(5, false)] ⟨hA.me, trivial⟩ (Want.plain rfl) (OpR.store 3 rfl rfl rfl rfl rfl rfl rfl rfl) (fun x => rfl) (fun x => rfl)
 exact trivial
noncomputable def walk_Map_row_Row_3.l1 (a1 : List filter_Test) (x3 : (List row_Row)) (s6 : Int × (List row_Row)) : Option (Lp (Int × (List row_Row)) (List row_Row)) :=
  if s6.1 < (x3.length : Int) then
    bnd (idx s6.2 s6.1) fun x15 =>
    bnd (filter_hide_1_3 s6.1 x15 a1) fun x17 =>
    some (Lp.next (w64 (s6.1 + 1), (s6.2.set s6.1.toNat x17)))
  else
    some (Lp.done s6.2)
noncomputable def walk_Map_row_Row_3 (a0 : tTr) (a1 : List filter_Test) : Option tTr :=
  bnd (walk_All_row_Row a0) fun x2 =>
  bnd (slices_Clone_row_Row_row_Row x2) fun x3 =>
  bnd (loop (walk_Map_row_Row_3.l1 a1 x3) (0, x3) : Option (List row_Row)) fun t5 =>
  bnd (tree_Of_row_Row t5) fun x18 =>
  some x18
theorem walk_Map_row_Row_3_c {a0 : tTr} {a1 : List filter_Test} {b0 : Nat} {b1 : Nat} {b2 : Nat} {res : tTr} (h0 : walk_Map_row_Row_3 a0 a1 = some res) : CallF X 137 [.agg [(eOP a0.fRoot)], .fn (.func 185) [] [dP b0]] [.var b0 [.fn (.func 117) [] [dP b1, dP b2]] 130, .var b1 [dQ] 28, .var b2 [.sl 4 (List.map e_filter_Test a1)] 88] (fun x => .agg [(eOP res.fRoot)]) (fun x => [.var b0 [.fn (.func 117) [] [dP b1, dP b2]] 130, .var b1 [dQ] 28, .var b2 [.sl 4 (List.map e_filter_Test a1)] 88]) := by
 unfold walk_Map_row_Row_3 at h0
 refine CallF.mkG (X := X) rfl Tryz.func137 rfl rfl Tryz.ntmps137 rfl rfl ?_
 refine aS ?_
 refine TL.op1 (OpR.boxImm rfl rfl) rfl ?_
 refine TL.op (OpR.alloc rfl rfl (fun _ => rfl)) rfl (fun p1 => ?_)
 refine aN rfl ?_
 refine aS ?_
 refine aA rfl rfl ?_
 obtain ⟨x2, hx2, h0⟩ := bS h0
 refine TL.op1 (OpR.call0 fn100 (walk_All_row_Row_c hx2) rfl) rfl ?_
 obtain ⟨x3, hx3, h0⟩ := bS h0
 refine TL.op (OpR.call [] fn191 (slices_Clone_row_Row_row_Row_c hx3) rfl rfl rfl (fun _ => rfl)) rfl (fun w4 => ?_)
 refine aA rfl rfl ?_
 refine aN rfl ?_
 refine T.seq ?_
 refine aS ?_
 refine aA rfl rfl ?_
 refine TL.op1 (OpR.rowLenM e_row_Row 4 rfl rfl rfl rfl) rfl ?_
 refine aA rfl rfl ?_
 refine aN rfl ?_
 obtain ⟨t5, ht5, h0⟩ := bS h0
 refine T.cutC (fun S' => S' = ⟨[(5, .val (vn w4 0)), (4, (dP (blk p1)))], [.var b0 [.fn (.func 117) [] [dP b1, dP b2]] 130, .var b1 [dQ] 28, .var b2 [.sl 4 (List.map e_filter_Test a1)] 88, .var (blk p1) [(eOP none)] 25, .row (vn w4 0) (List.map e_row_Row t5) 3 49], 28⟩) (fun _ h => h) ?_ ?_
 rotate_left
 · rintro _ rfl
   show T X _ _ _
   refine aS ?_
   refine aA rfl rfl ?_
   refine TL.ghost (Gst.freezeRow 4 rfl rfl (ReS.cons (Re.base .all) (ReS.refl _)) (ReO.same (ReO.same (ReO.same (ReO.same (ReO.same ReO.nil)))))) ?_
   obtain ⟨x18, hx18, h0⟩ := bS h0
   refine TL.op1 (OpR.call0 fn101 (tree_Of_row_Row_c hx18) rfl) rfl ?_
   refine TL.op0 (OpR.store 3 rfl rfl rfl rfl rfl rfl rfl rfl) ?_
   refine aN rfl ?_
   refine T.ret ?_
   obtain rfl := osi h0
   exact rP [0, 1, 2] [4] [0, 1, 2, 3] rfl rfl rfl undef (cV 3 rfl rfl rfl rfl ResL.nil) rfl rfl rfl rfl
 refine T.block ?_
 obtain ⟨n7, n12⟩ := loop_some ht5
 refine T.loop (fun n S' => ∃ S'', Gst S' S'' ∧ ∃ s6 : Int × (List row_Row), S'' = ⟨[(13, (dN s6.1)), (12, (dN (x3.length : Int))), (11, .val (vn w4 0)), (5, .val (vn w4 0)), (4, (dP (blk p1))), (1, .fn (.func 185) [] [dP b0])], [.var b0 [.fn (.func 117) [] [dP b1, dP b2]] 130, .var b1 [dQ] 28, .var b2 [.sl 4 (List.map e_filter_Test a1)] 88, .var (blk p1) [(eOP none)] 25, .row (vn w4 0) (List.map e_row_Row s6.2) 3 49], 28⟩ ∧ iter (walk_Map_row_Row_3.l1 a1 x3) n s6 = some t5) n7 ?_ ?_
 · exact ⟨_, Gst.only [1, 4, 5, 11, 12, 13] rfl, (0, x3), rfl, n12⟩
 rintro n7 _ ⟨_, g, s6, rfl, i11⟩
 refine T.ghost g ?_
 obtain ⟨m8, q9, rfl, q10, i11⟩ := iter_succ i11
 unfold walk_Map_row_Row_3.l1 at q10
 refine aS ?_
 refine aA rfl rfl ?_
 refine aN rfl ?_
 refine T.seq ?_
 rcases ite_some q10 with ⟨c14, q10⟩ | ⟨c14, q10⟩
 rotate_left
 · refine T.condF rfl (eF c14) ?_
   refine T.exit ?_
   obtain rfl := osi q10
   obtain rfl : _ = _ := i11
   exact ⟨_, Gst.only [4, 5] rfl, rfl⟩
 refine T.condT rfl (eT c14) ?_
 refine aK rfl ?_
 refine T.seq ?_
 refine T.block ?_
 refine aS ?_
 refine aA rfl rfl ?_
 obtain ⟨x15, hx15, q10⟩ := bS q10
 refine TL.op1 (OpR.rowIndexM e_row_Row 4 hx15 rfl rfl rfl rfl rfl rfl rfl) rfl ?_
 refine TL.op1 (OpR.rowLoad0M (j := s6.1) e_row_Row 4 hx15 rfl rfl rfl rfl) rfl ?_
 refine TL.op (OpR.alloc rfl rfl (fun _ => rfl)) rfl (fun p16 => ?_)
 refine aA rfl rfl ?_
 refine TL.op0 (OpR.store 5 rfl rfl rfl rfl rfl rfl rfl rfl) ?_
 refine aN rfl ?_
 refine T.region ?_
 iterate 4 refine aA rfl rfl ?_
 refine TL.op1 (OpR.loadPtr 5 rfl rfl rfl rfl) rfl ?_
 obtain ⟨x17, hx17, q10⟩ := bS q10
 refine TL.op1 (OpR.callV [0, 1, 2] rfl fn185 (filter_hide_1_3_c hx17) rfl rfl rfl (fun _ => rfl)) rfl ?_
 refine TL.op1 (OpR.rowIndexM e_row_Row 4 hx15 rfl rfl rfl rfl rfl rfl rfl) rfl ?_
 refine TL.op0 (OpR.rowStore0M (j := s6.1) e_row_Row x17 4 hx15 rfl rfl rfl rfl rfl rfl rfl rfl rfl) ?_
 refine aN rfl ?_
 refine T.region ?_
 iterate 2 refine aA rfl rfl ?_
 refine TL.nil ?_
 obtain rfl := osi q10
 exact ⟨m8, Nat.lt_succ_self _, _, gP [1, 4, 5, 11, 12, 13] [0, 1, 2, 3, 4] rfl rfl rfl, (w64 (s6.1 + 1), (s6.2.set s6.1.toNat x17)), rfl, i11⟩
noncomputable def filter_hide_3 (a0 : grid_Grid) (a1 : List filter_Test) : Option grid_Grid :=
  bnd (walk_Map_row_Row_3 a0.fRows a1) fun x4 =>
  some (⟨x4, a0.fTail, a0.fEnd⟩ : grid_Grid)
theorem filter_hide_3_c {a0 : grid_Grid} {a1 : List filter_Test} {b0 : Nat} {b1 : Nat} {res : grid_Grid} (h0 : filter_hide_3 a0 a1 = some res) : CallF X 116 [.agg [(eOP a0.fRows.fRoot), dT a0.fTail, dN a0.fEnd], .fn (.func 117) [] [dP b0, dP b1]] [.var b0 [dQ] 28, .var b1 [.sl 4 (List.map e_filter_Test a1)] 88] (fun x => .agg [(eOP res.fRows.fRoot), dT res.fTail, dN res.fEnd]) (fun x => [.var b0 [dQ] 28, .var b1 [.sl 4 (List.map e_filter_Test a1)] 88]) := by
 unfold filter_hide_3 at h0
 refine CallF.mkG (X := X) rfl Tryz.func116 rfl rfl Tryz.ntmps116 rfl rfl ?_
 refine aS ?_
 refine TL.op (OpR.boxVar rfl rfl (fun _ => rfl)) rfl (fun p1 => ?_)
 refine TL.op (OpR.boxVar rfl rfl (fun _ => rfl)) rfl (fun p2 => ?_)
 refine TL.op (OpR.alloc rfl rfl (fun _ => rfl)) rfl (fun p3 => ?_)
 refine aN rfl ?_
 refine aS ?_
 refine aA rfl rfl ?_
 refine TL.op1 (OpR.loadPtr 2 rfl rfl rfl rfl) rfl ?_
 refine aA rfl rfl ?_
 obtain ⟨x4, hx4, h0⟩ := bS h0
 refine TL.op1 (OpR.call [3, 0, 1] fn137 (walk_Map_row_Row_3_c hx4) rfl rfl rfl (fun _ => rfl)) rfl ?_
 refine aA rfl rfl ?_
 refine TL.op0 (OpR.store 2 rfl rfl rfl rfl rfl rfl rfl rfl) ?_
 refine aN rfl ?_
 refine aS ?_
 refine TL.op1 (OpR.loadPtr 2 rfl rfl rfl rfl) rfl ?_
 refine TL.op0 (OpR.store 4 rfl rfl rfl rfl rfl rfl rfl rfl) ?_
 refine aN rfl ?_
 refine T.ret ?_
 obtain rfl := osi h0
 exact rP [0, 1] [4] [0, 1, 4] rfl rfl rfl undef (cV 2 rfl rfl rfl rfl ResL.nil) rfl rfl rfl rfl
noncomputable def filter_Show_nil (a0 : grid_Grid) (a1 : List filter_Test) : Option (grid_Grid × Int) :=
  bnd (filter_wrong a1) fun x4 =>
  if x4 = true then
    some ((⟨(⟨none⟩ : tTr), false, 0⟩ : grid_Grid), 1)
  else
    bnd (filter_hide_3 a0 a1) fun x6 =>
    some (x6, 0)
theorem filter_Show_nil_c {a0 : grid_Grid} {a1 : List filter_Test} {res : grid_Grid × Int} (h0 : filter_Show_nil a0 a1 = some res) : CallF X 47 [.agg [(eOP a0.fRows.fRoot), dT a0.fTail, dN a0.fEnd], dQ, .sl 4 (List.map e_filter_Test a1)] [] (fun x => .tup [.agg [(eOP res.1.fRows.fRoot), dT res.1.fTail, dN res.1.fEnd], dN res.2]) (fun x => []) := by
 unfold filter_Show_nil at h0
 refine CallF.mkG (X := X) rfl Tryz.func47 rfl rfl Tryz.ntmps47 rfl rfl ?_
 refine aS ?_
 refine TL.op1 (OpR.boxImm rfl rfl) rfl ?_
 refine TL.op (OpR.boxVar rfl rfl (fun _ => rfl)) rfl (fun p1 => ?_)
 refine TL.op (OpR.boxVar rfl rfl (fun _ => rfl)) rfl (fun p2 => ?_)
 refine TL.op (OpR.alloc rfl rfl (fun _ => rfl)) rfl (fun p3 => ?_)
 refine aA rfl rfl ?_
 refine aN rfl ?_
 refine T.seq ?_
 refine aS ?_
 refine TL.op1 (OpR.loadPtr 1 rfl rfl rfl rfl) rfl ?_
 obtain ⟨x4, hx4, h0⟩ := bS h0
 refine TL.op1 (OpR.call0 fn115 (filter_wrong_c hx4) rfl) rfl ?_
 refine aN rfl ?_
 rcases ite_some h0 with ⟨c5, h0⟩ | ⟨c5, h0⟩
 · refine T.condT rfl (c5) ?_
   refine aS ?_
   refine TL.op1 (OpR.build rfl rfl rfl rfl rfl) rfl ?_
   refine TL.op0 (OpR.store 2 rfl rfl rfl rfl rfl rfl rfl rfl) ?_
   refine aA rfl rfl ?_
   refine aN rfl ?_
   refine T.ret ?_
   obtain rfl := osi h0
   exact rP [] [6, 7] [2] rfl rfl rfl undef (cV 0 rfl rfl rfl rfl (cT rfl ResL.nil)) rfl rfl rfl rfl
 refine T.condF rfl (eq_false_of_ne_true c5) ?_
 refine aK rfl ?_
 refine aS ?_
 iterate 2 refine aA rfl rfl ?_
 obtain ⟨x6, hx6, h0⟩ := bS h0
 refine TL.op1 (OpR.call [0, 1] fn116 (filter_hide_3_c hx6) rfl rfl rfl (fun _ => rfl)) rfl ?_
 refine TL.op0 (OpR.store 2 rfl rfl rfl rfl rfl rfl rfl rfl) ?_
 refine aA rfl rfl ?_
 refine aN rfl ?_
 refine T.ret ?_
 obtain rfl := osi h0
 exact rP [] [6, 7] [2] rfl rfl rfl undef (cV 0 rfl rfl rfl rfl (cT rfl ResL.nil)) rfl rfl rfl rfl
noncomputable def law18_awake : Option Bool :=
  bnd (filter_Parse [50, 60, 49, 48]) fun x1 =>
  bnd (filter_Parse [33, 49, 63]) fun x3 =>
  bnd (grid_Load [97, 44, 57, 10, 98, 44, 49, 48, 10, 99]) fun x6 =>
  match x6 with
  | .inl x6 =>
      bnd (filter_Show x6.1 [x1.1] x6.2.2) fun x9 =>
      bnd (if x1.2 = 0 then
        if x1.1 = (⟨1, 2, [49, 48], false⟩ : filter_Test) then
          if x3.2 = 0 then
            if x3.1 = (⟨0, 6, [], true⟩ : filter_Test) then
              if x9.2 = 0 then
                bnd (grid_Grid_Visible x9.1) fun x17 =>
                if (x17.length : Int) = 1 then
                  bnd (filter_All x9.1) fun x19 =>
                  bnd (grid_Grid_Visible x19) fun x20 =>
                  some ((x20.length : Int) == 3)
                else
                  some false
              else
                some false
            else
              some false
          else
            some false
        else
          some false
      else
        some false : Option Bool) fun t11 =>
      some t11
  | .inr x6 =>
      bnd (filter_Show_nil x6.1 [x1.1]) fun x22 =>
      bnd (if x1.2 = 0 then
        if x1.1 = (⟨1, 2, [49, 48], false⟩ : filter_Test) then
          if x3.2 = 0 then
            if x3.1 = (⟨0, 6, [], true⟩ : filter_Test) then
              if x22.2 = 0 then
                bnd (grid_Grid_Visible x22.1) fun x30 =>
                if (x30.length : Int) = 1 then
                  bnd (filter_All x22.1) fun x32 =>
                  bnd (grid_Grid_Visible x32) fun x33 =>
                  some ((x33.length : Int) == 3)
                else
                  some false
              else
                some false
            else
              some false
          else
            some false
        else
          some false
      else
        some false : Option Bool) fun t24 =>
      some t24
theorem law18_awake_c {res : Bool} (h0 : law18_awake = some res) : CallF X 38 [] [] (fun x => (dT res)) (fun x => []) := by
 unfold law18_awake at h0
 refine CallF.mkG (X := X) rfl Tryz.func38 rfl rfl Tryz.ntmps38 rfl rfl ?_
 refine aS ?_
 refine aA rfl rfl ?_
 refine aN rfl ?_
 refine aS ?_
 obtain ⟨x1, hx1, h0⟩ := bS h0
 refine TL.op1 (OpR.call0 fn31 (filter_Parse_c hx1) rfl) rfl ?_
 iterate 3 refine aA rfl rfl ?_
 refine TL.op (OpR.alloc rfl rfl (fun _ => rfl)) rfl (fun p2 => ?_)
 refine TL.op0 (OpR.store 0 rfl rfl rfl rfl rfl rfl rfl rfl) ?_
 refine aA rfl rfl ?_
 refine aN rfl ?_
 refine aS ?_
 obtain ⟨x3, hx3, h0⟩ := bS h0
 refine TL.op1 (OpR.call0 fn31 (filter_Parse_c hx3) rfl) rfl ?_
 iterate 3 refine aA rfl rfl ?_
 refine TL.op (OpR.alloc rfl rfl (fun _ => rfl)) rfl (fun p4 => ?_)
 refine TL.op0 (OpR.store 1 rfl rfl rfl rfl rfl rfl rfl rfl) ?_
 refine aA rfl rfl ?_
 refine aN rfl ?_
 refine aS ?_
 refine TL.op (OpR.litRow rfl rfl rfl rfl rfl rfl rfl rfl (fun _ => rfl)) rfl (fun v5 => ?_)
 refine TL.op1 (OpR.markRow 2 rfl rfl rfl rfl rfl rfl rfl rfl) rfl ?_
 obtain ⟨x6, hx6, h0⟩ := bS h0
 rcases x6 with x6 | x6
 rotate_left
 · dsimp only at h0
   refine TL.op1 (OpR.call0 fn67 (grid_Load_cx2 hx6) rfl) rfl ?_
   iterate 4 refine aA rfl rfl ?_
   refine TL.op (OpR.alloc rfl rfl (fun _ => rfl)) rfl (fun p21 => ?_)
   refine TL.op0 (OpR.store 3 rfl rfl rfl rfl rfl rfl rfl rfl) ?_
   iterate 2 refine aA rfl rfl ?_
   refine aN rfl ?_
   refine aS ?_
   refine TL.op1 (OpR.loadPtr 3 rfl rfl rfl rfl) rfl ?_
   refine aA rfl rfl ?_
   refine TL.op1 (OpR.loadPtr 0 rfl rfl rfl rfl) rfl ?_
   refine TL.op1 (OpR.lit rfl rfl rfl rfl rfl rfl rfl) rfl ?_
   obtain ⟨x22, hx22, h0⟩ := bS h0
   refine TL.op1 (OpR.call0 fn47 (filter_Show_nil_c hx22) rfl) rfl ?_
   iterate 3 refine aA rfl rfl ?_
   refine TL.op (OpR.alloc rfl rfl (fun _ => rfl)) rfl (fun p23 => ?_)
   refine TL.op0 (OpR.store 4 rfl rfl rfl rfl rfl rfl rfl rfl) ?_
   refine aA rfl rfl ?_
   refine aN rfl ?_
   refine T.seq ?_
   obtain ⟨t24, ht24, h0⟩ := bS h0
   refine T.cutC (fun S' => S' = ⟨[(0, (dT t24))], [], 66⟩) (fun _ h => h) ?_ ?_
   rotate_left
   · rintro _ rfl
     show T X _ _ _
     refine T.ret ?_
     obtain rfl := osi h0
     exact rO [] [0] rfl undef (cT rfl ResL.nil) rfl rfl rfl rfl
   refine T.region ?_
   iterate 3 refine aA rfl rfl ?_
   rcases ite_some ht24 with ⟨c25, ht24⟩ | ⟨c25, ht24⟩
   rotate_left
   · refine TL.off rfl rfl rfl rfl (beq_eq_false_iff_ne.2 c25) rfl rfl ?_
     refine TL.off rfl rfl rfl rfl (beq_eq_false_iff_ne.2 c25) rfl rfl ?_
     refine TL.off rfl rfl rfl rfl (beq_eq_false_iff_ne.2 c25) rfl rfl ?_
     refine TL.op1 (OpR.pickF rfl (beq_eq_false_iff_ne.2 c25) rfl) rfl ?_
     refine aA rfl rfl ?_
     refine TL.off rfl rfl rfl rfl rfl rfl rfl ?_
     refine TL.off rfl rfl rfl rfl rfl rfl rfl ?_
     refine TL.op1 (OpR.pickF rfl rfl rfl) rfl ?_
     refine aA rfl rfl ?_
     refine TL.off rfl rfl rfl rfl rfl rfl rfl ?_
     refine TL.off rfl rfl rfl rfl rfl rfl rfl ?_
     refine TL.off rfl rfl rfl rfl rfl rfl rfl ?_
     refine TL.op1 (OpR.pickF rfl rfl rfl) rfl ?_
     refine aA rfl rfl ?_
     refine TL.off rfl rfl rfl rfl rfl rfl rfl ?_
     refine TL.off rfl rfl rfl rfl rfl rfl rfl ?_
     refine TL.op1 (OpR.pickF rfl rfl rfl) rfl ?_
     refine aA rfl rfl ?_
     refine TL.off rfl rfl rfl rfl rfl rfl rfl ?_
     refine TL.off rfl rfl rfl rfl rfl rfl rfl ?_
     refine TL.off rfl rfl rfl rfl rfl rfl rfl ?_
     refine TL.off rfl rfl rfl rfl rfl rfl rfl ?_
     refine TL.op1 (OpR.pickF rfl rfl rfl) rfl ?_
     refine aA rfl rfl ?_
     refine TL.off rfl rfl rfl rfl rfl rfl rfl ?_
     refine TL.off rfl rfl rfl rfl rfl rfl rfl ?_
     refine TL.off rfl rfl rfl rfl rfl rfl rfl ?_
     refine TL.off rfl rfl rfl rfl rfl rfl rfl ?_
     refine TL.off rfl rfl rfl rfl rfl rfl rfl ?_
     refine TL.op1 (OpR.pickF rfl rfl rfl) rfl ?_
     refine aA rfl rfl ?_
     refine TL.nil ?_
     obtain rfl := osi ht24
     exact ⟨_, gP [0] [] rfl rfl rfl, rfl⟩
   refine TL.on rfl rfl rfl rfl (beq_iff_eq.2 c25) ?_
   refine TL.op1 (OpR.loadPtr 0 rfl rfl rfl rfl) rfl ?_
   refine TL.on rfl rfl rfl rfl (beq_iff_eq.2 c25) ?_
   refine TL.op1 (OpR.build rfl rfl rfl rfl rfl) rfl ?_
   refine TL.on rfl rfl rfl rfl (beq_iff_eq.2 c25) ?_
   refine TL.op1 (OpR.cast (OpR.eqStruct rfl rfl rfl rfl rfl (by kernel_rfl) (by kernel_rfl)) (boolE (beq_filter_Test x1.1 (⟨1, 2, [49, 48], false⟩ : filter_Test)))) rfl ?_
   refine TL.op1 (OpR.pickT rfl (beq_iff_eq.2 c25) rfl) rfl ?_
   refine aA rfl rfl ?_
   rcases ite_some ht24 with ⟨c26, ht24⟩ | ⟨c26, ht24⟩
   rotate_left
   · refine TL.off rfl rfl rfl rfl (beq_eq_false_iff_ne.2 c26) rfl rfl ?_
     refine TL.off rfl rfl rfl rfl (beq_eq_false_iff_ne.2 c26) rfl rfl ?_
     refine TL.op1 (OpR.pickF rfl (beq_eq_false_iff_ne.2 c26) rfl) rfl ?_
     refine aA rfl rfl ?_
     refine TL.off rfl rfl rfl rfl rfl rfl rfl ?_
     refine TL.off rfl rfl rfl rfl rfl rfl rfl ?_
     refine TL.off rfl rfl rfl rfl rfl rfl rfl ?_
     refine TL.op1 (OpR.pickF rfl rfl rfl) rfl ?_
     refine aA rfl rfl ?_
     refine TL.off rfl rfl rfl rfl rfl rfl rfl ?_
     refine TL.off rfl rfl rfl rfl rfl rfl rfl ?_
     refine TL.op1 (OpR.pickF rfl rfl rfl) rfl ?_
     refine aA rfl rfl ?_
     refine TL.off rfl rfl rfl rfl rfl rfl rfl ?_
     refine TL.off rfl rfl rfl rfl rfl rfl rfl ?_
     refine TL.off rfl rfl rfl rfl rfl rfl rfl ?_
     refine TL.off rfl rfl rfl rfl rfl rfl rfl ?_
     refine TL.op1 (OpR.pickF rfl rfl rfl) rfl ?_
     refine aA rfl rfl ?_
     refine TL.off rfl rfl rfl rfl rfl rfl rfl ?_
     refine TL.off rfl rfl rfl rfl rfl rfl rfl ?_
     refine TL.off rfl rfl rfl rfl rfl rfl rfl ?_
     refine TL.off rfl rfl rfl rfl rfl rfl rfl ?_
     refine TL.off rfl rfl rfl rfl rfl rfl rfl ?_
     refine TL.op1 (OpR.pickF rfl rfl rfl) rfl ?_
     refine aA rfl rfl ?_
     refine TL.nil ?_
     obtain rfl := osi ht24
     exact ⟨_, gP [0] [] rfl rfl rfl, rfl⟩
   refine TL.on rfl rfl rfl rfl (beq_iff_eq.2 c26) ?_
   refine aA rfl rfl ?_
   refine TL.on rfl rfl rfl rfl (beq_iff_eq.2 c26) ?_
   refine aA rfl rfl ?_
   refine TL.op1 (OpR.pickT rfl (beq_iff_eq.2 c26) rfl) rfl ?_
   refine aA rfl rfl ?_
   rcases ite_some ht24 with ⟨c27, ht24⟩ | ⟨c27, ht24⟩
   rotate_left
   · refine TL.off rfl rfl rfl rfl (beq_eq_false_iff_ne.2 c27) rfl rfl ?_
     refine TL.off rfl rfl rfl rfl (beq_eq_false_iff_ne.2 c27) rfl rfl ?_
     refine TL.off rfl rfl rfl rfl (beq_eq_false_iff_ne.2 c27) rfl rfl ?_
     refine TL.op1 (OpR.pickF rfl (beq_eq_false_iff_ne.2 c27) rfl) rfl ?_
     refine aA rfl rfl ?_
     refine TL.off rfl rfl rfl rfl rfl rfl rfl ?_
     refine TL.off rfl rfl rfl rfl rfl rfl rfl ?_
     refine TL.op1 (OpR.pickF rfl rfl rfl) rfl ?_
     refine aA rfl rfl ?_
     refine TL.off rfl rfl rfl rfl rfl rfl rfl ?_
     refine TL.off rfl rfl rfl rfl rfl rfl rfl ?_
     refine TL.off rfl rfl rfl rfl rfl rfl rfl ?_
     refine TL.off rfl rfl rfl rfl rfl rfl rfl ?_
     refine TL.op1 (OpR.pickF rfl rfl rfl) rfl ?_
     refine aA rfl rfl ?_
     refine TL.off rfl rfl rfl rfl rfl rfl rfl ?_
     refine TL.off rfl rfl rfl rfl rfl rfl rfl ?_
     refine TL.off rfl rfl rfl rfl rfl rfl rfl ?_
     refine TL.off rfl rfl rfl rfl rfl rfl rfl ?_
     refine TL.off rfl rfl rfl rfl rfl rfl rfl ?_
     refine TL.op1 (OpR.pickF rfl rfl rfl) rfl ?_
     refine aA rfl rfl ?_
     refine TL.nil ?_
     obtain rfl := osi ht24
     exact ⟨_, gP [0] [] rfl rfl rfl, rfl⟩
   refine TL.on rfl rfl rfl rfl (beq_iff_eq.2 c27) ?_
   refine TL.op1 (OpR.loadPtr 1 rfl rfl rfl rfl) rfl ?_
   refine TL.on rfl rfl rfl rfl (beq_iff_eq.2 c27) ?_
   refine TL.op1 (OpR.build rfl rfl rfl rfl rfl) rfl ?_
   refine TL.on rfl rfl rfl rfl (beq_iff_eq.2 c27) ?_
   refine TL.op1 (OpR.cast (OpR.eqStruct rfl rfl rfl rfl rfl (by kernel_rfl) (by kernel_rfl)) (boolE (beq_filter_Test x3.1 (⟨0, 6, [], true⟩ : filter_Test)))) rfl ?_
   refine TL.op1 (OpR.pickT rfl (beq_iff_eq.2 c27) rfl) rfl ?_
   refine aA rfl rfl ?_
   rcases ite_some ht24 with ⟨c28, ht24⟩ | ⟨c28, ht24⟩
   rotate_left
   · refine TL.off rfl rfl rfl rfl (beq_eq_false_iff_ne.2 c28) rfl rfl ?_
     refine TL.off rfl rfl rfl rfl (beq_eq_false_iff_ne.2 c28) rfl rfl ?_
     refine TL.op1 (OpR.pickF rfl (beq_eq_false_iff_ne.2 c28) rfl) rfl ?_
     refine aA rfl rfl ?_
     refine TL.off rfl rfl rfl rfl rfl rfl rfl ?_
     refine TL.off rfl rfl rfl rfl rfl rfl rfl ?_
     refine TL.off rfl rfl rfl rfl rfl rfl rfl ?_
     refine TL.off rfl rfl rfl rfl rfl rfl rfl ?_
     refine TL.op1 (OpR.pickF rfl rfl rfl) rfl ?_
     refine aA rfl rfl ?_
     refine TL.off rfl rfl rfl rfl rfl rfl rfl ?_
     refine TL.off rfl rfl rfl rfl rfl rfl rfl ?_
     refine TL.off rfl rfl rfl rfl rfl rfl rfl ?_
     refine TL.off rfl rfl rfl rfl rfl rfl rfl ?_
     refine TL.off rfl rfl rfl rfl rfl rfl rfl ?_
     refine TL.op1 (OpR.pickF rfl rfl rfl) rfl ?_
     refine aA rfl rfl ?_
     refine TL.nil ?_
     obtain rfl := osi ht24
     exact ⟨_, gP [0] [] rfl rfl rfl, rfl⟩
   refine TL.on rfl rfl rfl rfl (beq_iff_eq.2 c28) ?_
   refine aA rfl rfl ?_
   refine TL.on rfl rfl rfl rfl (beq_iff_eq.2 c28) ?_
   refine aA rfl rfl ?_
   refine TL.op1 (OpR.pickT rfl (beq_iff_eq.2 c28) rfl) rfl ?_
   refine aA rfl rfl ?_
   rcases ite_some ht24 with ⟨c29, ht24⟩ | ⟨c29, ht24⟩
   rotate_left
   · refine TL.off rfl rfl rfl rfl (beq_eq_false_iff_ne.2 c29) rfl rfl ?_
     refine TL.off rfl rfl rfl rfl (beq_eq_false_iff_ne.2 c29) rfl rfl ?_
     refine TL.off rfl rfl rfl rfl (beq_eq_false_iff_ne.2 c29) rfl rfl ?_
     refine TL.off rfl rfl rfl rfl (beq_eq_false_iff_ne.2 c29) rfl rfl ?_
     refine TL.op1 (OpR.pickF rfl (beq_eq_false_iff_ne.2 c29) rfl) rfl ?_
     refine aA rfl rfl ?_
     refine TL.off rfl rfl rfl rfl rfl rfl rfl ?_
     refine TL.off rfl rfl rfl rfl rfl rfl rfl ?_
     refine TL.off rfl rfl rfl rfl rfl rfl rfl ?_
     refine TL.off rfl rfl rfl rfl rfl rfl rfl ?_
     refine TL.off rfl rfl rfl rfl rfl rfl rfl ?_
     refine TL.op1 (OpR.pickF rfl rfl rfl) rfl ?_
     refine aA rfl rfl ?_
     refine TL.nil ?_
     obtain rfl := osi ht24
     exact ⟨_, gP [0] [] rfl rfl rfl, rfl⟩
   refine TL.on rfl rfl rfl rfl (beq_iff_eq.2 c29) ?_
   refine TL.op1 (OpR.loadPtr 4 rfl rfl rfl rfl) rfl ?_
   refine TL.on rfl rfl rfl rfl (beq_iff_eq.2 c29) ?_
   obtain ⟨x30, hx30, ht24⟩ := bS ht24
   refine TL.op1 (OpR.call0 fn51 (grid_Grid_Visible_c hx30) rfl) rfl ?_
   refine TL.on rfl rfl rfl rfl (beq_iff_eq.2 c29) ?_
   refine TL.op1 (OpR.cast (OpR.pure rfl) (intE (lenM _ _))) rfl ?_
   refine TL.on rfl rfl rfl rfl (beq_iff_eq.2 c29) ?_
   refine aA rfl rfl ?_
   refine TL.op1 (OpR.pickT rfl (beq_iff_eq.2 c29) rfl) rfl ?_
   refine aA rfl rfl ?_
   rcases ite_some ht24 with ⟨c31, ht24⟩ | ⟨c31, ht24⟩
   rotate_left
   · refine TL.off rfl rfl rfl rfl (beq_eq_false_iff_ne.2 c31) rfl rfl ?_
     refine TL.off rfl rfl rfl rfl (beq_eq_false_iff_ne.2 c31) rfl rfl ?_
     refine TL.off rfl rfl rfl rfl (beq_eq_false_iff_ne.2 c31) rfl rfl ?_
     refine TL.off rfl rfl rfl rfl (beq_eq_false_iff_ne.2 c31) rfl rfl ?_
     refine TL.off rfl rfl rfl rfl (beq_eq_false_iff_ne.2 c31) rfl rfl ?_
     refine TL.op1 (OpR.pickF rfl (beq_eq_false_iff_ne.2 c31) rfl) rfl ?_
     refine aA rfl rfl ?_
     refine TL.nil ?_
     obtain rfl := osi ht24
     exact ⟨_, gP [0] [] rfl rfl rfl, rfl⟩
   refine TL.on rfl rfl rfl rfl (beq_iff_eq.2 c31) ?_
   refine TL.op1 (OpR.loadPtr 4 rfl rfl rfl rfl) rfl ?_
   refine TL.on rfl rfl rfl rfl (beq_iff_eq.2 c31) ?_
   obtain ⟨x32, hx32, ht24⟩ := bS ht24
   refine TL.op1 (OpR.call0 fn53 (filter_All_c hx32) rfl) rfl ?_
   refine TL.on rfl rfl rfl rfl (beq_iff_eq.2 c31) ?_
   obtain ⟨x33, hx33, ht24⟩ := bS ht24
   refine TL.op1 (OpR.call0 fn51 (grid_Grid_Visible_c hx33) rfl) rfl ?_
   refine TL.on rfl rfl rfl rfl (beq_iff_eq.2 c31) ?_
   refine TL.op1 (OpR.cast (OpR.pure rfl) (intE (lenM _ _))) rfl ?_
   refine TL.on rfl rfl rfl rfl (beq_iff_eq.2 c31) ?_
   refine aA rfl rfl ?_
   refine TL.op1 (OpR.pickT rfl (beq_iff_eq.2 c31) rfl) rfl ?_
   refine aA rfl rfl ?_
   refine TL.nil ?_
   obtain rfl := osi ht24
   exact ⟨_, gP [0] [] rfl rfl rfl, rfl⟩
 dsimp only at h0
 refine TL.op (OpR.call [] fn67 (grid_Load_cx1 hx6) rfl rfl rfl (fun _ => rfl)) rfl (fun w7 => ?_)
 iterate 4 refine aA rfl rfl ?_
 refine TL.op (OpR.alloc rfl rfl (fun _ => rfl)) rfl (fun p8 => ?_)
 refine TL.op0 (OpR.store 5 rfl rfl rfl rfl rfl rfl rfl rfl) ?_
 iterate 2 refine aA rfl rfl ?_
 refine aN rfl ?_
 refine aS ?_
 refine TL.op1 (OpR.loadPtr 5 rfl rfl rfl rfl) rfl ?_
 refine aA rfl rfl ?_
 refine TL.op1 (OpR.loadPtr 0 rfl rfl rfl rfl) rfl ?_
 refine TL.op1 (OpR.lit rfl rfl rfl rfl rfl rfl rfl) rfl ?_
 obtain ⟨x9, hx9, h0⟩ := bS h0
 refine TL.op1 (OpR.call [3, 4] fn47 (filter_Show_c hx9) rfl rfl rfl (fun _ => rfl)) rfl ?_
 iterate 3 refine aA rfl rfl ?_
 refine TL.op (OpR.alloc rfl rfl (fun _ => rfl)) rfl (fun p10 => ?_)
 refine TL.op0 (OpR.store 6 rfl rfl rfl rfl rfl rfl rfl rfl) ?_
 refine aA rfl rfl ?_
 refine aN rfl ?_
 refine T.seq ?_
 obtain ⟨t11, ht11, h0⟩ := bS h0
 refine T.cutC (fun S' => S' = ⟨[(0, (dT t11))], [], 66⟩) (fun _ h => h) ?_ ?_
 rotate_left
 · rintro _ rfl
   show T X _ _ _
   refine T.ret ?_
   obtain rfl := osi h0
   exact rO [] [0] rfl undef (cT rfl ResL.nil) rfl rfl rfl rfl
 refine T.region ?_
 iterate 3 refine aA rfl rfl ?_
 rcases ite_some ht11 with ⟨c12, ht11⟩ | ⟨c12, ht11⟩
 rotate_left
 · refine TL.off rfl rfl rfl rfl (beq_eq_false_iff_ne.2 c12) rfl rfl ?_
   refine TL.off rfl rfl rfl rfl (beq_eq_false_iff_ne.2 c12) rfl rfl ?_
   refine TL.off rfl rfl rfl rfl (beq_eq_false_iff_ne.2 c12) rfl rfl ?_
   refine TL.op1 (OpR.pickF rfl (beq_eq_false_iff_ne.2 c12) rfl) rfl ?_
   refine aA rfl rfl ?_
   refine TL.off rfl rfl rfl rfl rfl rfl rfl ?_
   refine TL.off rfl rfl rfl rfl rfl rfl rfl ?_
   refine TL.op1 (OpR.pickF rfl rfl rfl) rfl ?_
   refine aA rfl rfl ?_
   refine TL.off rfl rfl rfl rfl rfl rfl rfl ?_
   refine TL.off rfl rfl rfl rfl rfl rfl rfl ?_
   refine TL.off rfl rfl rfl rfl rfl rfl rfl ?_
   refine TL.op1 (OpR.pickF rfl rfl rfl) rfl ?_
   refine aA rfl rfl ?_
   refine TL.off rfl rfl rfl rfl rfl rfl rfl ?_
   refine TL.off rfl rfl rfl rfl rfl rfl rfl ?_
   refine TL.op1 (OpR.pickF rfl rfl rfl) rfl ?_
   refine aA rfl rfl ?_
   refine TL.off rfl rfl rfl rfl rfl rfl rfl ?_
   refine TL.off rfl rfl rfl rfl rfl rfl rfl ?_
   refine TL.off rfl rfl rfl rfl rfl rfl rfl ?_
   refine TL.off rfl rfl rfl rfl rfl rfl rfl ?_
   refine TL.op1 (OpR.pickF rfl rfl rfl) rfl ?_
   refine aA rfl rfl ?_
   refine TL.off rfl rfl rfl rfl rfl rfl rfl ?_
   refine TL.off rfl rfl rfl rfl rfl rfl rfl ?_
   refine TL.off rfl rfl rfl rfl rfl rfl rfl ?_
   refine TL.off rfl rfl rfl rfl rfl rfl rfl ?_
   refine TL.off rfl rfl rfl rfl rfl rfl rfl ?_
   refine TL.op1 (OpR.pickF rfl rfl rfl) rfl ?_
   refine aA rfl rfl ?_
   refine TL.nil ?_
   obtain rfl := osi ht11
   exact ⟨_, gP [0] [] rfl rfl rfl, rfl⟩
 refine TL.on rfl rfl rfl rfl (beq_iff_eq.2 c12) ?_
 refine TL.op1 (OpR.loadPtr 0 rfl rfl rfl rfl) rfl ?_
 refine TL.on rfl rfl rfl rfl (beq_iff_eq.2 c12) ?_
 refine TL.op1 (OpR.build rfl rfl rfl rfl rfl) rfl ?_
 refine TL.on rfl rfl rfl rfl (beq_iff_eq.2 c12) ?_
 refine TL.op1 (OpR.cast (OpR.eqStruct rfl rfl rfl rfl rfl (by kernel_rfl) (by kernel_rfl)) (boolE (beq_filter_Test x1.1 (⟨1, 2, [49, 48], false⟩ : filter_Test)))) rfl ?_
 refine TL.op1 (OpR.pickT rfl (beq_iff_eq.2 c12) rfl) rfl ?_
 refine aA rfl rfl ?_
 rcases ite_some ht11 with ⟨c13, ht11⟩ | ⟨c13, ht11⟩
 rotate_left
 · refine TL.off rfl rfl rfl rfl (beq_eq_false_iff_ne.2 c13) rfl rfl ?_
   refine TL.off rfl rfl rfl rfl (beq_eq_false_iff_ne.2 c13) rfl rfl ?_
   refine TL.op1 (OpR.pickF rfl (beq_eq_false_iff_ne.2 c13) rfl) rfl ?_
   refine aA rfl rfl ?_
   refine TL.off rfl rfl rfl rfl rfl rfl rfl ?_
   refine TL.off rfl rfl rfl rfl rfl rfl rfl ?_
   refine TL.off rfl rfl rfl rfl rfl rfl rfl ?_
   refine TL.op1 (OpR.pickF rfl rfl rfl) rfl ?_
   refine aA rfl rfl ?_
   refine TL.off rfl rfl rfl rfl rfl rfl rfl ?_
   refine TL.off rfl rfl rfl rfl rfl rfl rfl ?_
   refine TL.op1 (OpR.pickF rfl rfl rfl) rfl ?_
   refine aA rfl rfl ?_
   refine TL.off rfl rfl rfl rfl rfl rfl rfl ?_
   refine TL.off rfl rfl rfl rfl rfl rfl rfl ?_
   refine TL.off rfl rfl rfl rfl rfl rfl rfl ?_
   refine TL.off rfl rfl rfl rfl rfl rfl rfl ?_
   refine TL.op1 (OpR.pickF rfl rfl rfl) rfl ?_
   refine aA rfl rfl ?_
   refine TL.off rfl rfl rfl rfl rfl rfl rfl ?_
   refine TL.off rfl rfl rfl rfl rfl rfl rfl ?_
   refine TL.off rfl rfl rfl rfl rfl rfl rfl ?_
   refine TL.off rfl rfl rfl rfl rfl rfl rfl ?_
   refine TL.off rfl rfl rfl rfl rfl rfl rfl ?_
   refine TL.op1 (OpR.pickF rfl rfl rfl) rfl ?_
   refine aA rfl rfl ?_
   refine TL.nil ?_
   obtain rfl := osi ht11
   exact ⟨_, gP [0] [] rfl rfl rfl, rfl⟩
 refine TL.on rfl rfl rfl rfl (beq_iff_eq.2 c13) ?_
 refine aA rfl rfl ?_
 refine TL.on rfl rfl rfl rfl (beq_iff_eq.2 c13) ?_
 refine aA rfl rfl ?_
 refine TL.op1 (OpR.pickT rfl (beq_iff_eq.2 c13) rfl) rfl ?_
 refine aA rfl rfl ?_
 rcases ite_some ht11 with ⟨c14, ht11⟩ | ⟨c14, ht11⟩
 rotate_left
 · refine TL.off rfl rfl rfl rfl (beq_eq_false_iff_ne.2 c14) rfl rfl ?_
   refine TL.off rfl rfl rfl rfl (beq_eq_false_iff_ne.2 c14) rfl rfl ?_
   refine TL.off rfl rfl rfl rfl (beq_eq_false_iff_ne.2 c14) rfl rfl ?_
   refine TL.op1 (OpR.pickF rfl (beq_eq_false_iff_ne.2 c14) rfl) rfl ?_
   refine aA rfl rfl ?_
   refine TL.off rfl rfl rfl rfl rfl rfl rfl ?_
   refine TL.off rfl rfl rfl rfl rfl rfl rfl ?_
   refine TL.op1 (OpR.pickF rfl rfl rfl) rfl ?_
   refine aA rfl rfl ?_
   refine TL.off rfl rfl rfl rfl rfl rfl rfl ?_
   refine TL.off rfl rfl rfl rfl rfl rfl rfl ?_
   refine TL.off rfl rfl rfl rfl rfl rfl rfl ?_
   refine TL.off rfl rfl rfl rfl rfl rfl rfl ?_
   refine TL.op1 (OpR.pickF rfl rfl rfl) rfl ?_
   refine aA rfl rfl ?_
   refine TL.off rfl rfl rfl rfl rfl rfl rfl ?_
   refine TL.off rfl rfl rfl rfl rfl rfl rfl ?_
   refine TL.off rfl rfl rfl rfl rfl rfl rfl ?_
   refine TL.off rfl rfl rfl rfl rfl rfl rfl ?_
   refine TL.off rfl rfl rfl rfl rfl rfl rfl ?_
   refine TL.op1 (OpR.pickF rfl rfl rfl) rfl ?_
   refine aA rfl rfl ?_
   refine TL.nil ?_
   obtain rfl := osi ht11
   exact ⟨_, gP [0] [] rfl rfl rfl, rfl⟩
 refine TL.on rfl rfl rfl rfl (beq_iff_eq.2 c14) ?_
 refine TL.op1 (OpR.loadPtr 1 rfl rfl rfl rfl) rfl ?_
 refine TL.on rfl rfl rfl rfl (beq_iff_eq.2 c14) ?_
 refine TL.op1 (OpR.build rfl rfl rfl rfl rfl) rfl ?_
 refine TL.on rfl rfl rfl rfl (beq_iff_eq.2 c14) ?_
 refine TL.op1 (OpR.cast (OpR.eqStruct rfl rfl rfl rfl rfl (by kernel_rfl) (by kernel_rfl)) (boolE (beq_filter_Test x3.1 (⟨0, 6, [], true⟩ : filter_Test)))) rfl ?_
 refine TL.op1 (OpR.pickT rfl (beq_iff_eq.2 c14) rfl) rfl ?_
 refine aA rfl rfl ?_
 rcases ite_some ht11 with ⟨c15, ht11⟩ | ⟨c15, ht11⟩
 rotate_left
 · refine TL.off rfl rfl rfl rfl (beq_eq_false_iff_ne.2 c15) rfl rfl ?_
   refine TL.off rfl rfl rfl rfl (beq_eq_false_iff_ne.2 c15) rfl rfl ?_
   refine TL.op1 (OpR.pickF rfl (beq_eq_false_iff_ne.2 c15) rfl) rfl ?_
   refine aA rfl rfl ?_
   refine TL.off rfl rfl rfl rfl rfl rfl rfl ?_
   refine TL.off rfl rfl rfl rfl rfl rfl rfl ?_
   refine TL.off rfl rfl rfl rfl rfl rfl rfl ?_
   refine TL.off rfl rfl rfl rfl rfl rfl rfl ?_
   refine TL.op1 (OpR.pickF rfl rfl rfl) rfl ?_
   refine aA rfl rfl ?_
   refine TL.off rfl rfl rfl rfl rfl rfl rfl ?_
   refine TL.off rfl rfl rfl rfl rfl rfl rfl ?_
   refine TL.off rfl rfl rfl rfl rfl rfl rfl ?_
   refine TL.off rfl rfl rfl rfl rfl rfl rfl ?_
   refine TL.off rfl rfl rfl rfl rfl rfl rfl ?_
   refine TL.op1 (OpR.pickF rfl rfl rfl) rfl ?_
   refine aA rfl rfl ?_
   refine TL.nil ?_
   obtain rfl := osi ht11
   exact ⟨_, gP [0] [] rfl rfl rfl, rfl⟩
 refine TL.on rfl rfl rfl rfl (beq_iff_eq.2 c15) ?_
 refine aA rfl rfl ?_
 refine TL.on rfl rfl rfl rfl (beq_iff_eq.2 c15) ?_
 refine aA rfl rfl ?_
 refine TL.op1 (OpR.pickT rfl (beq_iff_eq.2 c15) rfl) rfl ?_
 refine aA rfl rfl ?_
 rcases ite_some ht11 with ⟨c16, ht11⟩ | ⟨c16, ht11⟩
 rotate_left
 · refine TL.off rfl rfl rfl rfl (beq_eq_false_iff_ne.2 c16) rfl rfl ?_
   refine TL.off rfl rfl rfl rfl (beq_eq_false_iff_ne.2 c16) rfl rfl ?_
   refine TL.off rfl rfl rfl rfl (beq_eq_false_iff_ne.2 c16) rfl rfl ?_
   refine TL.off rfl rfl rfl rfl (beq_eq_false_iff_ne.2 c16) rfl rfl ?_
   refine TL.op1 (OpR.pickF rfl (beq_eq_false_iff_ne.2 c16) rfl) rfl ?_
   refine aA rfl rfl ?_
   refine TL.off rfl rfl rfl rfl rfl rfl rfl ?_
   refine TL.off rfl rfl rfl rfl rfl rfl rfl ?_
   refine TL.off rfl rfl rfl rfl rfl rfl rfl ?_
   refine TL.off rfl rfl rfl rfl rfl rfl rfl ?_
   refine TL.off rfl rfl rfl rfl rfl rfl rfl ?_
   refine TL.op1 (OpR.pickF rfl rfl rfl) rfl ?_
   refine aA rfl rfl ?_
   refine TL.nil ?_
   obtain rfl := osi ht11
   exact ⟨_, gP [0] [] rfl rfl rfl, rfl⟩
 refine TL.on rfl rfl rfl rfl (beq_iff_eq.2 c16) ?_
 refine TL.op1 (OpR.loadPtr 6 rfl rfl rfl rfl) rfl ?_
 refine TL.on rfl rfl rfl rfl (beq_iff_eq.2 c16) ?_
 obtain ⟨x17, hx17, ht11⟩ := bS ht11
 refine TL.op1 (OpR.call0 fn51 (grid_Grid_Visible_c hx17) rfl) rfl ?_
 refine TL.on rfl rfl rfl rfl (beq_iff_eq.2 c16) ?_
 refine TL.op1 (OpR.cast (OpR.pure rfl) (intE (lenM _ _))) rfl ?_
 refine TL.on rfl rfl rfl rfl (beq_iff_eq.2 c16) ?_
 refine aA rfl rfl ?_
 refine TL.op1 (OpR.pickT rfl (beq_iff_eq.2 c16) rfl) rfl ?_
 refine aA rfl rfl ?_
 rcases ite_some ht11 with ⟨c18, ht11⟩ | ⟨c18, ht11⟩
 rotate_left
 · refine TL.off rfl rfl rfl rfl (beq_eq_false_iff_ne.2 c18) rfl rfl ?_
   refine TL.off rfl rfl rfl rfl (beq_eq_false_iff_ne.2 c18) rfl rfl ?_
   refine TL.off rfl rfl rfl rfl (beq_eq_false_iff_ne.2 c18) rfl rfl ?_
   refine TL.off rfl rfl rfl rfl (beq_eq_false_iff_ne.2 c18) rfl rfl ?_
   refine TL.off rfl rfl rfl rfl (beq_eq_false_iff_ne.2 c18) rfl rfl ?_
   refine TL.op1 (OpR.pickF rfl (beq_eq_false_iff_ne.2 c18) rfl) rfl ?_
   refine aA rfl rfl ?_
   refine TL.nil ?_
   obtain rfl := osi ht11
   exact ⟨_, gP [0] [] rfl rfl rfl, rfl⟩
 refine TL.on rfl rfl rfl rfl (beq_iff_eq.2 c18) ?_
 refine TL.op1 (OpR.loadPtr 6 rfl rfl rfl rfl) rfl ?_
 refine TL.on rfl rfl rfl rfl (beq_iff_eq.2 c18) ?_
 obtain ⟨x19, hx19, ht11⟩ := bS ht11
 refine TL.op1 (OpR.call0 fn53 (filter_All_c hx19) rfl) rfl ?_
 refine TL.on rfl rfl rfl rfl (beq_iff_eq.2 c18) ?_
 obtain ⟨x20, hx20, ht11⟩ := bS ht11
 refine TL.op1 (OpR.call0 fn51 (grid_Grid_Visible_c hx20) rfl) rfl ?_
 refine TL.on rfl rfl rfl rfl (beq_iff_eq.2 c18) ?_
 refine TL.op1 (OpR.cast (OpR.pure rfl) (intE (lenM _ _))) rfl ?_
 refine TL.on rfl rfl rfl rfl (beq_iff_eq.2 c18) ?_
 refine aA rfl rfl ?_
 refine TL.op1 (OpR.pickT rfl (beq_iff_eq.2 c18) rfl) rfl ?_
 refine aA rfl rfl ?_
 refine TL.nil ?_
 obtain rfl := osi ht11
 exact ⟨_, gP [0] [] rfl rfl rfl, rfl⟩
noncomputable def law18_mine (a0 : ref18_Test) : Option filter_Test :=
  some (⟨a0.fCol, a0.fOp, a0.fArg, a0.fNot⟩ : filter_Test)
theorem law18_mine_c {a0 : ref18_Test} {res : filter_Test} (h0 : law18_mine a0 = some res) : CallF X 34 [.agg [dN a0.fCol, dN a0.fOp, .val (.string (bs a0.fArg)), dT a0.fNot]] [] (fun x => .agg [dN res.fCol, dN res.fOp, .val (.string (bs res.fArg)), dT res.fNot]) (fun x => []) := by
 unfold law18_mine at h0
 refine CallF.mkG (X := X) rfl Tryz.func34 rfl rfl Tryz.ntmps34 rfl rfl ?_
 refine aS ?_
 refine TL.op1 (OpR.boxImm rfl rfl) rfl ?_
 refine TL.op (OpR.alloc rfl rfl (fun _ => rfl)) rfl (fun p1 => ?_)
 refine aN rfl ?_
 refine aS ?_
 iterate 8 refine aA rfl rfl ?_
 refine TL.op1 (OpR.build rfl rfl rfl rfl rfl) rfl ?_
 refine TL.op0 (OpR.store 0 rfl rfl rfl rfl rfl rfl rfl rfl) ?_
 refine aN rfl ?_
 refine T.ret ?_
 obtain rfl := osi h0
 exact rO [] [2] rfl undef (cV 0 rfl rfl rfl rfl ResL.nil) rfl rfl rfl rfl
noncomputable def tree_Tree_row_Row_has (a0 : tTr) (a1 : Int) : Option Bool :=
  bnd (if a1 ≥ 0 then
    bnd (tree_Tree_row_Row_Len a0) fun x3 =>
    some (decide (a1 < x3))
  else
    some false : Option Bool) fun t1 =>
  some t1
theorem tree_Tree_row_Row_has_c {a0 : tTr} {a1 : Int} {res : Bool} (h0 : tree_Tree_row_Row_has a0 a1 = some res) : CallF X 151 [.agg [(eOP a0.fRoot)], dN a1] [] (fun x => (dT res)) (fun x => []) := by
 unfold tree_Tree_row_Row_has at h0
 refine CallF.mkG (X := X) rfl Tryz.func151 rfl rfl Tryz.ntmps151 rfl rfl ?_
 refine aS ?_
 refine TL.op1 (OpR.boxImm rfl rfl) rfl ?_
 refine aA rfl rfl ?_
 refine aN rfl ?_
 refine T.seq ?_
 obtain ⟨t1, ht1, h0⟩ := bS h0
 refine T.cutC (fun S' => S' = ⟨[(4, (dT t1))], [], 13⟩) (fun _ h => h) ?_ ?_
 rotate_left
 · rintro _ rfl
   show T X _ _ _
   refine T.ret ?_
   obtain rfl := osi h0
   exact rO [] [4] rfl undef (cT rfl ResL.nil) rfl rfl rfl rfl
 refine T.region ?_
 iterate 3 refine aA rfl rfl ?_
 rcases ite_some ht1 with ⟨c2, ht1⟩ | ⟨c2, ht1⟩
 rotate_left
 · refine TL.off rfl rfl rfl rfl (eF c2) rfl rfl ?_
   refine TL.off rfl rfl rfl rfl (eF c2) rfl rfl ?_
   refine TL.off rfl rfl rfl rfl (eF c2) rfl rfl ?_
   refine TL.off rfl rfl rfl rfl (eF c2) rfl rfl ?_
   refine TL.op1 (OpR.pickF rfl (eF c2) rfl) rfl ?_
   refine aA rfl rfl ?_
   refine TL.nil ?_
   obtain rfl := osi ht1
   exact ⟨_, Gst.only [4] rfl, rfl⟩
 refine TL.on rfl rfl rfl rfl (eT c2) ?_
 refine aA rfl rfl ?_
 refine TL.on rfl rfl rfl rfl (eT c2) ?_
 refine aA rfl rfl ?_
 refine TL.on rfl rfl rfl rfl (eT c2) ?_
 obtain ⟨x3, hx3, ht1⟩ := bS ht1
 refine TL.op1 (OpR.call0 fn79 (tree_Tree_row_Row_Len_c hx3) rfl) rfl ?_
 refine TL.on rfl rfl rfl rfl (eT c2) ?_
 refine aA rfl rfl ?_
 refine TL.op1 (OpR.pickT rfl (eT c2) rfl) rfl ?_
 refine aA rfl rfl ?_
 refine TL.nil ?_
 obtain rfl := osi ht1
 exact ⟨_, Gst.only [4] rfl, rfl⟩
noncomputable def tree_Node_row_Row_flat (a0 : List NP) (a1 : List row_Row) (a2 : Int) : Option Bool :=
  some ((a0.length : Int) == 0)
theorem tree_Node_row_Row_flat_c {a0 : List NP} {a1 : List row_Row} {a2 : Int} {res : Bool} (h0 : tree_Node_row_Row_flat a0 a1 a2 = some res) : CallF X 152 [.nod [.sl 1 (List.map eNP a0), .sl 3 (List.map e_row_Row a1), dN a2]] [] (fun x => (dT res)) (fun x => []) := by
 unfold tree_Node_row_Row_flat at h0
 refine CallF.mkG (X := X) rfl Tryz.func152 rfl rfl Tryz.ntmps152 rfl rfl ?_
 refine aS ?_
 refine aA rfl rfl ?_
 refine aN rfl ?_
 refine aS ?_
 iterate 4 refine aA rfl rfl ?_
 refine TL.op1 (OpR.cast (OpR.pure rfl) (intE (lenM _ _))) rfl ?_
 iterate 2 refine aA rfl rfl ?_
 refine aN rfl ?_
 refine T.ret ?_
 obtain rfl := osi h0
 exact rO [] [2] rfl undef (cT rfl ResL.nil) rfl rfl rfl rfl
noncomputable def tree_Node_row_Row_kid.l1 (a0 : List NP) (s2 : Int × Int) : Option (Lp (Int × Int) (Int × Int)) :=
  bnd (if s2.2 < (w64 ((a0.length : Int) - 1)) then
    bnd (idx a0 s2.2) fun x12 =>
    bnd (o_tNd x12) fun x13 =>
    some (decide (s2.1 ≥ x13.fN))
  else
    some false : Option Bool) fun t10 =>
  if t10 = true then
    bnd (idx a0 s2.2) fun x15 =>
    bnd (o_tNd x15) fun x16 =>
    some (Lp.next (w64 (s2.1 - x16.fN), w64 (s2.2 + 1)))
  else
    some (Lp.done (s2.1, s2.2))
noncomputable def tree_Node_row_Row_kid (a0 : List NP) (a1 : List row_Row) (a2 : Int) (a3 : Int) : Option (Int × Int) :=
  bnd (loop (tree_Node_row_Row_kid.l1 a0) (a3, 0) : Option (Int × Int)) fun t1 =>
  some (t1.2, t1.1)
theorem tree_Node_row_Row_kid_c {a0 : List NP} {a1 : List row_Row} {a2 : Int} {a3 : Int} {res : Int × Int} (h0 : tree_Node_row_Row_kid a0 a1 a2 a3 = some res) : CallF X 153 [.nod [.sl 1 (List.map eNP a0), .sl 3 (List.map e_row_Row a1), dN a2], dN a3] [] (fun x => .tup [dN res.1, dN res.2]) (fun x => []) := by
 unfold tree_Node_row_Row_kid at h0
 refine CallF.mkG (X := X) rfl Tryz.func153 rfl rfl Tryz.ntmps153 rfl rfl ?_
 refine aS ?_
 iterate 2 refine aA rfl rfl ?_
 refine aN rfl ?_
 refine aS ?_
 refine aA rfl rfl ?_
 refine aN rfl ?_
 refine T.seq ?_
 obtain ⟨t1, ht1, h0⟩ := bS h0
 refine T.cutC (fun S' => S' = ⟨[(6, (dN t1.2)), (5, (dN 0)), (4, (dN 0)), (1, (dN t1.1))], [], 45⟩) (fun _ h => h) ?_ ?_
 rotate_left
 · rintro _ rfl
   show T X _ _ _
   refine aS ?_
   iterate 4 refine aA rfl rfl ?_
   refine aN rfl ?_
   refine T.ret ?_
   obtain rfl := osi h0
   exact rO [] [4, 5] rfl undef (cT rfl (cT rfl ResL.nil)) rfl rfl rfl rfl
 refine T.block ?_
 obtain ⟨n3, n8⟩ := loop_some ht1
 refine T.loop (fun n S' => ∃ S'', Gst S' S'' ∧ ∃ s2 : Int × Int, S'' = ⟨[(6, (dN s2.2)), (5, (dN 0)), (4, (dN 0)), (1, (dN s2.1)), (0, .nod [.sl 1 (List.map eNP a0), .sl 3 (List.map e_row_Row a1), dN a2])], [], 45⟩ ∧ iter (tree_Node_row_Row_kid.l1 a0) n s2 = some t1) n3 ?_ ?_
 · exact ⟨_, Gst.only [0, 1, 4, 5, 6] rfl, (a3, 0), rfl, n8⟩
 rintro n3 _ ⟨_, g, s2, rfl, i7⟩
 refine T.ghost g ?_
 obtain ⟨m4, q5, rfl, q6, i7⟩ := iter_succ i7
 unfold tree_Node_row_Row_kid.l1 at q6
 refine T.seq ?_
 refine T.seq ?_
 obtain ⟨t10, ht10, q6⟩ := bS q6
 refine T.cutC (fun S' => S' = ⟨[(28, (dT t10)), (6, (dN s2.2)), (5, (dN 0)), (4, (dN 0)), (1, (dN s2.1)), (0, .nod [.sl 1 (List.map eNP a0), .sl 3 (List.map e_row_Row a1), dN a2])], [], 45⟩) (fun _ h => h) ?_ ?_
 rotate_left
 · rintro _ rfl
   show T X _ _ _
   rcases ite_some q6 with ⟨c14, q6⟩ | ⟨c14, q6⟩
   rotate_left
   · refine T.condF rfl (eq_false_of_ne_true c14) ?_
     refine T.exit ?_
     obtain rfl := osi q6
     obtain rfl : _ = _ := i7
     exact ⟨_, Gst.only [1, 4, 5, 6] rfl, rfl⟩
   refine T.condT rfl (c14) ?_
   refine aK rfl ?_
   refine T.block ?_
   refine aS ?_
   iterate 6 refine aA rfl rfl ?_
   obtain ⟨x15, hx15, q6⟩ := bS q6
   obtain ⟨x16, hx16, q6⟩ := bS q6
   rw [o_tNd_eq hx16] at hx15
   refine TL.op1 (OpR.indexM eNP hx15 rfl rfl rfl rfl rfl) rfl ?_
   iterate 6 refine aA rfl rfl ?_
   refine aN rfl ?_
   refine T.region ?_
   iterate 3 refine aA rfl rfl ?_
   refine TL.nil ?_
   obtain rfl := osi q6
   exact ⟨m4, Nat.lt_succ_self _, _, Gst.only [0, 1, 4, 5, 6] rfl, (w64 (s2.1 - x16.fN), w64 (s2.2 + 1)), rfl, i7⟩
 refine T.region ?_
 iterate 5 refine aA rfl rfl ?_
 refine TL.op1 (OpR.cast (OpR.pure rfl) (intE (lenM _ _))) rfl ?_
 iterate 3 refine aA rfl rfl ?_
 rcases ite_some ht10 with ⟨c11, ht10⟩ | ⟨c11, ht10⟩
 rotate_left
 · refine TL.off rfl rfl rfl rfl (eF c11) rfl rfl ?_
   refine TL.off rfl rfl rfl rfl (eF c11) rfl rfl ?_
   refine TL.off rfl rfl rfl rfl (eF c11) rfl rfl ?_
   refine TL.off rfl rfl rfl rfl (eF c11) rfl rfl ?_
   refine TL.off rfl rfl rfl rfl (eF c11) rfl rfl ?_
   refine TL.off rfl rfl rfl rfl (eF c11) rfl rfl ?_
   refine TL.off rfl rfl rfl rfl (eF c11) rfl rfl ?_
   refine TL.off rfl rfl rfl rfl (eF c11) rfl rfl ?_
   refine TL.off rfl rfl rfl rfl (eF c11) rfl rfl ?_
   refine TL.off rfl rfl rfl rfl (eF c11) rfl rfl ?_
   refine TL.off rfl rfl rfl rfl (eF c11) rfl rfl ?_
   refine TL.off rfl rfl rfl rfl (eF c11) rfl rfl ?_
   refine TL.op1 (OpR.pickF rfl (eF c11) rfl) rfl ?_
   refine TL.nil ?_
   obtain rfl := osi ht10
   exact ⟨_, Gst.only [0, 1, 4, 5, 6, 28] rfl, rfl⟩
 refine TL.on rfl rfl rfl rfl (eT c11) ?_
 refine aA rfl rfl ?_
 refine TL.on rfl rfl rfl rfl (eT c11) ?_
 refine aA rfl rfl ?_
 refine TL.on rfl rfl rfl rfl (eT c11) ?_
 refine aA rfl rfl ?_
 refine TL.on rfl rfl rfl rfl (eT c11) ?_
 refine aA rfl rfl ?_
 refine TL.on rfl rfl rfl rfl (eT c11) ?_
 refine aA rfl rfl ?_
 refine TL.on rfl rfl rfl rfl (eT c11) ?_
 refine aA rfl rfl ?_
 refine TL.on rfl rfl rfl rfl (eT c11) ?_
 obtain ⟨x12, hx12, ht10⟩ := bS ht10
 obtain ⟨x13, hx13, ht10⟩ := bS ht10
 rw [o_tNd_eq hx13] at hx12
 refine TL.op1 (OpR.indexM eNP hx12 rfl rfl rfl rfl rfl) rfl ?_
 refine TL.on rfl rfl rfl rfl (eT c11) ?_
 refine aA rfl rfl ?_
 refine TL.on rfl rfl rfl rfl (eT c11) ?_
 refine aA rfl rfl ?_
 refine TL.on rfl rfl rfl rfl (eT c11) ?_
 refine aA rfl rfl ?_
 refine TL.on rfl rfl rfl rfl (eT c11) ?_
 refine aA rfl rfl ?_
 refine TL.on rfl rfl rfl rfl (eT c11) ?_
 refine aA rfl rfl ?_
 refine TL.op1 (OpR.pickT rfl (eT c11) rfl) rfl ?_
 refine TL.nil ?_
 obtain rfl := osi ht10
 exact ⟨_, Gst.only [0, 1, 4, 5, 6, 28] rfl, rfl⟩
noncomputable def tree_Tree_row_Row_At.l1 (s7 : Unit) : Option (Lp Unit (row_Row × Bool)) :=
  none
noncomputable def tree_Tree_row_Row_At.l2 (s17 : Int × (List NP) × (List row_Row) × Int) : Option (Lp (Int × (List NP) × (List row_Row) × Int) (Int × (List NP) × (List row_Row) × Int)) :=
  bnd (tree_Node_row_Row_flat s17.2.1 s17.2.2.1 s17.2.2.2) fun x25 =>
  if x25 = true then
    some (Lp.done (s17.1, s17.2.1, s17.2.2.1, s17.2.2.2))
  else
    bnd (tree_Node_row_Row_kid s17.2.1 s17.2.2.1 s17.2.2.2 s17.1) fun x27 =>
    bnd (idx s17.2.1 x27.1) fun x28 =>
    bnd (o_tNd x28) fun x29 =>
    some (Lp.next (x27.2, x29.fKids, x29.fItems, x29.fN))
noncomputable def tree_Tree_row_Row_At (a0 : tTr) (a1 : Int) : Option (row_Row × Bool) :=
  bnd (tree_Tree_row_Row_has a0 a1) fun x2 =>
  if x2 = true then
    bnd (some a0.fRoot) fun q4 => match q4 with
      | none =>
        loop tree_Tree_row_Row_At.l1 ()
      | some z5 =>
        bnd (o_tNd z5) fun x15 =>
        bnd (loop tree_Tree_row_Row_At.l2 (a1, x15.fKids, x15.fItems, x15.fN) : Option (Int × (List NP) × (List row_Row) × Int)) fun t16 =>
        bnd (idx t16.2.2.1 t16.1) fun x30 =>
        some (x30, true)
  else
    some ((⟨[], 0, false⟩ : row_Row), false)
theorem tree_Tree_row_Row_At_c {a0 : tTr} {a1 : Int} {res : row_Row × Bool} (h0 : tree_Tree_row_Row_At a0 a1 = some res) : CallF X 81 [.agg [(eOP a0.fRoot)], dN a1] [] (fun x => .tup [.agg [.sl 5 (List.map e_cell_Cell res.1.fCells), dN res.1.fEnd, dT res.1.fHidden], dT res.2]) (fun x => []) := by
 unfold tree_Tree_row_Row_At at h0
 refine CallF.mkG (X := X) rfl Tryz.func81 rfl rfl Tryz.ntmps81 rfl rfl ?_
 refine aS ?_
 refine TL.op1 (OpR.boxImm rfl rfl) rfl ?_
 refine TL.op (OpR.alloc rfl rfl (fun _ => rfl)) rfl (fun p1 => ?_)
 refine aA rfl rfl ?_
 refine aN rfl ?_
 refine T.seq ?_
 refine aS ?_
 iterate 2 refine aA rfl rfl ?_
 obtain ⟨x2, hx2, h0⟩ := bS h0
 refine TL.op1 (OpR.call0 fn151 (tree_Tree_row_Row_has_c hx2) rfl) rfl ?_
 refine aA rfl rfl ?_
 refine aN rfl ?_
 rcases ite_some h0 with ⟨c3, h0⟩ | ⟨c3, h0⟩
 rotate_left
 · refine T.condT rfl (not_f (eq_false_of_ne_true c3)) ?_
   refine aS ?_
   refine TL.op (OpR.alloc rfl rfl (fun _ => rfl)) rfl (fun p31 => ?_)
   refine aN rfl ?_
   refine aS ?_
   refine TL.op1 (OpR.loadPtr 1 rfl rfl rfl rfl) rfl ?_
   refine TL.op0 (OpR.store 0 rfl rfl rfl rfl rfl rfl rfl rfl) ?_
   refine aA rfl rfl ?_
   refine aN rfl ?_
   refine T.ret ?_
   obtain rfl := osi h0
   exact PostG.retP (ks := []) (Gst.trans (Gst.only [4, 5] rfl) (Gst.trans (Gst.denil (ReS.cons Re.refl (ReS.cons Re.refl ReS.nil)) (ReO.var (ReL.cons (Re.base .nil) (ReL.cons Re.refl (ReL.cons Re.refl ReL.nil))) (ReO.same ReO.nil))) (Gst.pick [0] rfl rfl))) undef (cV 0 rfl rfl rfl rfl (cT rfl ResL.nil)) rfl rfl rfl rfl
 refine T.condF rfl (not_t (c3)) ?_
 refine aK rfl ?_
 refine aS ?_
 refine aA rfl rfl ?_
 obtain ⟨q4, hq4, h0⟩ := bS h0
 rcases q4 with _ | z5
 · dsimp only at h0
   refine TL.op1 (OpR.cast (OpR.pure rfl) (congrArg eOP (osi hq4))) rfl ?_
   refine aA rfl rfl ?_
   refine aN rfl ?_
   refine T.seq ?_
   refine T.block ?_
   obtain ⟨n8, n13⟩ := loop_some h0
   refine T.loop (fun n S' => ∃ S'', Gst S' S'' ∧ ∃ s7 : Unit, S'' = ⟨[(7, dQ), (5, (dT false)), (4, (dP (blk p1))), (1, (dN a1))], [.var (blk p1) [.val (.slice none 0 0), dN 0, dT false] 49], 41⟩ ∧ iter tree_Tree_row_Row_At.l1 n s7 = some res) n8 ?_ ?_
   · exact ⟨_, Gst.only [1, 4, 5, 7] rfl, (), rfl, n13⟩
   rintro n8 _ ⟨_, g, s7, rfl, i12⟩
   refine T.ghost g ?_
   obtain ⟨m9, q10, rfl, q11, i12⟩ := iter_succ i12
   unfold tree_Tree_row_Row_At.l1 at q11
   refine T.seq ?_
   refine aS ?_
   refine aA rfl rfl ?_
   exact (by cases q11)
 dsimp only at h0
 obtain ⟨x15, hx15, h0⟩ := bS h0
 rw [o_tNd_eq hx15] at hq4
 refine TL.op1 (OpR.cast (OpR.pure rfl) (congrArg eOP (osi hq4))) rfl ?_
 refine aA rfl rfl ?_
 refine aN rfl ?_
 refine T.seq ?_
 obtain ⟨t16, ht16, h0⟩ := bS h0
 refine T.cutC (fun S' => S' = ⟨[(7, .nod [.sl 1 (List.map eNP t16.2.1), .sl 3 (List.map e_row_Row t16.2.2.1), dN t16.2.2.2]), (5, (dT false)), (4, (dP (blk p1))), (1, (dN t16.1))], [.var (blk p1) [.val (.slice none 0 0), dN 0, dT false] 49], 41⟩) (fun _ h => h) ?_ ?_
 rotate_left
 · rintro _ rfl
   show T X _ _ _
   refine aS ?_
   iterate 5 refine aA rfl rfl ?_
   obtain ⟨x30, hx30, h0⟩ := bS h0
   refine TL.op1 (OpR.indexM e_row_Row hx30 rfl rfl rfl rfl rfl) rfl ?_
   refine aA rfl rfl ?_
   refine TL.op0 (OpR.store 0 rfl rfl rfl rfl rfl rfl rfl rfl) ?_
   refine aA rfl rfl ?_
   refine aN rfl ?_
   refine T.ret ?_
   obtain rfl := osi h0
   exact rO [] [4, 5] rfl undef (cV 0 rfl rfl rfl rfl (cT rfl ResL.nil)) rfl rfl rfl rfl
 refine T.block ?_
 obtain ⟨n18, n23⟩ := loop_some ht16
 refine T.loop (fun n S' => ∃ S'', Gst S' S'' ∧ ∃ s17 : Int × (List NP) × (List row_Row) × Int, S'' = ⟨[(7, .nod [.sl 1 (List.map eNP s17.2.1), .sl 3 (List.map e_row_Row s17.2.2.1), dN s17.2.2.2]), (5, (dT false)), (4, (dP (blk p1))), (1, (dN s17.1))], [.var (blk p1) [.val (.slice none 0 0), dN 0, dT false] 49], 41⟩ ∧ iter tree_Tree_row_Row_At.l2 n s17 = some t16) n18 ?_ ?_
 · exact ⟨_, Gst.only [1, 4, 5, 7] rfl, (a1, x15.fKids, x15.fItems, x15.fN), rfl, n23⟩
 rintro n18 _ ⟨_, g, s17, rfl, i22⟩
 refine T.ghost g ?_
 obtain ⟨m19, q20, rfl, q21, i22⟩ := iter_succ i22
 unfold tree_Tree_row_Row_At.l2 at q21
 refine T.seq ?_
 refine aS ?_
 refine aA rfl rfl ?_
 obtain ⟨x25, hx25, q21⟩ := bS q21
 refine TL.op1 (OpR.call0 fn152 (tree_Node_row_Row_flat_c hx25) rfl) rfl ?_
 refine aA rfl rfl ?_
 refine aN rfl ?_
 rcases ite_some q21 with ⟨c26, q21⟩ | ⟨c26, q21⟩
 · refine T.condF rfl (not_t (c26)) ?_
   refine T.exit ?_
   obtain rfl := osi q21
   obtain rfl : _ = _ := i22
   exact ⟨_, Gst.only [1, 4, 5, 7] rfl, rfl⟩
 refine T.condT rfl (not_f (eq_false_of_ne_true c26)) ?_
 refine aK rfl ?_
 refine T.block ?_
 refine aS ?_
 iterate 2 refine aA rfl rfl ?_
 obtain ⟨x27, hx27, q21⟩ := bS q21
 refine TL.op1 (OpR.call0 fn153 (tree_Node_row_Row_kid_c hx27) rfl) rfl ?_
 iterate 5 refine aA rfl rfl ?_
 refine aN rfl ?_
 refine T.region ?_
 iterate 5 refine aA rfl rfl ?_
 obtain ⟨x28, hx28, q21⟩ := bS q21
 obtain ⟨x29, hx29, q21⟩ := bS q21
 rw [o_tNd_eq hx29] at hx28
 refine TL.op1 (OpR.indexM eNP hx28 rfl rfl rfl rfl rfl) rfl ?_
 iterate 4 refine aA rfl rfl ?_
 refine TL.nil ?_
 obtain rfl := osi q21
 exact ⟨m19, Nat.lt_succ_self _, _, Gst.only [1, 4, 5, 7] rfl, (x27.2, x29.fKids, x29.fItems, x29.fN), rfl, i22⟩
noncomputable def grid_Grid_Row (a0 : grid_Grid) (a1 : Int) : Option (row_Row × Bool) :=
  bnd (tree_Tree_row_Row_At a0.fRows a1) fun x2 =>
  some (x2.1, x2.2)
theorem grid_Grid_Row_c {a0 : grid_Grid} {a1 : Int} {res : row_Row × Bool} (h0 : grid_Grid_Row a0 a1 = some res) : CallF X 24 [.agg [(eOP a0.fRows.fRoot), dT a0.fTail, dN a0.fEnd], dN a1] [] (fun x => .tup [.agg [.sl 5 (List.map e_cell_Cell res.1.fCells), dN res.1.fEnd, dT res.1.fHidden], dT res.2]) (fun x => []) := by
 unfold grid_Grid_Row at h0
 refine CallF.mkG (X := X) rfl Tryz.func24 rfl rfl Tryz.ntmps24 rfl rfl ?_
 refine aS ?_
 refine TL.op1 (OpR.boxImm rfl rfl) rfl ?_
 refine TL.op (OpR.alloc rfl rfl (fun _ => rfl)) rfl (fun p1 => ?_)
 refine aA rfl rfl ?_
 refine aN rfl ?_
 refine aS ?_
 iterate 3 refine aA rfl rfl ?_
 obtain ⟨x2, hx2, h0⟩ := bS h0
 refine TL.op1 (OpR.call0 fn81 (tree_Tree_row_Row_At_c hx2) rfl) rfl ?_
 iterate 2 refine aA rfl rfl ?_
 refine TL.op0 (OpR.store 0 rfl rfl rfl rfl rfl rfl rfl rfl) ?_
 refine aA rfl rfl ?_
 refine aN rfl ?_
 refine T.ret ?_
 obtain rfl := osi h0
 exact rO [] [4, 5] rfl undef (cV 0 rfl rfl rfl rfl (cT rfl ResL.nil)) rfl rfl rfl rfl
noncomputable def ref17_at (a0 : List UInt8) (a1 : List UInt8) (a2 : Int) : Option Bool :=
  bnd (if a1 = [] then
    some false
  else
    if a2 ≥ 0 then
      if (w64 (a2 + (a1.length : Int))) ≤ (a0.length : Int) then
        bnd (cut a0 a2 (w64 (a2 + (a1.length : Int)))) fun x5 =>
        some (x5 == a1)
      else
        some false
    else
      some false : Option Bool) fun t1 =>
  some t1
theorem ref17_at_c {a0 : List UInt8} {a1 : List UInt8} {a2 : Int} {res : Bool} (h0 : ref17_at a0 a1 a2 = some res) : CallF X 221 [.val (.string (bs a0)), .val (.string (bs a1)), dN a2] [] (fun x => (dT res)) (fun x => []) := by
 unfold ref17_at at h0
 refine CallF.mkG (X := X) rfl Tryz.func221 rfl rfl Tryz.ntmps221 rfl rfl ?_
 refine aS ?_
 refine aA rfl rfl ?_
 refine aN rfl ?_
 refine T.seq ?_
 obtain ⟨t1, ht1, h0⟩ := bS h0
 refine T.cutC (fun S' => S' = ⟨[(6, (dT t1))], [], 33⟩) (fun _ h => h) ?_ ?_
 rotate_left
 · rintro _ rfl
   show T X _ _ _
   refine T.ret ?_
   obtain rfl := osi h0
   exact rO [] [6] rfl undef (cT rfl ResL.nil) rfl rfl rfl rfl
 refine T.region ?_
 refine aA rfl rfl ?_
 refine TL.op1 (OpR.cast (OpR.pure rfl) (boolE (strNe _ _))) rfl ?_
 refine aA rfl rfl ?_
 rcases ite_some ht1 with ⟨c2, ht1⟩ | ⟨c2, ht1⟩
 · refine TL.off rfl rfl rfl rfl (not_t (beq_iff_eq.2 c2)) rfl rfl ?_
   refine TL.off rfl rfl rfl rfl (not_t (beq_iff_eq.2 c2)) rfl rfl ?_
   refine TL.op1 (OpR.pickF rfl (not_t (beq_iff_eq.2 c2)) rfl) rfl ?_
   refine aA rfl rfl ?_
   refine TL.off rfl rfl rfl rfl rfl rfl rfl ?_
   refine TL.off rfl rfl rfl rfl rfl rfl rfl ?_
   refine TL.off rfl rfl rfl rfl rfl rfl rfl ?_
   refine TL.off rfl rfl rfl rfl rfl rfl rfl ?_
   refine TL.off rfl rfl rfl rfl rfl rfl rfl ?_
   refine TL.off rfl rfl rfl rfl rfl rfl rfl ?_
   refine TL.off rfl rfl rfl rfl rfl rfl rfl ?_
   refine TL.op1 (OpR.pickF rfl rfl rfl) rfl ?_
   refine aA rfl rfl ?_
   refine TL.off rfl rfl rfl rfl rfl rfl rfl ?_
   refine TL.off rfl rfl rfl rfl rfl rfl rfl ?_
   refine TL.off rfl rfl rfl rfl rfl rfl rfl ?_
   refine TL.off rfl rfl rfl rfl rfl rfl rfl ?_
   refine TL.off rfl rfl rfl rfl rfl rfl rfl ?_
   refine TL.off rfl rfl rfl rfl rfl rfl rfl ?_
   refine TL.off rfl rfl rfl rfl rfl rfl rfl ?_
   refine TL.off rfl rfl rfl rfl rfl rfl rfl ?_
   refine TL.off rfl rfl rfl rfl rfl rfl rfl ?_
   refine TL.op1 (OpR.pickF rfl rfl rfl) rfl ?_
   refine aA rfl rfl ?_
   refine TL.nil ?_
   obtain rfl := osi ht1
   exact ⟨_, Gst.only [6] rfl, rfl⟩
 refine TL.on rfl rfl rfl rfl (not_f (beq_eq_false_iff_ne.2 c2)) ?_
 refine aA rfl rfl ?_
 refine TL.on rfl rfl rfl rfl (not_f (beq_eq_false_iff_ne.2 c2)) ?_
 refine aA rfl rfl ?_
 refine TL.op1 (OpR.pickT rfl (not_f (beq_eq_false_iff_ne.2 c2)) rfl) rfl ?_
 refine aA rfl rfl ?_
 rcases ite_some ht1 with ⟨c3, ht1⟩ | ⟨c3, ht1⟩
 rotate_left
 · refine TL.off rfl rfl rfl rfl (eF c3) rfl rfl ?_
   refine TL.off rfl rfl rfl rfl (eF c3) rfl rfl ?_
   refine TL.off rfl rfl rfl rfl (eF c3) rfl rfl ?_
   refine TL.off rfl rfl rfl rfl (eF c3) rfl rfl ?_
   refine TL.off rfl rfl rfl rfl (eF c3) rfl rfl ?_
   refine TL.off rfl rfl rfl rfl (eF c3) rfl rfl ?_
   refine TL.off rfl rfl rfl rfl (eF c3) rfl rfl ?_
   refine TL.op1 (OpR.pickF rfl (eF c3) rfl) rfl ?_
   refine aA rfl rfl ?_
   refine TL.off rfl rfl rfl rfl rfl rfl rfl ?_
   refine TL.off rfl rfl rfl rfl rfl rfl rfl ?_
   refine TL.off rfl rfl rfl rfl rfl rfl rfl ?_
   refine TL.off rfl rfl rfl rfl rfl rfl rfl ?_
   refine TL.off rfl rfl rfl rfl rfl rfl rfl ?_
   refine TL.off rfl rfl rfl rfl rfl rfl rfl ?_
   refine TL.off rfl rfl rfl rfl rfl rfl rfl ?_
   refine TL.off rfl rfl rfl rfl rfl rfl rfl ?_
   refine TL.off rfl rfl rfl rfl rfl rfl rfl ?_
   refine TL.op1 (OpR.pickF rfl rfl rfl) rfl ?_
   refine aA rfl rfl ?_
   refine TL.nil ?_
   obtain rfl := osi ht1
   exact ⟨_, Gst.only [6] rfl, rfl⟩
 refine TL.on rfl rfl rfl rfl (eT c3) ?_
 refine aA rfl rfl ?_
 refine TL.on rfl rfl rfl rfl (eT c3) ?_
 refine aA rfl rfl ?_
 refine TL.on rfl rfl rfl rfl (eT c3) ?_
 refine TL.op1 (OpR.cast (OpR.pure rfl) (intE (lenS _))) rfl ?_
 refine TL.on rfl rfl rfl rfl (eT c3) ?_
 refine aA rfl rfl ?_
 refine TL.on rfl rfl rfl rfl (eT c3) ?_
 refine aA rfl rfl ?_
 refine TL.on rfl rfl rfl rfl (eT c3) ?_
 refine TL.op1 (OpR.cast (OpR.pure rfl) (intE (lenS _))) rfl ?_
 refine TL.on rfl rfl rfl rfl (eT c3) ?_
 refine aA rfl rfl ?_
 refine TL.op1 (OpR.pickT rfl (eT c3) rfl) rfl ?_
 refine aA rfl rfl ?_
 rcases ite_some ht1 with ⟨c4, ht1⟩ | ⟨c4, ht1⟩
 rotate_left
 · refine TL.off rfl rfl rfl rfl (eF c4) rfl rfl ?_
   refine TL.off rfl rfl rfl rfl (eF c4) rfl rfl ?_
   refine TL.off rfl rfl rfl rfl (eF c4) rfl rfl ?_
   refine TL.off rfl rfl rfl rfl (eF c4) rfl rfl ?_
   refine TL.off rfl rfl rfl rfl (eF c4) rfl rfl ?_
   refine TL.off rfl rfl rfl rfl (eF c4) rfl rfl ?_
   refine TL.off rfl rfl rfl rfl (eF c4) rfl rfl ?_
   refine TL.off rfl rfl rfl rfl (eF c4) rfl rfl ?_
   refine TL.off rfl rfl rfl rfl (eF c4) rfl rfl ?_
   refine TL.op1 (OpR.pickF rfl (eF c4) rfl) rfl ?_
   refine aA rfl rfl ?_
   refine TL.nil ?_
   obtain rfl := osi ht1
   exact ⟨_, Gst.only [6] rfl, rfl⟩
 refine TL.on rfl rfl rfl rfl (eT c4) ?_
 refine aA rfl rfl ?_
 refine TL.on rfl rfl rfl rfl (eT c4) ?_
 refine aA rfl rfl ?_
 refine TL.on rfl rfl rfl rfl (eT c4) ?_
 refine aA rfl rfl ?_
 refine TL.on rfl rfl rfl rfl (eT c4) ?_
 refine aA rfl rfl ?_
 refine TL.on rfl rfl rfl rfl (eT c4) ?_
 refine TL.op1 (OpR.cast (OpR.pure rfl) (intE (lenS _))) rfl ?_
 refine TL.on rfl rfl rfl rfl (eT c4) ?_
 refine aA rfl rfl ?_
 refine TL.on rfl rfl rfl rfl (eT c4) ?_
 obtain ⟨x5, hx5, ht1⟩ := bS ht1
 refine TL.op1 (OpR.sliceS hx5 rfl rfl rfl (BdM.some rfl) (BdM.some rfl)) rfl ?_
 refine TL.on rfl rfl rfl rfl (eT c4) ?_
 refine aA rfl rfl ?_
 refine TL.on rfl rfl rfl rfl (eT c4) ?_
 refine TL.op1 (OpR.cast (OpR.pure rfl) (boolE (strEq _ _))) rfl ?_
 refine TL.op1 (OpR.pickT rfl (eT c4) rfl) rfl ?_
 refine aA rfl rfl ?_
 refine TL.nil ?_
 obtain rfl := osi ht1
 exact ⟨_, Gst.only [6] rfl, rfl⟩
noncomputable def ref17_Every.l1 (a0 : List UInt8) (a1 : List UInt8) (s4 : Int × (List Int)) : Option (Lp (Int × (List Int)) (List Int)) :=
  if s4.1 < (a0.length : Int) then
    bnd (ref17_at a0 a1 s4.1) fun x13 =>
    bnd (if x13 = true then
      bnd (app 8 s4.2 [s4.1]) fun x17 =>
      some x17
    else
      some s4.2 : Option (List Int)) fun t14 =>
    some (Lp.next (w64 (s4.1 + 1), t14))
  else
    some (Lp.done s4.2)
noncomputable def ref17_Every (a0 : List UInt8) (a1 : List UInt8) : Option (List Int) :=
  bnd (loop (ref17_Every.l1 a0 a1) (0, []) : Option (List Int)) fun t1 =>
  some t1
theorem ref17_Every_c {a0 : List UInt8} {a1 : List UInt8} {res : (List Int)} (h0 : ref17_Every a0 a1 = some res) : CallF X 184 [.val (.string (bs a0)), .val (.string (bs a1))] [] (fun x => .sl 1 (List.map (eI .i64) res)) (fun x => []) := by
 unfold ref17_Every at h0
 refine CallF.mkG (X := X) rfl Tryz.func184 rfl rfl Tryz.ntmps184 rfl rfl ?_
 refine aS ?_
 refine aA rfl rfl ?_
 refine aN rfl ?_
 refine aS ?_
 refine aA rfl rfl ?_
 refine aN rfl ?_
 refine T.seq ?_
 refine aS ?_
 refine aA rfl rfl ?_
 refine TL.op1 (OpR.cast (OpR.pure rfl) (intE (lenS _))) rfl ?_
 refine aA rfl rfl ?_
 refine aN rfl ?_
 obtain ⟨t1, ht1, h0⟩ := bS h0
 refine T.cutC (fun S' => ∃ y2 : Value, S' = ⟨[(5, .val y2), (4, .val (.slice none 0 0))], [.row y2 (List.map (eI .i64) t1) 1 3], 22⟩) (fun _ h => h) ?_ ?_
 rotate_left
 · rintro _ ⟨y2, rfl⟩
   show T X _ _ _
   refine aS ?_
   iterate 2 refine aA rfl rfl ?_
   refine aN rfl ?_
   refine T.ret ?_
   obtain rfl := osi h0
   exact PostG.retP (ks := []) (Gst.trans (Gst.only [4] rfl) (Gst.trans (Gst.freezeRow 0 rfl rfl (ReS.cons (Re.base .all) ReS.nil) (ReO.same ReO.nil)) (Gst.pick [] rfl rfl))) undef (cT rfl ResL.nil) rfl rfl rfl rfl
 refine T.block ?_
 obtain ⟨n5, n10⟩ := loop_some ht1
 refine T.loop (fun n S' => ∃ S'', Gst S' S'' ∧ ∃ y3 : Value, ∃ s4 : Int × (List Int), S'' = ⟨[(9, (dN s4.1)), (8, (dN (a0.length : Int))), (5, .val y3), (4, .val (.slice none 0 0)), (1, .val (.string (bs a1))), (0, .val (.string (bs a0)))], [.row y3 (List.map (eI .i64) s4.2) 1 3], 22⟩ ∧ iter (ref17_Every.l1 a0 a1) n s4 = some t1) n5 ?_ ?_
 · exact ⟨_, Gst.trans (Gst.only [0, 1, 4, 5, 8, 9] rfl) (Gst.nilRow (ow := []) 1 3 rfl), (.slice none 0 0), (0, []), rfl, n10⟩
 rintro n5 _ ⟨_, g, y3, s4, rfl, i9⟩
 refine T.ghost g ?_
 obtain ⟨m6, q7, rfl, q8, i9⟩ := iter_succ i9
 unfold ref17_Every.l1 at q8
 refine aS ?_
 refine aA rfl rfl ?_
 refine aN rfl ?_
 refine T.seq ?_
 rcases ite_some q8 with ⟨c12, q8⟩ | ⟨c12, q8⟩
 rotate_left
 · refine T.condF rfl (eF c12) ?_
   refine T.exit ?_
   obtain rfl := osi q8
   obtain rfl : _ = _ := i9
   exact ⟨_, Gst.only [4, 5] rfl, y3, rfl⟩
 refine T.condT rfl (eT c12) ?_
 refine aK rfl ?_
 refine T.seq ?_
 refine T.block ?_
 refine aS ?_
 iterate 2 refine aA rfl rfl ?_
 refine aN rfl ?_
 refine aS ?_
 iterate 3 refine aA rfl rfl ?_
 obtain ⟨x13, hx13, q8⟩ := bS q8
 refine TL.op1 (OpR.call0 fn221 (ref17_at_c hx13) rfl) rfl ?_
 refine aN rfl ?_
 obtain ⟨t14, ht14, q8⟩ := bS q8
 refine T.cutC (fun S' => ∃ y15 : Value, S' = ⟨[(9, (dN s4.1)), (8, (dN (a0.length : Int))), (5, .val y15), (4, .val (.slice none 0 0)), (1, .val (.string (bs a1))), (0, .val (.string (bs a0)))], [.row y15 (List.map (eI .i64) t14) 1 3], 22⟩) (fun _ h => h) ?_ ?_
 rotate_left
 · rintro _ ⟨y15, rfl⟩
   show T X _ _ _
   refine T.region ?_
   iterate 2 refine aA rfl rfl ?_
   refine TL.nil ?_
   obtain rfl := osi q8
   exact ⟨m6, Nat.lt_succ_self _, _, Gst.only [0, 1, 4, 5, 8, 9] rfl, y15, (w64 (s4.1 + 1), t14), rfl, i9⟩
 rcases ite_some ht14 with ⟨c16, ht14⟩ | ⟨c16, ht14⟩
 rotate_left
 · refine T.condF rfl (eq_false_of_ne_true c16) ?_
   refine T.skip ?_
   obtain rfl := osi ht14
   exact ⟨_, Gst.only [0, 1, 4, 5, 8, 9] rfl, y3, rfl⟩
 refine T.condT rfl (c16) ?_
 refine T.region ?_
 iterate 2 refine aA rfl rfl ?_
 refine TL.op1 (OpR.lit rfl rfl rfl rfl rfl rfl rfl) rfl ?_
 obtain ⟨x17, hx17, ht14⟩ := bS ht14
 refine TL.op (OpR.appendM (m := [s4.1]) (eI .i64) 0 hx17 rfl rfl rfl rfl rfl rfl rfl rfl rfl (fun _ => rfl)) rfl (fun v18 => ?_)
 refine aA rfl rfl ?_
 refine TL.nil ?_
 obtain rfl := osi ht14
 exact ⟨_, Gst.only [0, 1, 4, 5, 8, 9] rfl, v18, rfl⟩
noncomputable def ref02_Digit (a0 : UInt8) : Option Bool :=
  bnd (if (a0.toNat : Int) ≥ 48 then
    some (decide ((a0.toNat : Int) ≤ 57))
  else
    some false : Option Bool) fun t1 =>
  some t1
theorem ref02_Digit_c {a0 : UInt8} {res : Bool} (h0 : ref02_Digit a0 = some res) : CallF X 217 [.val (.int .u8 (a0.toNat : Int))] [] (fun x => (dT res)) (fun x => []) := by
 unfold ref02_Digit at h0
 refine CallF.mkG (X := X) rfl Tryz.func217 rfl rfl Tryz.ntmps217 rfl rfl ?_
 refine aS ?_
 refine aA rfl rfl ?_
 refine aN rfl ?_
 refine T.seq ?_
 obtain ⟨t1, ht1, h0⟩ := bS h0
 refine T.cutC (fun S' => S' = ⟨[(2, (dT t1))], [], 9⟩) (fun _ h => h) ?_ ?_
 rotate_left
 · rintro _ rfl
   show T X _ _ _
   refine T.ret ?_
   obtain rfl := osi h0
   exact rO [] [2] rfl undef (cT rfl ResL.nil) rfl rfl rfl rfl
 refine T.region ?_
 iterate 3 refine aA rfl rfl ?_
 rcases ite_some ht1 with ⟨c2, ht1⟩ | ⟨c2, ht1⟩
 rotate_left
 · refine TL.off rfl rfl rfl rfl (eF c2) rfl rfl ?_
   refine TL.off rfl rfl rfl rfl (eF c2) rfl rfl ?_
   refine TL.op1 (OpR.pickF rfl (eF c2) rfl) rfl ?_
   refine aA rfl rfl ?_
   refine TL.nil ?_
   obtain rfl := osi ht1
   exact ⟨_, Gst.only [2] rfl, rfl⟩
 refine TL.on rfl rfl rfl rfl (eT c2) ?_
 refine aA rfl rfl ?_
 refine TL.on rfl rfl rfl rfl (eT c2) ?_
 refine aA rfl rfl ?_
 refine TL.op1 (OpR.pickT rfl (eT c2) rfl) rfl ?_
 refine aA rfl rfl ?_
 refine TL.nil ?_
 obtain rfl := osi ht1
 exact ⟨_, Gst.only [2] rfl, rfl⟩
noncomputable def ref02_bare.l1 (s2 : (List UInt8)) : Option (Lp (List UInt8) (List UInt8)) :=
  bnd (if (s2.length : Int) > 1 then
    bnd (idx s2 0) fun x12 =>
    some ((x12.toNat : Int) == 48)
  else
    some false : Option Bool) fun t10 =>
  if t10 = true then
    bnd (cut s2 1 (s2.length : Int)) fun x14 =>
    some (Lp.next x14)
  else
    some (Lp.done s2)
noncomputable def ref02_bare (a0 : List UInt8) : Option (List UInt8) :=
  bnd (loop ref02_bare.l1 a0 : Option (List UInt8)) fun t1 =>
  some t1
theorem ref02_bare_c {a0 : List UInt8} {res : (List UInt8)} (h0 : ref02_bare a0 = some res) : CallF X 218 [.val (.string (bs a0))] [] (fun x => .val (.string (bs res))) (fun x => []) := by
 unfold ref02_bare at h0
 refine CallF.mkG (X := X) rfl Tryz.func218 rfl rfl Tryz.ntmps218 rfl rfl ?_
 refine aS ?_
 refine aA rfl rfl ?_
 refine aN rfl ?_
 refine T.seq ?_
 obtain ⟨t1, ht1, h0⟩ := bS h0
 refine T.cutC (fun S' => S' = ⟨[(2, .val (.string (bs []))), (0, .val (.string (bs t1)))], [], 14⟩) (fun _ h => h) ?_ ?_
 rotate_left
 · rintro _ rfl
   show T X _ _ _
   refine aS ?_
   iterate 2 refine aA rfl rfl ?_
   refine aN rfl ?_
   refine T.ret ?_
   obtain rfl := osi h0
   exact rO [] [2] rfl undef (cT rfl ResL.nil) rfl rfl rfl rfl
 refine T.block ?_
 obtain ⟨n3, n8⟩ := loop_some ht1
 refine T.loop (fun n S' => ∃ S'', Gst S' S'' ∧ ∃ s2 : (List UInt8), S'' = ⟨[(2, .val (.string (bs []))), (0, .val (.string (bs s2)))], [], 14⟩ ∧ iter ref02_bare.l1 n s2 = some t1) n3 ?_ ?_
 · exact ⟨_, Gst.only [0, 2] rfl, a0, rfl, n8⟩
 rintro n3 _ ⟨_, g, s2, rfl, i7⟩
 refine T.ghost g ?_
 obtain ⟨m4, q5, rfl, q6, i7⟩ := iter_succ i7
 unfold ref02_bare.l1 at q6
 refine T.seq ?_
 refine T.seq ?_
 obtain ⟨t10, ht10, q6⟩ := bS q6
 refine T.cutC (fun S' => S' = ⟨[(10, (dT t10)), (2, .val (.string (bs []))), (0, .val (.string (bs s2)))], [], 14⟩) (fun _ h => h) ?_ ?_
 rotate_left
 · rintro _ rfl
   show T X _ _ _
   rcases ite_some q6 with ⟨c13, q6⟩ | ⟨c13, q6⟩
   rotate_left
   · refine T.condF rfl (eq_false_of_ne_true c13) ?_
     refine T.exit ?_
     obtain rfl := osi q6
     obtain rfl : _ = _ := i7
     exact ⟨_, Gst.only [0, 2] rfl, rfl⟩
   refine T.condT rfl (c13) ?_
   refine aK rfl ?_
   refine T.block ?_
   refine T.region ?_
   refine aA rfl rfl ?_
   obtain ⟨x14, hx14, q6⟩ := bS q6
   refine TL.op1 (OpR.sliceS hx14 rfl rfl rfl (BdM.some rfl) BdM.none) rfl ?_
   refine aA rfl rfl ?_
   refine TL.nil ?_
   obtain rfl := osi q6
   exact ⟨m4, Nat.lt_succ_self _, _, Gst.only [0, 2] rfl, x14, rfl, i7⟩
 refine T.region ?_
 refine aA rfl rfl ?_
 refine TL.op1 (OpR.cast (OpR.pure rfl) (intE (lenS _))) rfl ?_
 iterate 2 refine aA rfl rfl ?_
 rcases ite_some ht10 with ⟨c11, ht10⟩ | ⟨c11, ht10⟩
 rotate_left
 · refine TL.off rfl rfl rfl rfl (eF c11) rfl rfl ?_
   refine TL.off rfl rfl rfl rfl (eF c11) rfl rfl ?_
   refine TL.off rfl rfl rfl rfl (eF c11) rfl rfl ?_
   refine TL.op1 (OpR.pickF rfl (eF c11) rfl) rfl ?_
   refine TL.nil ?_
   obtain rfl := osi ht10
   exact ⟨_, Gst.only [0, 2, 10] rfl, rfl⟩
 refine TL.on rfl rfl rfl rfl (eT c11) ?_
 refine aA rfl rfl ?_
 refine TL.on rfl rfl rfl rfl (eT c11) ?_
 obtain ⟨x12, hx12, ht10⟩ := bS ht10
 refine TL.op1 (OpR.indexS hx12 rfl rfl rfl rfl) rfl ?_
 refine TL.on rfl rfl rfl rfl (eT c11) ?_
 refine aA rfl rfl ?_
 refine TL.op1 (OpR.pickT rfl (eT c11) rfl) rfl ?_
 refine TL.nil ?_
 obtain rfl := osi ht10
 exact ⟨_, Gst.only [0, 2, 10] rfl, rfl⟩
noncomputable def ref02_less (a0 : List UInt8) (a1 : List UInt8) : Option Bool :=
  bnd (if (a0.length : Int) < (a1.length : Int) then
    some true
  else
    if (a0.length : Int) = (a1.length : Int) then
      some (Op.bytesLess a0 a1)
    else
      some false : Option Bool) fun t1 =>
  some t1
theorem ref02_less_c {a0 : List UInt8} {a1 : List UInt8} {res : Bool} (h0 : ref02_less a0 a1 = some res) : CallF X 219 [.val (.string (bs a0)), .val (.string (bs a1))] [] (fun x => (dT res)) (fun x => []) := by
 unfold ref02_less at h0
 refine CallF.mkG (X := X) rfl Tryz.func219 rfl rfl Tryz.ntmps219 rfl rfl ?_
 refine aS ?_
 refine aA rfl rfl ?_
 refine aN rfl ?_
 refine T.seq ?_
 obtain ⟨t1, ht1, h0⟩ := bS h0
 refine T.cutC (fun S' => S' = ⟨[(4, (dT t1))], [], 22⟩) (fun _ h => h) ?_ ?_
 rotate_left
 · rintro _ rfl
   show T X _ _ _
   refine T.ret ?_
   obtain rfl := osi h0
   exact rO [] [4] rfl undef (cT rfl ResL.nil) rfl rfl rfl rfl
 refine T.region ?_
 refine aA rfl rfl ?_
 refine TL.op1 (OpR.cast (OpR.pure rfl) (intE (lenS _))) rfl ?_
 refine aA rfl rfl ?_
 refine TL.op1 (OpR.cast (OpR.pure rfl) (intE (lenS _))) rfl ?_
 iterate 2 refine aA rfl rfl ?_
 rcases ite_some ht1 with ⟨c2, ht1⟩ | ⟨c2, ht1⟩
 · refine TL.off rfl rfl rfl rfl (eT c2) rfl rfl ?_
   refine TL.off rfl rfl rfl rfl (eT c2) rfl rfl ?_
   refine TL.off rfl rfl rfl rfl (eT c2) rfl rfl ?_
   refine TL.off rfl rfl rfl rfl (eT c2) rfl rfl ?_
   refine TL.off rfl rfl rfl rfl (eT c2) rfl rfl ?_
   refine TL.off rfl rfl rfl rfl (eT c2) rfl rfl ?_
   refine TL.offU rfl rfl rfl rfl rfl rfl ?_
   refine TL.offU rfl rfl rfl rfl rfl rfl ?_
   refine TL.offU rfl rfl rfl rfl rfl rfl ?_
   refine TL.off rfl rfl rfl rfl (eT c2) rfl rfl ?_
   refine TL.op1 (OpR.pickT rfl (eT c2) rfl) rfl ?_
   refine aA rfl rfl ?_
   refine TL.nil ?_
   obtain rfl := osi ht1
   exact ⟨_, Gst.only [4] rfl, rfl⟩
 refine TL.on rfl rfl rfl rfl (eF c2) ?_
 refine aA rfl rfl ?_
 refine TL.on rfl rfl rfl rfl (eF c2) ?_
 refine TL.op1 (OpR.cast (OpR.pure rfl) (intE (lenS _))) rfl ?_
 refine TL.on rfl rfl rfl rfl (eF c2) ?_
 refine aA rfl rfl ?_
 refine TL.on rfl rfl rfl rfl (eF c2) ?_
 refine TL.op1 (OpR.cast (OpR.pure rfl) (intE (lenS _))) rfl ?_
 refine TL.on rfl rfl rfl rfl (eF c2) ?_
 refine aA rfl rfl ?_
 refine TL.on rfl rfl rfl rfl (eF c2) ?_
 refine aA rfl rfl ?_
 rcases ite_some ht1 with ⟨c3, ht1⟩ | ⟨c3, ht1⟩
 rotate_left
 · refine TL.off rfl rfl rfl rfl (beq_eq_false_iff_ne.2 c3) rfl rfl ?_
   refine TL.off rfl rfl rfl rfl (beq_eq_false_iff_ne.2 c3) rfl rfl ?_
   refine TL.off rfl rfl rfl rfl (beq_eq_false_iff_ne.2 c3) rfl rfl ?_
   refine TL.on rfl rfl rfl rfl (eF c2) ?_
   refine TL.op1 (OpR.pickF rfl (beq_eq_false_iff_ne.2 c3) rfl) rfl ?_
   refine TL.op1 (OpR.pickF rfl (eF c2) rfl) rfl ?_
   refine aA rfl rfl ?_
   refine TL.nil ?_
   obtain rfl := osi ht1
   exact ⟨_, Gst.only [4] rfl, rfl⟩
 refine TL.on rfl rfl rfl rfl (beq_iff_eq.2 c3) ?_
 refine aA rfl rfl ?_
 refine TL.on rfl rfl rfl rfl (beq_iff_eq.2 c3) ?_
 refine aA rfl rfl ?_
 refine TL.on rfl rfl rfl rfl (beq_iff_eq.2 c3) ?_
 refine TL.op1 (OpR.cast (OpR.pure rfl) (boolE (strLt _ _))) rfl ?_
 refine TL.on rfl rfl rfl rfl (eF c2) ?_
 refine TL.op1 (OpR.pickT rfl (beq_iff_eq.2 c3) rfl) rfl ?_
 refine TL.op1 (OpR.pickF rfl (eF c2) rfl) rfl ?_
 refine aA rfl rfl ?_
 refine TL.nil ?_
 obtain rfl := osi ht1
 exact ⟨_, Gst.only [4] rfl, rfl⟩
noncomputable def ref02_Parse.l1 (t5 : (List UInt8) × Bool) (s12 : Int) : Option (Lp Int (Ex Unit (Int × Bool))) :=
  if s12 < (t5.1.length : Int) then
    bnd (idx t5.1 s12) fun x21 =>
    bnd (ref02_Digit x21) fun x22 =>
    if x22 = true then
      some (Lp.next (w64 (s12 + 1)))
    else
      some (Lp.done (Ex.ret (0, false)))
  else
    some (Lp.done (Ex.brk ()))
noncomputable def ref02_Parse.l2 (t5 : (List UInt8) × Bool) (x24 : (List UInt8)) (s30 : Int × Int) : Option (Lp (Int × Int) Int) :=
  if s30.2 < (x24.length : Int) then
    bnd (if t5.2 = true then
      bnd (idx x24 s30.2) fun x41 =>
      some (w64 ((w64 (s30.1 * 10)) - (w64 ((x41.toNat : Int) - 48))))
    else
      bnd (idx x24 s30.2) fun x42 =>
      some (w64 ((w64 ((w64 (s30.1 * 10)) + (x42.toNat : Int))) - 48)) : Option Int) fun t39 =>
    some (Lp.next (t39, w64 (s30.2 + 1)))
  else
    some (Lp.done s30.1)
noncomputable def ref02_Parse (a0 : List UInt8) : Option (Int × Bool) :=
  bnd (if (a0.length : Int) > 0 then
    bnd (idx a0 0) fun x3 =>
    if (x3.toNat : Int) = 43 then
      some true
    else
      some ((x3.toNat : Int) == 45)
  else
    some false : Option Bool) fun t1 =>
  bnd (if t1 = true then
    bnd (idx a0 0) fun x7 =>
    bnd (cut a0 1 (a0.length : Int)) fun x8 =>
    some (x8, ((x7.toNat : Int) == 45))
  else
    some (a0, false) : Option ((List UInt8) × Bool)) fun t5 =>
  if t5.1 = [] then
    some (0, false)
  else
    bnd (loop (ref02_Parse.l1 t5) 0 : Option (Ex Unit (Int × Bool))) fun t10 => match t10 with
      | .brk u11 =>
        bnd (ref02_bare t5.1) fun x24 =>
        bnd (if t5.2 = true then
          some [57, 50, 50, 51, 51, 55, 50, 48, 51, 54, 56, 53, 52, 55, 55, 53, 56, 48, 56]
        else
          some [57, 50, 50, 51, 51, 55, 50, 48, 51, 54, 56, 53, 52, 55, 55, 53, 56, 48, 55] : Option (List UInt8)) fun t25 =>
        bnd (ref02_less t25 x24) fun x27 =>
        if x27 = true then
          some (0, false)
        else
          bnd (loop (ref02_Parse.l2 t5 x24) (0, 0) : Option Int) fun t29 =>
          some (t29, true)
      | .ret u11 => some u11
theorem ref02_Parse_c {a0 : List UInt8} {res : Int × Bool} (h0 : ref02_Parse a0 = some res) : CallF X 174 [.val (.string (bs a0))] [] (fun x => .tup [dN res.1, dT res.2]) (fun x => []) := by
 unfold ref02_Parse at h0
 refine CallF.mkG (X := X) rfl Tryz.func174 rfl rfl Tryz.ntmps174 rfl rfl ?_
 refine aS ?_
 iterate 2 refine aA rfl rfl ?_
 refine aN rfl ?_
 refine aS ?_
 refine aA rfl rfl ?_
 refine aN rfl ?_
 refine T.seq ?_
 refine T.seq ?_
 obtain ⟨t1, ht1, h0⟩ := bS h0
 refine T.cutC (fun S' => S' = ⟨[(21, (dT t1)), (4, (dT false)), (3, (dT false)), (2, (dN 0)), (0, .val (.string (bs a0)))], [], 70⟩) (fun _ h => h) ?_ ?_
 · refine T.region ?_
   refine aA rfl rfl ?_
   refine TL.op1 (OpR.cast (OpR.pure rfl) (intE (lenS _))) rfl ?_
   iterate 2 refine aA rfl rfl ?_
   rcases ite_some ht1 with ⟨c2, ht1⟩ | ⟨c2, ht1⟩
   rotate_left
   · refine TL.off rfl rfl rfl rfl (eF c2) rfl rfl ?_
     refine TL.off rfl rfl rfl rfl (eF c2) rfl rfl ?_
     refine TL.off rfl rfl rfl rfl (eF c2) rfl rfl ?_
     refine TL.off rfl rfl rfl rfl (eF c2) rfl rfl ?_
     refine TL.offU rfl rfl rfl rfl rfl rfl ?_
     refine TL.offU rfl rfl rfl rfl rfl rfl ?_
     refine TL.offU rfl rfl rfl rfl rfl rfl ?_
     refine TL.off rfl rfl rfl rfl (eF c2) rfl rfl ?_
     refine TL.op1 (OpR.pickF rfl (eF c2) rfl) rfl ?_
     refine TL.nil ?_
     obtain rfl := osi ht1
     exact ⟨_, Gst.only [0, 2, 3, 4, 21] rfl, rfl⟩
   refine TL.on rfl rfl rfl rfl (eT c2) ?_
   refine aA rfl rfl ?_
   refine TL.on rfl rfl rfl rfl (eT c2) ?_
   obtain ⟨x3, hx3, ht1⟩ := bS ht1
   refine TL.op1 (OpR.indexS hx3 rfl rfl rfl rfl) rfl ?_
   refine TL.on rfl rfl rfl rfl (eT c2) ?_
   refine aA rfl rfl ?_
   refine TL.on rfl rfl rfl rfl (eT c2) ?_
   refine aA rfl rfl ?_
   rcases ite_some ht1 with ⟨c4, ht1⟩ | ⟨c4, ht1⟩
   · refine TL.off rfl rfl rfl rfl (beq_iff_eq.2 c4) rfl rfl ?_
     refine TL.off rfl rfl rfl rfl (beq_iff_eq.2 c4) rfl rfl ?_
     refine TL.off rfl rfl rfl rfl (beq_iff_eq.2 c4) rfl rfl ?_
     refine TL.on rfl rfl rfl rfl (eT c2) ?_
     refine TL.op1 (OpR.pickT rfl (beq_iff_eq.2 c4) rfl) rfl ?_
     refine TL.op1 (OpR.pickT rfl (eT c2) rfl) rfl ?_
     refine TL.nil ?_
     obtain rfl := osi ht1
     exact ⟨_, Gst.only [0, 2, 3, 4, 21] rfl, rfl⟩
   refine TL.on rfl rfl rfl rfl (beq_eq_false_iff_ne.2 c4) ?_
   refine aA rfl rfl ?_
   refine TL.on rfl rfl rfl rfl (beq_eq_false_iff_ne.2 c4) ?_
   refine TL.op1 (OpR.indexS hx3 rfl rfl rfl rfl) rfl ?_
   refine TL.on rfl rfl rfl rfl (beq_eq_false_iff_ne.2 c4) ?_
   refine aA rfl rfl ?_
   refine TL.on rfl rfl rfl rfl (eT c2) ?_
   refine TL.op1 (OpR.pickF rfl (beq_eq_false_iff_ne.2 c4) rfl) rfl ?_
   refine TL.op1 (OpR.pickT rfl (eT c2) rfl) rfl ?_
   refine TL.nil ?_
   obtain rfl := osi ht1
   exact ⟨_, Gst.only [0, 2, 3, 4, 21] rfl, rfl⟩
 rintro _ rfl
 show T X _ _ _
 obtain ⟨t5, ht5, h0⟩ := bS h0
 refine T.cutC (fun S' => S' = ⟨[(4, (dT t5.2)), (3, (dT false)), (2, (dN 0)), (0, .val (.string (bs t5.1)))], [], 70⟩) (fun _ h => h) ?_ ?_
 · rcases ite_some ht5 with ⟨c6, ht5⟩ | ⟨c6, ht5⟩
   rotate_left
   · refine T.condF rfl (eq_false_of_ne_true c6) ?_
     refine T.skip ?_
     obtain rfl := osi ht5
     exact ⟨_, Gst.only [0, 2, 3, 4] rfl, rfl⟩
   refine T.condT rfl (c6) ?_
   refine aS ?_
   refine aA rfl rfl ?_
   obtain ⟨x7, hx7, ht5⟩ := bS ht5
   refine TL.op1 (OpR.indexS hx7 rfl rfl rfl rfl) rfl ?_
   iterate 2 refine aA rfl rfl ?_
   refine aN rfl ?_
   refine T.region ?_
   refine aA rfl rfl ?_
   obtain ⟨x8, hx8, ht5⟩ := bS ht5
   refine TL.op1 (OpR.sliceS hx8 rfl rfl rfl (BdM.some rfl) BdM.none) rfl ?_
   refine aA rfl rfl ?_
   refine TL.nil ?_
   obtain rfl := osi ht5
   exact ⟨_, Gst.only [0, 2, 3, 4] rfl, rfl⟩
 rintro _ rfl
 show T X _ _ _
 refine T.seq ?_
 refine aS ?_
 refine aA rfl rfl ?_
 refine TL.op1 (OpR.cast (OpR.pure rfl) (boolE (strEq _ _))) rfl ?_
 refine aN rfl ?_
 rcases ite_some h0 with ⟨c9, h0⟩ | ⟨c9, h0⟩
 · refine T.condT rfl (beq_iff_eq.2 c9) ?_
   refine aS ?_
   iterate 2 refine aA rfl rfl ?_
   refine aN rfl ?_
   refine T.ret ?_
   obtain rfl := osi h0
   exact rO [] [2, 3] rfl undef (cT rfl (cT rfl ResL.nil)) rfl rfl rfl rfl
 refine T.condF rfl (beq_eq_false_iff_ne.2 c9) ?_
 refine aK rfl ?_
 refine T.seq ?_
 refine aS ?_
 refine aA rfl rfl ?_
 refine aN rfl ?_
 obtain ⟨t10, ht10, h0⟩ := bS h0
 refine T.cutC (fun S' => ∃ u11, t10 = Ex.brk u11 ∧ S' = ⟨[(4, (dT t5.2)), (3, (dT false)), (2, (dN 0)), (0, .val (.string (bs t5.1)))], [], 70⟩) (fun _ h => h) ?_ ?_
 · refine T.block ?_
   obtain ⟨n13, n18⟩ := loop_some ht10
   refine T.loop (fun n S' => ∃ S'', Gst S' S'' ∧ ∃ s12 : Int, S'' = ⟨[(5, (dN s12)), (4, (dT t5.2)), (3, (dT false)), (2, (dN 0)), (0, .val (.string (bs t5.1)))], [], 70⟩ ∧ iter (ref02_Parse.l1 t5) n s12 = some t10) n13 ?_ ?_
   · exact ⟨_, Gst.only [0, 2, 3, 4, 5] rfl, 0, rfl, n18⟩
   rintro n13 _ ⟨_, g, s12, rfl, i17⟩
   refine T.ghost g ?_
   obtain ⟨m14, q15, rfl, q16, i17⟩ := iter_succ i17
   unfold ref02_Parse.l1 at q16
   refine T.seq ?_
   refine aS ?_
   iterate 2 refine aA rfl rfl ?_
   refine TL.op1 (OpR.cast (OpR.pure rfl) (intE (lenS _))) rfl ?_
   refine aA rfl rfl ?_
   refine aN rfl ?_
   rcases ite_some q16 with ⟨c20, q16⟩ | ⟨c20, q16⟩
   rotate_left
   · refine T.condF rfl (eF c20) ?_
     refine T.exit ?_
     obtain rfl := osi q16
     obtain rfl : _ = _ := i17
     exact ⟨_, Gst.only [0, 2, 3, 4] rfl, _, rfl, rfl⟩
   refine T.condT rfl (eT c20) ?_
   refine aK rfl ?_
   refine T.seq ?_
   refine T.block ?_
   refine aS ?_
   iterate 2 refine aA rfl rfl ?_
   obtain ⟨x21, hx21, q16⟩ := bS q16
   refine TL.op1 (OpR.indexS hx21 rfl rfl rfl rfl) rfl ?_
   obtain ⟨x22, hx22, q16⟩ := bS q16
   refine TL.op1 (OpR.call0 fn217 (ref02_Digit_c hx22) rfl) rfl ?_
   refine aA rfl rfl ?_
   refine aN rfl ?_
   rcases ite_some q16 with ⟨c23, q16⟩ | ⟨c23, q16⟩
   · refine T.condF rfl (not_t (c23)) ?_
     refine aK rfl ?_
     refine T.region ?_
     iterate 3 refine aA rfl rfl ?_
     refine TL.nil ?_
     obtain rfl := osi q16
     exact ⟨m14, Nat.lt_succ_self _, _, Gst.only [0, 2, 3, 4, 5] rfl, w64 (s12 + 1), rfl, i17⟩
   refine T.condT rfl (not_f (eq_false_of_ne_true c23)) ?_
   refine aS ?_
   iterate 2 refine aA rfl rfl ?_
   refine aN rfl ?_
   refine T.ret ?_
   obtain rfl := osi q16
   obtain rfl : _ = _ := i17
   obtain rfl := osi h0
   exact rO [] [2, 3] rfl undef (cT rfl (cT rfl ResL.nil)) rfl rfl rfl rfl
 rintro _ ⟨u11, rfl, rfl⟩
 show T X _ _ _
 refine aS ?_
 refine aA rfl rfl ?_
 obtain ⟨x24, hx24, h0⟩ := bS h0
 refine TL.op1 (OpR.call0 fn218 (ref02_bare_c hx24) rfl) rfl ?_
 refine aA rfl rfl ?_
 refine aN rfl ?_
 refine aS ?_
 refine aA rfl rfl ?_
 refine aN rfl ?_
 refine T.seq ?_
 refine aS ?_
 refine aA rfl rfl ?_
 refine aN rfl ?_
 obtain ⟨t25, ht25, h0⟩ := bS h0
 refine T.cutC (fun S' => S' = ⟨[(6, .val (.string (bs t25))), (4, (dT t5.2)), (3, (dT false)), (2, (dN 0)), (0, .val (.string (bs x24)))], [], 70⟩) (fun _ h => h) ?_ ?_
 · rcases ite_some ht25 with ⟨c26, ht25⟩ | ⟨c26, ht25⟩
   rotate_left
   · refine T.condF rfl (eq_false_of_ne_true c26) ?_
     refine T.skip ?_
     obtain rfl := osi ht25
     exact ⟨_, Gst.only [0, 2, 3, 4, 6] rfl, rfl⟩
   refine T.condT rfl (c26) ?_
   refine T.region ?_
   refine aA rfl rfl ?_
   refine TL.nil ?_
   obtain rfl := osi ht25
   exact ⟨_, Gst.only [0, 2, 3, 4, 6] rfl, rfl⟩
 rintro _ rfl
 show T X _ _ _
 refine T.seq ?_
 refine aS ?_
 iterate 2 refine aA rfl rfl ?_
 obtain ⟨x27, hx27, h0⟩ := bS h0
 refine TL.op1 (OpR.call0 fn219 (ref02_less_c hx27) rfl) rfl ?_
 refine aN rfl ?_
 rcases ite_some h0 with ⟨c28, h0⟩ | ⟨c28, h0⟩
 · refine T.condT rfl (c28) ?_
   refine aS ?_
   iterate 2 refine aA rfl rfl ?_
   refine aN rfl ?_
   refine T.ret ?_
   obtain rfl := osi h0
   exact rO [] [2, 3] rfl undef (cT rfl (cT rfl ResL.nil)) rfl rfl rfl rfl
 refine T.condF rfl (eq_false_of_ne_true c28) ?_
 refine aK rfl ?_
 refine aS ?_
 refine aA rfl rfl ?_
 refine aN rfl ?_
 refine T.seq ?_
 refine aS ?_
 refine aA rfl rfl ?_
 refine aN rfl ?_
 obtain ⟨t29, ht29, h0⟩ := bS h0
 refine T.cutC (fun S' => S' = ⟨[(7, (dN t29)), (3, (dT false)), (2, (dN 0))], [], 70⟩) (fun _ h => h) ?_ ?_
 rotate_left
 · rintro _ rfl
   show T X _ _ _
   refine aS ?_
   iterate 3 refine aA rfl rfl ?_
   refine aN rfl ?_
   refine T.ret ?_
   obtain rfl := osi h0
   exact rO [] [2, 3] rfl undef (cT rfl (cT rfl ResL.nil)) rfl rfl rfl rfl
 refine T.block ?_
 obtain ⟨n31, n36⟩ := loop_some ht29
 refine T.loop (fun n S' => ∃ S'', Gst S' S'' ∧ ∃ s30 : Int × Int, S'' = ⟨[(8, (dN s30.2)), (7, (dN s30.1)), (4, (dT t5.2)), (3, (dT false)), (2, (dN 0)), (0, .val (.string (bs x24)))], [], 70⟩ ∧ iter (ref02_Parse.l2 t5 x24) n s30 = some t29) n31 ?_ ?_
 · exact ⟨_, Gst.only [0, 2, 3, 4, 7, 8] rfl, (0, 0), rfl, n36⟩
 rintro n31 _ ⟨_, g, s30, rfl, i35⟩
 refine T.ghost g ?_
 obtain ⟨m32, q33, rfl, q34, i35⟩ := iter_succ i35
 unfold ref02_Parse.l2 at q34
 refine T.seq ?_
 refine aS ?_
 iterate 2 refine aA rfl rfl ?_
 refine TL.op1 (OpR.cast (OpR.pure rfl) (intE (lenS _))) rfl ?_
 refine aA rfl rfl ?_
 refine aN rfl ?_
 rcases ite_some q34 with ⟨c38, q34⟩ | ⟨c38, q34⟩
 rotate_left
 · refine T.condF rfl (eF c38) ?_
   refine T.exit ?_
   obtain rfl := osi q34
   obtain rfl : _ = _ := i35
   exact ⟨_, Gst.only [2, 3, 7] rfl, rfl⟩
 refine T.condT rfl (eT c38) ?_
 refine aK rfl ?_
 refine T.seq ?_
 refine T.block ?_
 refine aS ?_
 refine aA rfl rfl ?_
 refine aN rfl ?_
 obtain ⟨t39, ht39, q34⟩ := bS q34
 refine T.cutC (fun S' => S' = ⟨[(8, (dN s30.2)), (7, (dN t39)), (4, (dT t5.2)), (3, (dT false)), (2, (dN 0)), (0, .val (.string (bs x24)))], [], 70⟩) (fun _ h => h) ?_ ?_
 rotate_left
 · rintro _ rfl
   show T X _ _ _
   refine T.region ?_
   iterate 3 refine aA rfl rfl ?_
   refine TL.nil ?_
   obtain rfl := osi q34
   exact ⟨m32, Nat.lt_succ_self _, _, Gst.only [0, 2, 3, 4, 7, 8] rfl, (t39, w64 (s30.2 + 1)), rfl, i35⟩
 rcases ite_some ht39 with ⟨c40, ht39⟩ | ⟨c40, ht39⟩
 · refine T.condT rfl (c40) ?_
   refine T.region ?_
   iterate 4 refine aA rfl rfl ?_
   obtain ⟨x41, hx41, ht39⟩ := bS ht39
   refine TL.op1 (OpR.indexS hx41 rfl rfl rfl rfl) rfl ?_
   refine TL.op1 (OpR.cast (OpR.pure rfl) (intE (w64_u8 _))) rfl ?_
   iterate 3 refine aA rfl rfl ?_
   refine TL.nil ?_
   obtain rfl := osi ht39
   exact ⟨_, Gst.only [0, 2, 3, 4, 7, 8] rfl, rfl⟩
 refine T.condF rfl (eq_false_of_ne_true c40) ?_
 refine T.region ?_
 iterate 4 refine aA rfl rfl ?_
 obtain ⟨x42, hx42, ht39⟩ := bS ht39
 refine TL.op1 (OpR.indexS hx42 rfl rfl rfl rfl) rfl ?_
 refine TL.op1 (OpR.cast (OpR.pure rfl) (intE (w64_u8 _))) rfl ?_
 iterate 3 refine aA rfl rfl ?_
 refine TL.nil ?_
 obtain rfl := osi ht39
 exact ⟨_, Gst.only [0, 2, 3, 4, 7, 8] rfl, rfl⟩
noncomputable def ref02_Compare (a0 : List UInt8) (a1 : List UInt8) : Option Int :=
  bnd (ref02_Parse a0) fun x1 =>
  bnd (ref02_Parse a1) fun x2 =>
  bnd (if x1.2 = true then
    some x2.2
  else
    some false : Option Bool) fun t3 =>
  bnd (if t3 = true then
    some (decide (x1.1 < x2.1), decide (x2.1 < x1.1))
  else
    some ((Op.bytesLess a0 a1), (Op.bytesLess a1 a0)) : Option (Bool × Bool)) fun t5 =>
  bnd (if (x1.2 == x2.2) = true then
    some (t5.1, t5.2)
  else
    some (x1.2, x2.2) : Option (Bool × Bool)) fun t7 =>
  if t7.1 = true then
    some (-1)
  else
    if t7.2 = true then
      some 1
    else
      some 0
theorem ref02_Compare_c {a0 : List UInt8} {a1 : List UInt8} {res : Int} (h0 : ref02_Compare a0 a1 = some res) : CallF X 109 [.val (.string (bs a0)), .val (.string (bs a1))] [] (fun x => (dN res)) (fun x => []) := by
 unfold ref02_Compare at h0
 refine CallF.mkG (X := X) rfl Tryz.func109 rfl rfl Tryz.ntmps109 rfl rfl ?_
 refine aS ?_
 refine aA rfl rfl ?_
 refine aN rfl ?_
 refine aS ?_
 refine aA rfl rfl ?_
 obtain ⟨x1, hx1, h0⟩ := bS h0
 refine TL.op1 (OpR.call0 fn174 (ref02_Parse_c hx1) rfl) rfl ?_
 iterate 5 refine aA rfl rfl ?_
 refine aN rfl ?_
 refine aS ?_
 refine aA rfl rfl ?_
 obtain ⟨x2, hx2, h0⟩ := bS h0
 refine TL.op1 (OpR.call0 fn174 (ref02_Parse_c hx2) rfl) rfl ?_
 iterate 5 refine aA rfl rfl ?_
 refine aN rfl ?_
 refine aS ?_
 iterate 2 refine aA rfl rfl ?_
 refine TL.op1 (OpR.cast (OpR.pure rfl) (boolE (strLt _ _))) rfl ?_
 iterate 2 refine aA rfl rfl ?_
 refine TL.op1 (OpR.cast (OpR.pure rfl) (boolE (strLt _ _))) rfl ?_
 iterate 2 refine aA rfl rfl ?_
 refine aN rfl ?_
 refine T.seq ?_
 refine T.seq ?_
 obtain ⟨t3, ht3, h0⟩ := bS h0
 refine T.cutC (fun S' => S' = ⟨[(30, (dT t3)), (10, (dT (Op.bytesLess a1 a0))), (9, (dT (Op.bytesLess a0 a1))), (8, (dT x2.2)), (7, (dN x2.1)), (6, (dT x1.2)), (5, (dN x1.1)), (4, (dN 0))], [], 44⟩) (fun _ h => h) ?_ ?_
 · refine T.region ?_
   iterate 2 refine aA rfl rfl ?_
   rcases ite_some ht3 with ⟨c4, ht3⟩ | ⟨c4, ht3⟩
   · refine TL.on rfl rfl rfl rfl (c4) ?_
     refine aA rfl rfl ?_
     refine TL.op1 (OpR.pickT rfl (c4) rfl) rfl ?_
     refine TL.nil ?_
     obtain rfl := osi ht3
     exact ⟨_, Gst.only [4, 5, 6, 7, 8, 9, 10, 30] rfl, rfl⟩
   refine TL.off rfl rfl rfl rfl (eq_false_of_ne_true c4) rfl rfl ?_
   refine TL.op1 (OpR.pickF rfl (eq_false_of_ne_true c4) rfl) rfl ?_
   refine TL.nil ?_
   obtain rfl := osi ht3
   exact ⟨_, Gst.only [4, 5, 6, 7, 8, 9, 10, 30] rfl, rfl⟩
 rintro _ rfl
 show T X _ _ _
 obtain ⟨t5, ht5, h0⟩ := bS h0
 refine T.cutC (fun S' => S' = ⟨[(10, (dT t5.2)), (9, (dT t5.1)), (8, (dT x2.2)), (6, (dT x1.2)), (4, (dN 0))], [], 44⟩) (fun _ h => h) ?_ ?_
 · rcases ite_some ht5 with ⟨c6, ht5⟩ | ⟨c6, ht5⟩
   rotate_left
   · refine T.condF rfl (eq_false_of_ne_true c6) ?_
     refine T.skip ?_
     obtain rfl := osi ht5
     exact ⟨_, Gst.only [4, 6, 8, 9, 10] rfl, rfl⟩
   refine T.condT rfl (c6) ?_
   refine T.region ?_
   iterate 8 refine aA rfl rfl ?_
   refine TL.nil ?_
   obtain rfl := osi ht5
   exact ⟨_, Gst.only [4, 6, 8, 9, 10] rfl, rfl⟩
 rintro _ rfl
 show T X _ _ _
 refine T.seq ?_
 refine aS ?_
 iterate 2 refine aA rfl rfl ?_
 refine TL.op1 (OpR.neBool rfl rfl rfl rfl) rfl ?_
 refine aN rfl ?_
 obtain ⟨t7, ht7, h0⟩ := bS h0
 refine T.cutC (fun S' => S' = ⟨[(10, (dT t7.2)), (9, (dT t7.1)), (4, (dN 0))], [], 44⟩) (fun _ h => h) ?_ ?_
 · rcases ite_some ht7 with ⟨c8, ht7⟩ | ⟨c8, ht7⟩
   · refine T.condF rfl (not_t (c8)) ?_
     refine T.skip ?_
     obtain rfl := osi ht7
     exact ⟨_, Gst.only [4, 9, 10] rfl, rfl⟩
   refine T.condT rfl (not_f (eq_false_of_ne_true c8)) ?_
   refine T.region ?_
   iterate 4 refine aA rfl rfl ?_
   refine TL.nil ?_
   obtain rfl := osi ht7
   exact ⟨_, Gst.only [4, 9, 10] rfl, rfl⟩
 rintro _ rfl
 show T X _ _ _
 refine T.seq ?_
 refine aS ?_
 refine aA rfl rfl ?_
 refine aN rfl ?_
 rcases ite_some h0 with ⟨c9, h0⟩ | ⟨c9, h0⟩
 · refine T.condT rfl (c9) ?_
   refine aS ?_
   refine aA rfl rfl ?_
   refine aN rfl ?_
   refine T.ret ?_
   obtain rfl := osi h0
   exact rO [] [4] rfl undef (cT rfl ResL.nil) rfl rfl rfl rfl
 refine T.condF rfl (eq_false_of_ne_true c9) ?_
 refine aK rfl ?_
 refine T.seq ?_
 refine aS ?_
 refine aA rfl rfl ?_
 refine aN rfl ?_
 rcases ite_some h0 with ⟨c10, h0⟩ | ⟨c10, h0⟩
 · refine T.condT rfl (c10) ?_
   refine aS ?_
   refine aA rfl rfl ?_
   refine aN rfl ?_
   refine T.ret ?_
   obtain rfl := osi h0
   exact rO [] [4] rfl undef (cT rfl ResL.nil) rfl rfl rfl rfl
 refine T.condF rfl (eq_false_of_ne_true c10) ?_
 refine aK rfl ?_
 refine aS ?_
 refine aA rfl rfl ?_
 refine aN rfl ?_
 refine T.ret ?_
 obtain rfl := osi h0
 exact rO [] [4] rfl undef (cT rfl ResL.nil) rfl rfl rfl rfl
noncomputable def ref18_plain (a0 : List UInt8) (a1 : ref18_Test) : Option Bool :=
  if a1.fOp = 0 then
    bnd (if a1.fArg = [] then
      some true
    else
      bnd (ref17_Every a0 a1.fArg) fun x5 =>
      some (decide ((x5.length : Int) > 0)) : Option Bool) fun t3 =>
    some t3
  else
    if a1.fOp = 1 then
      some (a0 == a1.fArg)
    else
      if a1.fOp = 2 then
        bnd (ref02_Compare a0 a1.fArg) fun x8 =>
        some (decide (x8 < 0))
      else
        if a1.fOp = 3 then
          bnd (ref02_Compare a0 a1.fArg) fun x10 =>
          some (decide (x10 > 0))
        else
          if a1.fOp = 4 then
            bnd (if (a0.length : Int) ≥ (a1.fArg.length : Int) then
              bnd (cut a0 0 (a1.fArg.length : Int)) fun x15 =>
              some (x15 == a1.fArg)
            else
              some false : Option Bool) fun t12 =>
            some t12
          else
            if a1.fOp = 5 then
              bnd (if (a0.length : Int) ≥ (a1.fArg.length : Int) then
                bnd (cut a0 (w64 ((a0.length : Int) - (a1.fArg.length : Int))) (a0.length : Int)) fun x20 =>
                some (x20 == a1.fArg)
              else
                some false : Option Bool) fun t17 =>
              some t17
            else
              some (a0 == [])
theorem ref18_plain_c {a0 : List UInt8} {a1 : ref18_Test} {res : Bool} (h0 : ref18_plain a0 a1 = some res) : CallF X 114 [.val (.string (bs a0)), .agg [dN a1.fCol, dN a1.fOp, .val (.string (bs a1.fArg)), dT a1.fNot]] [] (fun x => (dT res)) (fun x => []) := by
 unfold ref18_plain at h0
 refine CallF.mkG (X := X) rfl Tryz.func114 rfl rfl Tryz.ntmps114 rfl rfl ?_
 refine aS ?_
 refine TL.op1 (OpR.boxImm rfl rfl) rfl ?_
 refine aA rfl rfl ?_
 refine aN rfl ?_
 refine T.seq ?_
 refine T.drawQ drawsX [.val (.string (bs a0)), dN (a0.length : Int), .nod [.val (.string (bs a1.fArg)), dT a1.fNot], .val (.string (bs a1.fArg)), dN (a1.fArg.length : Int), dN (a0.length : Int), dN (a1.fArg.length : Int)] [0, 3, 4, 5, 6] (by decide +kernel) rfl ?_ rfl ?_
 · refine aB rfl rfl rfl ?_
   refine OpsQ.yes (Want.plain rfl) rfl (OpR.cast (OpR.pure rfl) (intE (lenS _))) ?_
   iterate 2 refine aB rfl rfl rfl ?_
   refine OpsQ.yes (Want.plain rfl) rfl (OpR.cast (OpR.pure rfl) (intE (lenS _))) ?_
   iterate 2 refine aB rfl rfl rfl ?_
   exact OpsQ.nil
 show T X _ _ _
 refine T.seq ?_
 refine aS ?_
 iterate 3 refine aA rfl rfl ?_
 refine aN rfl ?_
 rcases ite_some h0 with ⟨c2, h0⟩ | ⟨c2, h0⟩
 · refine T.condT rfl (beq_iff_eq.2 c2) ?_
   refine T.seq ?_
   obtain ⟨t3, ht3, h0⟩ := bS h0
   refine T.cutC (fun S' => S' = ⟨[(6, (dN (a1.fArg.length : Int))), (5, (dN (a0.length : Int))), (4, (dT t3)), (3, .nod [dN a1.fCol, dN a1.fOp, .val (.string (bs a1.fArg)), dT a1.fNot]), (0, .val (.string (bs a0)))], [], 81⟩) (fun _ h => h) ?_ ?_
   rotate_left
   · rintro _ rfl
     show T X _ _ _
     refine T.ret ?_
     obtain rfl := osi h0
     exact rO [] [4] rfl undef (cT rfl ResL.nil) rfl rfl rfl rfl
   refine T.region ?_
   iterate 2 refine aA rfl rfl ?_
   refine TL.op1 (OpR.cast (OpR.pure rfl) (boolE (strEq _ _))) rfl ?_
   refine aA rfl rfl ?_
   rcases ite_some ht3 with ⟨c4, ht3⟩ | ⟨c4, ht3⟩
   · refine TL.off rfl rfl rfl rfl (beq_iff_eq.2 c4) rfl rfl ?_
     refine TL.off rfl rfl rfl rfl (beq_iff_eq.2 c4) rfl rfl ?_
     refine TL.off rfl rfl rfl rfl (beq_iff_eq.2 c4) rfl rfl ?_
     refine TL.off rfl rfl rfl rfl (beq_iff_eq.2 c4) rfl rfl ?_
     refine TL.off rfl rfl rfl rfl (beq_iff_eq.2 c4) rfl rfl ?_
     refine TL.off rfl rfl rfl rfl (beq_iff_eq.2 c4) rfl rfl ?_
     refine TL.op1 (OpR.pickT rfl (beq_iff_eq.2 c4) rfl) rfl ?_
     refine aA rfl rfl ?_
     refine TL.nil ?_
     obtain rfl := osi ht3
     exact ⟨_, Gst.only [0, 3, 4, 5, 6] rfl, rfl⟩
   refine TL.on rfl rfl rfl rfl (beq_eq_false_iff_ne.2 c4) ?_
   refine aA rfl rfl ?_
   refine TL.on rfl rfl rfl rfl (beq_eq_false_iff_ne.2 c4) ?_
   refine aA rfl rfl ?_
   refine TL.on rfl rfl rfl rfl (beq_eq_false_iff_ne.2 c4) ?_
   refine aA rfl rfl ?_
   refine TL.on rfl rfl rfl rfl (beq_eq_false_iff_ne.2 c4) ?_
   obtain ⟨x5, hx5, ht3⟩ := bS ht3
   refine TL.op1 (OpR.call0 fn184 (ref17_Every_c hx5) rfl) rfl ?_
   refine TL.on rfl rfl rfl rfl (beq_eq_false_iff_ne.2 c4) ?_
   refine TL.op1 (OpR.cast (OpR.pure rfl) (intE (lenM _ _))) rfl ?_
   refine TL.on rfl rfl rfl rfl (beq_eq_false_iff_ne.2 c4) ?_
   refine aA rfl rfl ?_
   refine TL.op1 (OpR.pickF rfl (beq_eq_false_iff_ne.2 c4) rfl) rfl ?_
   refine aA rfl rfl ?_
   refine TL.nil ?_
   obtain rfl := osi ht3
   exact ⟨_, Gst.only [0, 3, 4, 5, 6] rfl, rfl⟩
 refine T.condF rfl (beq_eq_false_iff_ne.2 c2) ?_
 refine aK rfl ?_
 refine T.seq ?_
 refine aS ?_
 iterate 3 refine aA rfl rfl ?_
 refine aN rfl ?_
 rcases ite_some h0 with ⟨c6, h0⟩ | ⟨c6, h0⟩
 · refine T.condT rfl (beq_iff_eq.2 c6) ?_
   refine aS ?_
   iterate 3 refine aA rfl rfl ?_
   refine TL.op1 (OpR.cast (OpR.pure rfl) (boolE (strEq _ _))) rfl ?_
   refine aA rfl rfl ?_
   refine aN rfl ?_
   refine T.ret ?_
   obtain rfl := osi h0
   exact rO [] [4] rfl undef (cT rfl ResL.nil) rfl rfl rfl rfl
 refine T.condF rfl (beq_eq_false_iff_ne.2 c6) ?_
 refine aK rfl ?_
 refine T.seq ?_
 refine aS ?_
 iterate 3 refine aA rfl rfl ?_
 refine aN rfl ?_
 rcases ite_some h0 with ⟨c7, h0⟩ | ⟨c7, h0⟩
 · refine T.condT rfl (beq_iff_eq.2 c7) ?_
   refine aS ?_
   iterate 3 refine aA rfl rfl ?_
   obtain ⟨x8, hx8, h0⟩ := bS h0
   refine TL.op1 (OpR.call0 fn109 (ref02_Compare_c hx8) rfl) rfl ?_
   iterate 2 refine aA rfl rfl ?_
   refine aN rfl ?_
   refine T.ret ?_
   obtain rfl := osi h0
   exact rO [] [4] rfl undef (cT rfl ResL.nil) rfl rfl rfl rfl
 refine T.condF rfl (beq_eq_false_iff_ne.2 c7) ?_
 refine aK rfl ?_
 refine T.seq ?_
 refine aS ?_
 iterate 3 refine aA rfl rfl ?_
 refine aN rfl ?_
 rcases ite_some h0 with ⟨c9, h0⟩ | ⟨c9, h0⟩
 · refine T.condT rfl (beq_iff_eq.2 c9) ?_
   refine aS ?_
   iterate 3 refine aA rfl rfl ?_
   obtain ⟨x10, hx10, h0⟩ := bS h0
   refine TL.op1 (OpR.call0 fn109 (ref02_Compare_c hx10) rfl) rfl ?_
   iterate 2 refine aA rfl rfl ?_
   refine aN rfl ?_
   refine T.ret ?_
   obtain rfl := osi h0
   exact rO [] [4] rfl undef (cT rfl ResL.nil) rfl rfl rfl rfl
 refine T.condF rfl (beq_eq_false_iff_ne.2 c9) ?_
 refine aK rfl ?_
 refine T.seq ?_
 refine aS ?_
 iterate 3 refine aA rfl rfl ?_
 refine aN rfl ?_
 rcases ite_some h0 with ⟨c11, h0⟩ | ⟨c11, h0⟩
 · refine T.condT rfl (beq_iff_eq.2 c11) ?_
   refine T.seq ?_
   obtain ⟨t12, ht12, h0⟩ := bS h0
   refine T.cutC (fun S' => S' = ⟨[(6, (dN (a1.fArg.length : Int))), (5, (dN (a0.length : Int))), (4, (dT t12)), (3, .nod [dN a1.fCol, dN a1.fOp, .val (.string (bs a1.fArg)), dT a1.fNot]), (0, .val (.string (bs a0)))], [], 81⟩) (fun _ h => h) ?_ ?_
   rotate_left
   · rintro _ rfl
     show T X _ _ _
     refine T.ret ?_
     obtain rfl := osi h0
     exact rO [] [4] rfl undef (cT rfl ResL.nil) rfl rfl rfl rfl
   rcases ite_some ht12 with ⟨c14, ht12⟩ | ⟨c14, ht12⟩
   rotate_left
   · refine T.drawQ drawsX [dN (a0.length : Int), dN (a1.fArg.length : Int), dT (decide ((a0.length : Int) ≥ (a1.fArg.length : Int))), dT (decide ((a0.length : Int) ≥ (a1.fArg.length : Int))), .tup [], .tup [], .tup [], .tup [], .tup [], .tup [], dT false, dT false] [0, 3, 4, 5, 6] (by decide +kernel) rfl ?_ rfl ?_
     rotate_left
     · obtain rfl := osi ht12
       exact ⟨_, Gst.only [0, 3, 4, 5, 6] rfl, rfl⟩
     iterate 4 refine aB rfl rfl rfl ?_
     refine OpsQ.no (Want.bool rfl rfl rfl rfl (by rw [(eF c14)]; rfl)) rfl ?_
     refine OpsQ.no (Want.bool rfl rfl rfl rfl (by rw [(eF c14)]; rfl)) rfl ?_
     refine OpsQ.no (Want.bool rfl rfl rfl rfl (by rw [(eF c14)]; rfl)) rfl ?_
     refine OpsQ.no (Want.bool rfl rfl rfl rfl (by rw [(eF c14)]; rfl)) rfl ?_
     refine OpsQ.no (Want.bool rfl rfl rfl rfl (by rw [(eF c14)]; rfl)) rfl ?_
     refine OpsQ.no (Want.bool rfl rfl rfl rfl (by rw [(eF c14)]; rfl)) rfl ?_
     refine OpsQ.yes (Want.plain rfl) rfl (OpR.pickF rfl (eF c14) rfl) ?_
     refine aB rfl rfl rfl ?_
     exact OpsQ.nil
   obtain ⟨x15, hx15, ht12⟩ := bS ht12
   refine T.drawQ drawsX [dN (a0.length : Int), dN (a1.fArg.length : Int), dT (decide ((a0.length : Int) ≥ (a1.fArg.length : Int))), dT (decide ((a0.length : Int) ≥ (a1.fArg.length : Int))), .val (.string (bs a0)), dN (a1.fArg.length : Int), .val (.string (bs x15)), .nod [.val (.string (bs a1.fArg)), dT a1.fNot], .val (.string (bs a1.fArg)), dT (x15 == a1.fArg), dT (x15 == a1.fArg), dT (x15 == a1.fArg)] [0, 3, 4, 5, 6] (by decide +kernel) rfl ?_ rfl ?_
   rotate_left
   · obtain rfl := osi ht12
     exact ⟨_, Gst.only [0, 3, 4, 5, 6] rfl, rfl⟩
   iterate 4 refine aB rfl rfl rfl ?_
   refine OpsQ.yes (Want.bool rfl rfl rfl rfl (by rw [(eT c14)]; rfl)) rfl (OpR.pure rfl) ?_
   refine OpsQ.yes (Want.bool rfl rfl rfl rfl (by rw [(eT c14)]; rfl)) rfl (OpR.pure rfl) ?_
   refine OpsQ.yes (Want.bool rfl rfl rfl rfl (by rw [(eT c14)]; rfl)) rfl (OpR.sliceS hx15 rfl rfl rfl BdM.none (BdM.some rfl)) ?_
   refine OpsQ.yes (Want.bool rfl rfl rfl rfl (by rw [(eT c14)]; rfl)) rfl (OpR.pure rfl) ?_
   refine OpsQ.yes (Want.bool rfl rfl rfl rfl (by rw [(eT c14)]; rfl)) rfl (OpR.pure rfl) ?_
   refine OpsQ.yes (Want.bool rfl rfl rfl rfl (by rw [(eT c14)]; rfl)) rfl (OpR.cast (OpR.pure rfl) (boolE (strEq _ _))) ?_
   refine OpsQ.yes (Want.plain rfl) rfl (OpR.pickT rfl (eT c14) rfl) ?_
   refine aB rfl rfl rfl ?_
   exact OpsQ.nil
 refine T.condF rfl (beq_eq_false_iff_ne.2 c11) ?_
 refine aK rfl ?_
 refine T.seq ?_
 refine aS ?_
 iterate 3 refine aA rfl rfl ?_
 refine aN rfl ?_
 rcases ite_some h0 with ⟨c16, h0⟩ | ⟨c16, h0⟩
 rotate_left
 · refine T.condF rfl (beq_eq_false_iff_ne.2 c16) ?_
   refine aK rfl ?_
   refine aS ?_
   refine aA rfl rfl ?_
   refine TL.op1 (OpR.cast (OpR.pure rfl) (boolE (strEq _ _))) rfl ?_
   refine aA rfl rfl ?_
   refine aN rfl ?_
   refine T.ret ?_
   obtain rfl := osi h0
   exact rO [] [4] rfl undef (cT rfl ResL.nil) rfl rfl rfl rfl
 refine T.condT rfl (beq_iff_eq.2 c16) ?_
 refine T.seq ?_
 obtain ⟨t17, ht17, h0⟩ := bS h0
 refine T.cutC (fun S' => S' = ⟨[(4, (dT t17)), (0, .val (.string (bs a0)))], [], 81⟩) (fun _ h => h) ?_ ?_
 rotate_left
 · rintro _ rfl
   show T X _ _ _
   refine T.ret ?_
   obtain rfl := osi h0
   exact rO [] [4] rfl undef (cT rfl ResL.nil) rfl rfl rfl rfl
 rcases ite_some ht17 with ⟨c19, ht17⟩ | ⟨c19, ht17⟩
 rotate_left
 · refine T.drawQ drawsX [dN (a0.length : Int), dN (a1.fArg.length : Int), dT (decide ((a0.length : Int) ≥ (a1.fArg.length : Int))), dT (decide ((a0.length : Int) ≥ (a1.fArg.length : Int))), .tup [], .tup [], .tup [], .tup [], .tup [], .tup [], .tup [], .tup [], dT false, dT false] [0, 4] (by decide +kernel) rfl ?_ rfl ?_
   rotate_left
   · obtain rfl := osi ht17
     exact ⟨_, Gst.only [0, 4] rfl, rfl⟩
   iterate 4 refine aB rfl rfl rfl ?_
   refine OpsQ.no (Want.bool rfl rfl rfl rfl (by rw [(eF c19)]; rfl)) rfl ?_
   refine OpsQ.no (Want.bool rfl rfl rfl rfl (by rw [(eF c19)]; rfl)) rfl ?_
   refine OpsQ.no (Want.bool rfl rfl rfl rfl (by rw [(eF c19)]; rfl)) rfl ?_
   refine OpsQ.no (Want.bool rfl rfl rfl rfl (by rw [(eF c19)]; rfl)) rfl ?_
   refine OpsQ.no (Want.bool rfl rfl rfl rfl (by rw [(eF c19)]; rfl)) rfl ?_
   refine OpsQ.no (Want.bool rfl rfl rfl rfl (by rw [(eF c19)]; rfl)) rfl ?_
   refine OpsQ.no (Want.bool rfl rfl rfl rfl (by rw [(eF c19)]; rfl)) rfl ?_
   refine OpsQ.no (Want.bool rfl rfl rfl rfl (by rw [(eF c19)]; rfl)) rfl ?_
   refine OpsQ.yes (Want.plain rfl) rfl (OpR.pickF rfl (eF c19) rfl) ?_
   refine aB rfl rfl rfl ?_
   exact OpsQ.nil
 obtain ⟨x20, hx20, ht17⟩ := bS ht17
 refine T.drawQ drawsX [dN (a0.length : Int), dN (a1.fArg.length : Int), dT (decide ((a0.length : Int) ≥ (a1.fArg.length : Int))), dT (decide ((a0.length : Int) ≥ (a1.fArg.length : Int))), .val (.string (bs a0)), dN (a0.length : Int), dN (a1.fArg.length : Int), dN (w64 ((a0.length : Int) - (a1.fArg.length : Int))), .val (.string (bs x20)), .nod [.val (.string (bs a1.fArg)), dT a1.fNot], .val (.string (bs a1.fArg)), dT (x20 == a1.fArg), dT (x20 == a1.fArg), dT (x20 == a1.fArg)] [0, 4] (by decide +kernel) rfl ?_ rfl ?_
 rotate_left
 · obtain rfl := osi ht17
   exact ⟨_, Gst.only [0, 4] rfl, rfl⟩
 iterate 4 refine aB rfl rfl rfl ?_
 refine OpsQ.yes (Want.bool rfl rfl rfl rfl (by rw [(eT c19)]; rfl)) rfl (OpR.pure rfl) ?_
 refine OpsQ.yes (Want.bool rfl rfl rfl rfl (by rw [(eT c19)]; rfl)) rfl (OpR.pure rfl) ?_
 refine OpsQ.yes (Want.bool rfl rfl rfl rfl (by rw [(eT c19)]; rfl)) rfl (OpR.pure rfl) ?_
 refine OpsQ.yes (Want.bool rfl rfl rfl rfl (by rw [(eT c19)]; rfl)) rfl (OpR.pure rfl) ?_
 refine OpsQ.yes (Want.bool rfl rfl rfl rfl (by rw [(eT c19)]; rfl)) rfl (OpR.sliceS hx20 rfl rfl rfl (BdM.some rfl) BdM.none) ?_
 refine OpsQ.yes (Want.bool rfl rfl rfl rfl (by rw [(eT c19)]; rfl)) rfl (OpR.pure rfl) ?_
 refine OpsQ.yes (Want.bool rfl rfl rfl rfl (by rw [(eT c19)]; rfl)) rfl (OpR.pure rfl) ?_
 refine OpsQ.yes (Want.bool rfl rfl rfl rfl (by rw [(eT c19)]; rfl)) rfl (OpR.cast (OpR.pure rfl) (boolE (strEq _ _))) ?_
 refine OpsQ.yes (Want.plain rfl) rfl (OpR.pickT rfl (eT c19) rfl) ?_
 refine aB rfl rfl rfl ?_
 exact OpsQ.nil
noncomputable def ref18_Holds (a0 : ref08_Row) (a1 : ref18_Test) : Option Bool :=
  bnd (if a1.fCol ≥ 0 then
    some (decide (a1.fCol < (a0.fCells.length : Int)))
  else
    some false : Option Bool) fun t2 =>
  bnd (if t2 = true then
    bnd (idx a0.fCells a1.fCol) fun x6 =>
    some (x6.fS, x6.fRaw, x6.fKept)
  else
    some ([], [], false) : Option ((List UInt8) × (List UInt8) × Bool)) fun t4 =>
  if a1.fNot = true then
    bnd (ref18_plain t4.1 a1) fun x8 =>
    some (!x8)
  else
    bnd (ref18_plain t4.1 a1) fun x9 =>
    some x9
theorem ref18_Holds_c {a0 : ref08_Row} {a1 : ref18_Test} {res : Bool} (h0 : ref18_Holds a0 a1 = some res) : CallF X 45 [.agg [.sl 3 (List.map e_ref07_Cell a0.fCells), dN a0.fEnd, dT a0.fHidden], .agg [dN a1.fCol, dN a1.fOp, .val (.string (bs a1.fArg)), dT a1.fNot]] [] (fun x => (dT res)) (fun x => []) := by
 unfold ref18_Holds at h0
 refine CallF.mkG (X := X) rfl Tryz.func45 rfl rfl Tryz.ntmps45 rfl rfl ?_
 refine aS ?_
 refine TL.op1 (OpR.boxImm rfl rfl) rfl ?_
 refine TL.op1 (OpR.boxImm rfl rfl) rfl ?_
 refine aA rfl rfl ?_
 refine aN rfl ?_
 refine aS ?_
 refine TL.op1 (OpR.build rfl rfl rfl rfl rfl) rfl ?_
 refine TL.op (OpR.alloc rfl rfl (fun _ => rfl)) rfl (fun p1 => ?_)
 refine TL.op0 (OpR.store 0 rfl rfl rfl rfl rfl rfl rfl rfl) ?_
 refine aN rfl ?_
 refine T.seq ?_
 refine T.seq ?_
 obtain ⟨t2, ht2, h0⟩ := bS h0
 refine T.cutC (fun S' => S' = ⟨[(17, (dT t2)), (5, (dP (blk p1))), (4, (dT false)), (3, .nod [dN a1.fCol, dN a1.fOp, .val (.string (bs a1.fArg)), dT a1.fNot]), (2, .nod [.sl 3 (List.map e_ref07_Cell a0.fCells), dN a0.fEnd, dT a0.fHidden])], [.var (blk p1) [.val (.string (bs [])), .val (.string (bs [])), dT false] 151], 35⟩) (fun _ h => h) ?_ ?_
 · refine T.region ?_
   iterate 4 refine aA rfl rfl ?_
   rcases ite_some ht2 with ⟨c3, ht2⟩ | ⟨c3, ht2⟩
   rotate_left
   · refine TL.off rfl rfl rfl rfl (eF c3) rfl rfl ?_
     refine TL.off rfl rfl rfl rfl (eF c3) rfl rfl ?_
     refine TL.off rfl rfl rfl rfl (eF c3) rfl rfl ?_
     refine TL.off rfl rfl rfl rfl (eF c3) rfl rfl ?_
     refine TL.off rfl rfl rfl rfl (eF c3) rfl rfl ?_
     refine TL.off rfl rfl rfl rfl (eF c3) rfl rfl ?_
     refine TL.op1 (OpR.pickF rfl (eF c3) rfl) rfl ?_
     refine TL.nil ?_
     obtain rfl := osi ht2
     exact ⟨_, Gst.only [2, 3, 4, 5, 17] rfl, rfl⟩
   refine TL.on rfl rfl rfl rfl (eT c3) ?_
   refine aA rfl rfl ?_
   refine TL.on rfl rfl rfl rfl (eT c3) ?_
   refine aA rfl rfl ?_
   refine TL.on rfl rfl rfl rfl (eT c3) ?_
   refine aA rfl rfl ?_
   refine TL.on rfl rfl rfl rfl (eT c3) ?_
   refine aA rfl rfl ?_
   refine TL.on rfl rfl rfl rfl (eT c3) ?_
   refine TL.op1 (OpR.cast (OpR.pure rfl) (intE (lenM _ _))) rfl ?_
   refine TL.on rfl rfl rfl rfl (eT c3) ?_
   refine aA rfl rfl ?_
   refine TL.op1 (OpR.pickT rfl (eT c3) rfl) rfl ?_
   refine TL.nil ?_
   obtain rfl := osi ht2
   exact ⟨_, Gst.only [2, 3, 4, 5, 17] rfl, rfl⟩
 rintro _ rfl
 show T X _ _ _
 obtain ⟨t4, ht4, h0⟩ := bS h0
 refine T.cutC (fun S' => S' = ⟨[(5, (dP (blk p1))), (4, (dT false)), (3, .nod [dN a1.fCol, dN a1.fOp, .val (.string (bs a1.fArg)), dT a1.fNot])], [.var (blk p1) [.val (.string (bs t4.1)), .val (.string (bs t4.2.1)), dT t4.2.2] 151], 35⟩) (fun _ h => h) ?_ ?_
 · rcases ite_some ht4 with ⟨c5, ht4⟩ | ⟨c5, ht4⟩
   rotate_left
   · refine T.condF rfl (eq_false_of_ne_true c5) ?_
     refine T.skip ?_
     obtain rfl := osi ht4
     exact ⟨_, Gst.only [3, 4, 5] rfl, rfl⟩
   refine T.condT rfl (c5) ?_
   refine T.region ?_
   iterate 4 refine aA rfl rfl ?_
   obtain ⟨x6, hx6, ht4⟩ := bS ht4
   refine TL.op1 (OpR.indexM e_ref07_Cell hx6 rfl rfl rfl rfl rfl) rfl ?_
   refine aA rfl rfl ?_
   refine TL.op0 (OpR.store 0 rfl rfl rfl rfl rfl rfl rfl rfl) ?_
   refine TL.nil ?_
   obtain rfl := osi ht4
   exact ⟨_, Gst.only [3, 4, 5] rfl, rfl⟩
 rintro _ rfl
 show T X _ _ _
 refine T.seq ?_
 refine aS ?_
 iterate 2 refine aA rfl rfl ?_
 refine aN rfl ?_
 rcases ite_some h0 with ⟨c7, h0⟩ | ⟨c7, h0⟩
 · refine T.condT rfl (c7) ?_
   refine aS ?_
   refine aA rfl rfl ?_
   refine TL.op1 (OpR.loadPtr 0 rfl rfl rfl rfl) rfl ?_
   refine aA rfl rfl ?_
   obtain ⟨x8, hx8, h0⟩ := bS h0
   refine TL.op1 (OpR.call0 fn114 (ref18_plain_c hx8) rfl) rfl ?_
   iterate 2 refine aA rfl rfl ?_
   refine aN rfl ?_
   refine T.ret ?_
   obtain rfl := osi h0
   exact rP [] [4] [] rfl rfl rfl undef (cT rfl ResL.nil) rfl rfl rfl rfl
 refine T.condF rfl (eq_false_of_ne_true c7) ?_
 refine aK rfl ?_
 refine aS ?_
 refine aA rfl rfl ?_
 refine TL.op1 (OpR.loadPtr 0 rfl rfl rfl rfl) rfl ?_
 refine aA rfl rfl ?_
 obtain ⟨x9, hx9, h0⟩ := bS h0
 refine TL.op1 (OpR.call0 fn114 (ref18_plain_c hx9) rfl) rfl ?_
 refine aA rfl rfl ?_
 refine aN rfl ?_
 refine T.ret ?_
 obtain rfl := osi h0
 exact rP [] [4] [] rfl rfl rfl undef (cT rfl ResL.nil) rfl rfl rfl rfl
noncomputable def law18_FilterHolds.l1 (a1 : ref18_Test) (x3 : grid_Grid × ref11_Grid × Bool × (List UInt8)) (x7 : (List UInt8)) (x13 : filter_Test) (s17 : Int) : Option (Lp Int (Ex Unit Bool)) :=
  if s17 < (x3.2.1.fRows.length : Int) then
    bnd (grid_Grid_Row x3.1 s17) fun x26 =>
    bnd (if x26.2 = true then
      bnd (law18_mine (⟨a1.fCol, a1.fOp, x7, a1.fNot⟩ : ref18_Test)) fun x31 =>
      bnd (filter_Holds x26.1 x31 x3.2.2.2) fun x32 =>
      bnd (idx x3.2.1.fRows s17) fun x33 =>
      bnd (ref18_Holds x33 (⟨a1.fCol, a1.fOp, x7, a1.fNot⟩ : ref18_Test)) fun x34 =>
      if (x32 == x34) = true then
        bnd (law18_mine (⟨a1.fCol, a1.fOp, x7, a1.fNot⟩ : ref18_Test)) fun x36 =>
        bnd (filter_Holds x26.1 x36 x3.2.2.2) fun x37 =>
        bnd (filter_Holds x26.1 (⟨x13.fCol, x13.fOp, x13.fArg, (!a1.fNot)⟩ : filter_Test) x3.2.2.2) fun x38 =>
        some (x37 == x38)
      else
        some true
    else
      some true : Option Bool) fun t28 =>
    if t28 = true then
      some (Lp.done (Ex.ret false))
    else
      some (Lp.next (w64 (s17 + 1)))
  else
    some (Lp.done (Ex.brk ()))
noncomputable def law18_FilterHolds (a0 : List UInt8) (a1 : ref18_Test) : Option Bool :=
  bnd (law11_Cut a0 1500) fun x2 =>
  bnd (law11_Begun x2) fun x3 =>
  match x3 with
  | .inl x3 =>
      bnd (law11_Cut a1.fArg 110) fun x7 =>
      bnd (if x3.2.2.1 = true then
        bnd (ref18_Right (⟨a1.fCol, a1.fOp, x7, a1.fNot⟩ : ref18_Test)) fun x10 =>
        some (!x10)
      else
        some true : Option Bool) fun t8 =>
      if t8 = true then
        bnd (law18_awake) fun x12 =>
        some x12
      else
        bnd (law18_mine (⟨a1.fCol, a1.fOp, x7, a1.fNot⟩ : ref18_Test)) fun x13 =>
        bnd (loop (law18_FilterHolds.l1 a1 x3 x7 x13) 0 : Option (Ex Unit Bool)) fun t15 => match t15 with
          | .brk u16 =>
            bnd (law18_awake) fun x40 =>
            some x40
          | .ret u16 => some u16
  | .inr x3 =>
      bnd (law11_Cut a1.fArg 110) fun x43 =>
      some false
theorem law18_FilterHolds_c {a0 : List UInt8} {a1 : ref18_Test} {res : Bool} (h0 : law18_FilterHolds a0 a1 = some res) : CallF X 8 [.val (.string (bs a0)), .agg [dN a1.fCol, dN a1.fOp, .val (.string (bs a1.fArg)), dT a1.fNot]] [] (fun x => (dT res)) (fun x => []) := by
 unfold law18_FilterHolds at h0
 refine CallF.mkG (X := X) rfl Tryz.func8 rfl rfl Tryz.ntmps8 rfl rfl ?_
 refine aS ?_
 refine TL.op (OpR.boxVar rfl rfl (fun _ => rfl)) rfl (fun p1 => ?_)
 refine aA rfl rfl ?_
 refine aN rfl ?_
 refine aS ?_
 refine aA rfl rfl ?_
 obtain ⟨x2, hx2, h0⟩ := bS h0
 refine TL.op1 (OpR.call0 fn15 (law11_Cut_c hx2) rfl) rfl ?_
 obtain ⟨x3, hx3, h0⟩ := bS h0
 rcases x3 with x3 | x3
 rotate_left
 · dsimp only at h0
   refine TL.op1 (OpR.call0 fn14 (law11_Begun_cx2 hx3) rfl) rfl ?_
   iterate 5 refine aA rfl rfl ?_
   refine TL.op (OpR.alloc rfl rfl (fun _ => rfl)) rfl (fun p41 => ?_)
   refine TL.op (OpR.alloc rfl rfl (fun _ => rfl)) rfl (fun p42 => ?_)
   refine TL.op0 (OpR.store 1 rfl rfl rfl rfl rfl rfl rfl rfl) ?_
   refine aA rfl rfl ?_
   refine TL.op0 (OpR.store 2 rfl rfl rfl rfl rfl rfl rfl rfl) ?_
   refine aA rfl rfl ?_
   refine aN rfl ?_
   refine aS ?_
   refine aA rfl rfl ?_
   refine TL.op1 (OpR.loadPtr 0 rfl rfl rfl rfl) rfl ?_
   obtain ⟨x43, hx43, h0⟩ := bS h0
   refine TL.op1 (OpR.call0 fn15 (law11_Cut_c hx43) rfl) rfl ?_
   refine aA rfl rfl ?_
   refine TL.op0 (OpR.store 0 rfl rfl rfl rfl rfl rfl rfl rfl) ?_
   refine aN rfl ?_
   refine T.seq ?_
   refine aS ?_
   iterate 3 refine aA rfl rfl ?_
   refine TL.off rfl rfl rfl rfl rfl rfl rfl ?_
   refine TL.off rfl rfl rfl rfl rfl rfl rfl ?_
   refine TL.off rfl rfl rfl rfl rfl rfl rfl ?_
   refine TL.op1 (OpR.pickT rfl rfl rfl) rfl ?_
   refine aN rfl ?_
   refine T.condT rfl rfl ?_
   refine aS ?_
   refine aA rfl rfl ?_
   refine TL.op1 (OpR.ptrNe (A := none) rfl rfl rfl) rfl ?_
   refine aA rfl rfl ?_
   refine TL.off rfl rfl rfl rfl rfl rfl rfl ?_
   refine TL.op1 (OpR.pickF rfl rfl rfl) rfl ?_
   refine aA rfl rfl ?_
   refine aN rfl ?_
   refine T.ret ?_
   obtain rfl := osi h0
   exact rP [] [4] [] rfl rfl rfl undef (cT rfl ResL.nil) rfl rfl rfl rfl
 dsimp only at h0
 refine TL.op (OpR.call [] fn14 (law11_Begun_cx1 hx3) rfl rfl rfl (fun _ => rfl)) rfl (fun w4 => ?_)
 iterate 5 refine aA rfl rfl ?_
 refine TL.op (OpR.alloc rfl rfl (fun _ => rfl)) rfl (fun p5 => ?_)
 refine TL.op (OpR.alloc rfl rfl (fun _ => rfl)) rfl (fun p6 => ?_)
 refine TL.op0 (OpR.store 3 rfl rfl rfl rfl rfl rfl rfl rfl) ?_
 refine aA rfl rfl ?_
 refine TL.op0 (OpR.store 4 rfl rfl rfl rfl rfl rfl rfl rfl) ?_
 refine aA rfl rfl ?_
 refine aN rfl ?_
 refine aS ?_
 refine aA rfl rfl ?_
 refine TL.op1 (OpR.loadPtr 0 rfl rfl rfl rfl) rfl ?_
 obtain ⟨x7, hx7, h0⟩ := bS h0
 refine TL.op1 (OpR.call0 fn15 (law11_Cut_c hx7) rfl) rfl ?_
 refine aA rfl rfl ?_
 refine TL.op0 (OpR.store 0 rfl rfl rfl rfl rfl rfl rfl rfl) ?_
 refine aN rfl ?_
 refine T.seq ?_
 refine T.seq ?_
 obtain ⟨t8, ht8, h0⟩ := bS h0
 refine T.cutC (fun S' => S' = ⟨[(31, (dT t8)), (7, (dP (blk p6))), (6, (dP (blk (vn w4 0)))), (5, (dP (blk p5))), (4, (dT false)), (3, (dP (blk p1)))], [.var (blk p1) [dN a1.fCol, dN a1.fOp, .val (.string (bs x7)), dT a1.fNot] 64, .var (blk p5) [(eOP x3.1.fRows.fRoot), dT x3.1.fTail, dN x3.1.fEnd] 27, .var (blk (vn w4 0)) [.val (vn w4 1)] 264, .var (blk p6) [.sl 3 (List.map e_ref08_Row x3.2.1.fRows), dT x3.2.1.fTail, dN x3.2.1.fEnd] 31, .row (vn w4 1) (lB x3.2.2.2) 1 5], 86⟩) (fun _ h => h) ?_ ?_
 · refine T.region ?_
   iterate 3 refine aA rfl rfl ?_
   rcases ite_some ht8 with ⟨c9, ht8⟩ | ⟨c9, ht8⟩
   rotate_left
   · refine TL.off rfl rfl rfl rfl (not_f (eq_false_of_ne_true c9)) rfl rfl ?_
     refine TL.off rfl rfl rfl rfl (not_f (eq_false_of_ne_true c9)) rfl rfl ?_
     refine TL.off rfl rfl rfl rfl (not_f (eq_false_of_ne_true c9)) rfl rfl ?_
     refine TL.op1 (OpR.pickT rfl (not_f (eq_false_of_ne_true c9)) rfl) rfl ?_
     refine TL.nil ?_
     obtain rfl := osi ht8
     exact ⟨_, gP [3, 4, 5, 6, 7, 31] [0, 3, 1, 4, 2] rfl rfl rfl, rfl⟩
   refine TL.on rfl rfl rfl rfl (not_t (c9)) ?_
   refine TL.op1 (OpR.loadPtr 0 rfl rfl rfl rfl) rfl ?_
   refine TL.on rfl rfl rfl rfl (not_t (c9)) ?_
   obtain ⟨x10, hx10, ht8⟩ := bS ht8
   refine TL.op1 (OpR.call0 fn35 (ref18_Right_c hx10) rfl) rfl ?_
   refine TL.on rfl rfl rfl rfl (not_t (c9)) ?_
   refine aA rfl rfl ?_
   refine TL.op1 (OpR.pickF rfl (not_t (c9)) rfl) rfl ?_
   refine TL.nil ?_
   obtain rfl := osi ht8
   exact ⟨_, gP [3, 4, 5, 6, 7, 31] [0, 3, 1, 4, 2] rfl rfl rfl, rfl⟩
 rintro _ rfl
 show T X _ _ _
 rcases ite_some h0 with ⟨c11, h0⟩ | ⟨c11, h0⟩
 · refine T.condT rfl (c11) ?_
   refine aS ?_
   refine aA rfl rfl ?_
   refine TL.op1 (OpR.ptrNe (A := some ⟨(blk (vn w4 0)), 0, none⟩) rfl rfl rfl) rfl ?_
   refine aA rfl rfl ?_
   refine TL.on rfl rfl rfl rfl rfl ?_
   obtain ⟨x12, hx12, h0⟩ := bS h0
   refine TL.op1 (OpR.call0 fn38 (law18_awake_c hx12) rfl) rfl ?_
   refine TL.op1 (OpR.pickT rfl rfl rfl) rfl ?_
   refine aA rfl rfl ?_
   refine aN rfl ?_
   refine T.ret ?_
   obtain rfl := osi h0
   exact rP [] [4] [] rfl rfl rfl undef (cT rfl ResL.nil) rfl rfl rfl rfl
 refine T.condF rfl (eq_false_of_ne_true c11) ?_
 refine aK rfl ?_
 refine aS ?_
 refine TL.op1 (OpR.loadPtr 0 rfl rfl rfl rfl) rfl ?_
 obtain ⟨x13, hx13, h0⟩ := bS h0
 refine TL.op1 (OpR.call0 fn34 (law18_mine_c hx13) rfl) rfl ?_
 refine TL.op (OpR.alloc rfl rfl (fun _ => rfl)) rfl (fun p14 => ?_)
 refine TL.op0 (OpR.store 5 rfl rfl rfl rfl rfl rfl rfl rfl) ?_
 refine aN rfl ?_
 refine aS ?_
 refine aA rfl rfl ?_
 refine TL.op1 (OpR.loadPtr 0 rfl rfl rfl rfl) rfl ?_
 iterate 2 refine aA rfl rfl ?_
 refine TL.op0 (OpR.store 5 rfl rfl rfl rfl rfl rfl rfl rfl) ?_
 refine aN rfl ?_
 refine T.seq ?_
 refine aS ?_
 refine aA rfl rfl ?_
 refine TL.op1 (OpR.loadPtr 3 rfl rfl rfl rfl) rfl ?_
 refine TL.op1 (OpR.cast (OpR.pure rfl) (intE (lenM _ _))) rfl ?_
 refine aA rfl rfl ?_
 refine aN rfl ?_
 obtain ⟨t15, ht15, h0⟩ := bS h0
 refine T.cutC (fun S' => ∃ u16, t15 = Ex.brk u16 ∧ S' = ⟨[(4, (dT false))], [], 86⟩) (fun _ h => h) ?_ ?_
 rotate_left
 · rintro _ ⟨u16, rfl, rfl⟩
   show T X _ _ _
   refine aS ?_
   obtain ⟨x40, hx40, h0⟩ := bS h0
   refine TL.op1 (OpR.call0 fn38 (law18_awake_c hx40) rfl) rfl ?_
   refine aA rfl rfl ?_
   refine aN rfl ?_
   refine T.ret ?_
   obtain rfl := osi h0
   exact rO [] [4] rfl undef (cT rfl ResL.nil) rfl rfl rfl rfl
 refine T.block ?_
 obtain ⟨n18, n23⟩ := loop_some ht15
 refine T.loop (fun n S' => ∃ S'', Gst S' S'' ∧ ∃ s17 : Int, S'' = ⟨[(46, (dN s17)), (45, (dN (x3.2.1.fRows.length : Int))), (9, (dP (blk p14))), (7, (dP (blk p6))), (6, (dP (blk (vn w4 0)))), (5, (dP (blk p5))), (4, (dT false)), (3, (dP (blk p1)))], [.var (blk p1) [dN a1.fCol, dN a1.fOp, .val (.string (bs x7)), dT a1.fNot] 64, .var (blk p5) [(eOP x3.1.fRows.fRoot), dT x3.1.fTail, dN x3.1.fEnd] 27, .var (blk (vn w4 0)) [.val (vn w4 1)] 264, .var (blk p6) [.sl 3 (List.map e_ref08_Row x3.2.1.fRows), dT x3.2.1.fTail, dN x3.2.1.fEnd] 31, .var (blk p14) [dN x13.fCol, dN x13.fOp, .val (.string (bs x13.fArg)), dT (!a1.fNot)] 65, .row (vn w4 1) (lB x3.2.2.2) 1 5], 86⟩ ∧ iter (law18_FilterHolds.l1 a1 x3 x7 x13) n s17 = some t15) n18 ?_ ?_
 · exact ⟨_, gP [3, 4, 5, 6, 7, 9, 45, 46] [0, 1, 2, 3, 5, 4] rfl rfl rfl, 0, rfl, n23⟩
 rintro n18 _ ⟨_, g, s17, rfl, i22⟩
 refine T.ghost g ?_
 obtain ⟨m19, q20, rfl, q21, i22⟩ := iter_succ i22
 unfold law18_FilterHolds.l1 at q21
 refine aS ?_
 refine aA rfl rfl ?_
 refine aN rfl ?_
 refine T.seq ?_
 rcases ite_some q21 with ⟨c25, q21⟩ | ⟨c25, q21⟩
 rotate_left
 · refine T.condF rfl (eF c25) ?_
   refine T.exit ?_
   obtain rfl := osi q21
   obtain rfl : _ = _ := i22
   exact ⟨_, gP [4] [] rfl rfl rfl, _, rfl, rfl⟩
 refine T.condT rfl (eT c25) ?_
 refine aK rfl ?_
 refine T.seq ?_
 refine T.block ?_
 refine aS ?_
 iterate 2 refine aA rfl rfl ?_
 refine aN rfl ?_
 refine aS ?_
 refine TL.op1 (OpR.loadPtr 1 rfl rfl rfl rfl) rfl ?_
 refine aA rfl rfl ?_
 obtain ⟨x26, hx26, q21⟩ := bS q21
 refine TL.op1 (OpR.call0 fn24 (grid_Grid_Row_c hx26) rfl) rfl ?_
 iterate 3 refine aA rfl rfl ?_
 refine TL.op (OpR.alloc rfl rfl (fun _ => rfl)) rfl (fun p27 => ?_)
 refine TL.op0 (OpR.store 6 rfl rfl rfl rfl rfl rfl rfl rfl) ?_
 refine aA rfl rfl ?_
 refine aN rfl ?_
 refine T.seq ?_
 obtain ⟨t28, ht28, q21⟩ := bS q21
 refine T.cutC (fun S' => S' = ⟨[(83, (dT t28)), (46, (dN s17)), (45, (dN (x3.2.1.fRows.length : Int))), (9, (dP (blk p14))), (7, (dP (blk p6))), (6, (dP (blk (vn w4 0)))), (5, (dP (blk p5))), (4, (dT false)), (3, (dP (blk p1)))], [.var (blk p1) [dN a1.fCol, dN a1.fOp, .val (.string (bs x7)), dT a1.fNot] 64, .var (blk p5) [(eOP x3.1.fRows.fRoot), dT x3.1.fTail, dN x3.1.fEnd] 27, .var (blk (vn w4 0)) [.val (vn w4 1)] 264, .var (blk p6) [.sl 3 (List.map e_ref08_Row x3.2.1.fRows), dT x3.2.1.fTail, dN x3.2.1.fEnd] 31, .var (blk p14) [dN x13.fCol, dN x13.fOp, .val (.string (bs x13.fArg)), dT (!a1.fNot)] 65, .row (vn w4 1) (lB x3.2.2.2) 1 5], 86⟩) (fun _ h => h) ?_ ?_
 rotate_left
 · rintro _ rfl
   show T X _ _ _
   rcases ite_some q21 with ⟨c39, q21⟩ | ⟨c39, q21⟩
   rotate_left
   · refine T.condF rfl (eq_false_of_ne_true c39) ?_
     refine aK rfl ?_
     refine T.region ?_
     iterate 2 refine aA rfl rfl ?_
     refine TL.nil ?_
     obtain rfl := osi q21
     exact ⟨m19, Nat.lt_succ_self _, _, Gst.only [3, 4, 5, 6, 7, 9, 45, 46] rfl, w64 (s17 + 1), rfl, i22⟩
   refine T.condT rfl (c39) ?_
   refine aS ?_
   refine aA rfl rfl ?_
   refine aN rfl ?_
   refine T.ret ?_
   obtain rfl := osi q21
   obtain rfl : _ = _ := i22
   obtain rfl := osi h0
   exact rP [] [4] [] rfl rfl rfl undef (cT rfl ResL.nil) rfl rfl rfl rfl
 rcases ite_some ht28 with ⟨c30, ht28⟩ | ⟨c30, ht28⟩
 rotate_left
 · refine T.drawQ drawsX [dT x26.2, dT (!x26.2), dT (!x26.2), .tup [], .tup [], .tup [], .tup [], .tup [], .tup [], .tup [], .tup [], .tup [], .tup [], .tup [], .tup [], .tup [], dT true, dT true, .tup [], .tup [], .tup [], .tup [], .tup [], .tup [], .tup [], .tup [], .tup [], .tup [], dT true] [3, 4, 5, 6, 7, 9, 45, 46, 83] (by decide +kernel) rfl ?_ rfl ?_
   rotate_left
   · obtain rfl := osi ht28
     exact ⟨_, gP [3, 4, 5, 6, 7, 9, 45, 46, 83] [0, 1, 2, 3, 4, 5] rfl rfl rfl, rfl⟩
   iterate 3 refine aB rfl rfl rfl ?_
   refine OpsQ.no (Want.bool rfl rfl rfl rfl (by rw [(not_f (eq_false_of_ne_true c30))]; rfl)) rfl ?_
   refine OpsQ.no (Want.bool rfl rfl rfl rfl (by rw [(not_f (eq_false_of_ne_true c30))]; rfl)) rfl ?_
   refine OpsQ.no (Want.bool rfl rfl rfl rfl (by rw [(not_f (eq_false_of_ne_true c30))]; rfl)) rfl ?_
   refine OpsQ.no (Want.bool rfl rfl rfl rfl (by rw [(not_f (eq_false_of_ne_true c30))]; rfl)) rfl ?_
   refine OpsQ.no (Want.bool rfl rfl rfl rfl (by rw [(not_f (eq_false_of_ne_true c30))]; rfl)) rfl ?_
   refine OpsQ.no (Want.bool rfl rfl rfl rfl (by rw [(not_f (eq_false_of_ne_true c30))]; rfl)) rfl ?_
   refine OpsQ.no (Want.bool rfl rfl rfl rfl (by rw [(not_f (eq_false_of_ne_true c30))]; rfl)) rfl ?_
   refine OpsQ.no (Want.bool rfl rfl rfl rfl (by rw [(not_f (eq_false_of_ne_true c30))]; rfl)) rfl ?_
   refine OpsQ.no (Want.bool rfl rfl rfl rfl (by rw [(not_f (eq_false_of_ne_true c30))]; rfl)) rfl ?_
   refine OpsQ.no (Want.bool rfl rfl rfl rfl (by rw [(not_f (eq_false_of_ne_true c30))]; rfl)) rfl ?_
   refine OpsQ.no (Want.bool rfl rfl rfl rfl (by rw [(not_f (eq_false_of_ne_true c30))]; rfl)) rfl ?_
   refine OpsQ.no (Want.bool rfl rfl rfl rfl (by rw [(not_f (eq_false_of_ne_true c30))]; rfl)) rfl ?_
   refine OpsQ.no (Want.bool rfl rfl rfl rfl (by rw [(not_f (eq_false_of_ne_true c30))]; rfl)) rfl ?_
   refine OpsQ.yes (Want.plain rfl) rfl (OpR.pickT rfl (not_f (eq_false_of_ne_true c30)) rfl) ?_
   refine aB rfl rfl rfl ?_
   refine OpsQ.no (Want.bool rfl rfl rfl rfl rfl) rfl ?_
   refine OpsQ.no (Want.bool rfl rfl rfl rfl rfl) rfl ?_
   refine OpsQ.no (Want.bool rfl rfl rfl rfl rfl) rfl ?_
   refine OpsQ.no (Want.bool rfl rfl rfl rfl rfl) rfl ?_
   refine OpsQ.no (Want.bool rfl rfl rfl rfl rfl) rfl ?_
   refine OpsQ.no (Want.bool rfl rfl rfl rfl rfl) rfl ?_
   refine OpsQ.no (Want.bool rfl rfl rfl rfl rfl) rfl ?_
   refine OpsQ.no (Want.bool rfl rfl rfl rfl rfl) rfl ?_
   refine OpsQ.no (Want.bool rfl rfl rfl rfl rfl) rfl ?_
   refine OpsQ.no (Want.bool rfl rfl rfl rfl rfl) rfl ?_
   refine OpsQ.yes (Want.plain rfl) rfl (OpR.pickT rfl rfl rfl) ?_
   exact OpsQ.nil
 obtain ⟨x31, hx31, ht28⟩ := bS ht28
 obtain ⟨x32, hx32, ht28⟩ := bS ht28
 obtain ⟨x33, hx33, ht28⟩ := bS ht28
 obtain ⟨x34, hx34, ht28⟩ := bS ht28
 rcases ite_some ht28 with ⟨c35, ht28⟩ | ⟨c35, ht28⟩
 rotate_left
 · refine T.drawQ drawsX [dT x26.2, dT (!x26.2), dT (!x26.2), .agg [.sl 5 (List.map e_cell_Cell x26.1.fCells), dN x26.1.fEnd, dT x26.1.fHidden], dP (blk (vn w4 0)), .agg [dN a1.fCol, dN a1.fOp, .val (.string (bs x7)), dT a1.fNot], .agg [dN x31.fCol, dN x31.fOp, .val (.string (bs x31.fArg)), dT x31.fNot], dT x32, dP (blk p6), .sl 3 (List.map e_ref08_Row x3.2.1.fRows), dN s17, .nod [.sl 3 (List.map e_ref07_Cell x33.fCells), dN x33.fEnd, dT x33.fHidden], .agg [.sl 3 (List.map e_ref07_Cell x33.fCells), dN x33.fEnd, dT x33.fHidden], .agg [dN a1.fCol, dN a1.fOp, .val (.string (bs x7)), dT a1.fNot], dT x34, dT (!(x32 == x34)), dT (!(x32 == x34)), dT (!(x32 == x34)), .tup [], .tup [], .tup [], .tup [], .tup [], .tup [], .tup [], .tup [], .tup [], .tup [], dT true] [3, 4, 5, 6, 7, 9, 45, 46, 83] (by decide +kernel) rfl ?_ rfl ?_
   rotate_left
   · obtain rfl := osi ht28
     exact ⟨_, gP [3, 4, 5, 6, 7, 9, 45, 46, 83] [0, 1, 2, 3, 4, 5] rfl rfl rfl, rfl⟩
   iterate 3 refine aB rfl rfl rfl ?_
   refine OpsQ.yes (Want.bool rfl rfl rfl rfl (by rw [(not_t (c30))]; rfl)) rfl (OpR.loadPtr 6 rfl rfl rfl rfl) ?_
   refine OpsQ.yes (Want.bool rfl rfl rfl rfl (by rw [(not_t (c30))]; rfl)) rfl (OpR.pure rfl) ?_
   refine OpsQ.yes (Want.bool rfl rfl rfl rfl (by rw [(not_t (c30))]; rfl)) rfl (OpR.loadPtr 0 rfl rfl rfl rfl) ?_
   refine OpsQ.yes (Want.bool rfl rfl rfl rfl (by rw [(not_t (c30))]; rfl)) rfl (OpR.call0 fn34 (law18_mine_c hx31) rfl) ?_
   refine OpsQ.yes (Want.bool rfl rfl rfl rfl (by rw [(not_t (c30))]; rfl)) rfl (OpR.call [2, 5] fn44 (filter_Holds_c hx32) rfl rfl rfl (fun _ => rfl)) ?_
   refine OpsQ.yes (Want.bool rfl rfl rfl rfl (by rw [(not_t (c30))]; rfl)) rfl (OpR.pure rfl) ?_
   refine OpsQ.yes (Want.bool rfl rfl rfl rfl (by rw [(not_t (c30))]; rfl)) rfl (OpR.loadPtr 3 rfl rfl rfl rfl) ?_
   refine OpsQ.yes (Want.bool rfl rfl rfl rfl (by rw [(not_t (c30))]; rfl)) rfl (OpR.pure rfl) ?_
   refine OpsQ.yes (Want.bool rfl rfl rfl rfl (by rw [(not_t (c30))]; rfl)) rfl (OpR.indexM e_ref08_Row hx33 rfl rfl rfl rfl rfl) ?_
   refine OpsQ.yes (Want.bool rfl rfl rfl rfl (by rw [(not_t (c30))]; rfl)) rfl (OpR.pure rfl) ?_
   refine OpsQ.yes (Want.bool rfl rfl rfl rfl (by rw [(not_t (c30))]; rfl)) rfl (OpR.loadPtr 0 rfl rfl rfl rfl) ?_
   refine OpsQ.yes (Want.bool rfl rfl rfl rfl (by rw [(not_t (c30))]; rfl)) rfl (OpR.call0 fn45 (ref18_Holds_c hx34) rfl) ?_
   refine OpsQ.yes (Want.bool rfl rfl rfl rfl (by rw [(not_t (c30))]; rfl)) rfl (OpR.neBool rfl rfl rfl rfl) ?_
   refine OpsQ.yes (Want.plain rfl) rfl (OpR.pickF rfl (not_t (c30)) rfl) ?_
   refine aB rfl rfl rfl ?_
   refine OpsQ.no (Want.bool rfl rfl rfl rfl (by rw [(not_f (eq_false_of_ne_true c35))]; rfl)) rfl ?_
   refine OpsQ.no (Want.bool rfl rfl rfl rfl (by rw [(not_f (eq_false_of_ne_true c35))]; rfl)) rfl ?_
   refine OpsQ.no (Want.bool rfl rfl rfl rfl (by rw [(not_f (eq_false_of_ne_true c35))]; rfl)) rfl ?_
   refine OpsQ.no (Want.bool rfl rfl rfl rfl (by rw [(not_f (eq_false_of_ne_true c35))]; rfl)) rfl ?_
   refine OpsQ.no (Want.bool rfl rfl rfl rfl (by rw [(not_f (eq_false_of_ne_true c35))]; rfl)) rfl ?_
   refine OpsQ.no (Want.bool rfl rfl rfl rfl (by rw [(not_f (eq_false_of_ne_true c35))]; rfl)) rfl ?_
   refine OpsQ.no (Want.bool rfl rfl rfl rfl (by rw [(not_f (eq_false_of_ne_true c35))]; rfl)) rfl ?_
   refine OpsQ.no (Want.bool rfl rfl rfl rfl (by rw [(not_f (eq_false_of_ne_true c35))]; rfl)) rfl ?_
   refine OpsQ.no (Want.bool rfl rfl rfl rfl (by rw [(not_f (eq_false_of_ne_true c35))]; rfl)) rfl ?_
   refine OpsQ.no (Want.bool rfl rfl rfl rfl (by rw [(not_f (eq_false_of_ne_true c35))]; rfl)) rfl ?_
   refine OpsQ.yes (Want.plain rfl) rfl (OpR.pickT rfl (not_f (eq_false_of_ne_true c35)) rfl) ?_
   exact OpsQ.nil
 obtain ⟨x36, hx36, ht28⟩ := bS ht28
 obtain ⟨x37, hx37, ht28⟩ := bS ht28
 obtain ⟨x38, hx38, ht28⟩ := bS ht28
 refine T.drawQ drawsX [dT x26.2, dT (!x26.2), dT (!x26.2), .agg [.sl 5 (List.map e_cell_Cell x26.1.fCells), dN x26.1.fEnd, dT x26.1.fHidden], dP (blk (vn w4 0)), .agg [dN a1.fCol, dN a1.fOp, .val (.string (bs x7)), dT a1.fNot], .agg [dN x31.fCol, dN x31.fOp, .val (.string (bs x31.fArg)), dT x31.fNot], dT x32, dP (blk p6), .sl 3 (List.map e_ref08_Row x3.2.1.fRows), dN s17, .nod [.sl 3 (List.map e_ref07_Cell x33.fCells), dN x33.fEnd, dT x33.fHidden], .agg [.sl 3 (List.map e_ref07_Cell x33.fCells), dN x33.fEnd, dT x33.fHidden], .agg [dN a1.fCol, dN a1.fOp, .val (.string (bs x7)), dT a1.fNot], dT x34, dT (!(x32 == x34)), dT (!(x32 == x34)), dT (!(x32 == x34)), .agg [.sl 5 (List.map e_cell_Cell x26.1.fCells), dN x26.1.fEnd, dT x26.1.fHidden], dP (blk (vn w4 0)), .agg [dN a1.fCol, dN a1.fOp, .val (.string (bs x7)), dT a1.fNot], .agg [dN x36.fCol, dN x36.fOp, .val (.string (bs x36.fArg)), dT x36.fNot], dT x37, .agg [.sl 5 (List.map e_cell_Cell x26.1.fCells), dN x26.1.fEnd, dT x26.1.fHidden], dP (blk (vn w4 0)), .agg [dN x13.fCol, dN x13.fOp, .val (.string (bs x13.fArg)), dT (!a1.fNot)], dT x38, dT (x37 == x38), dT (x37 == x38)] [3, 4, 5, 6, 7, 9, 45, 46, 83] (by decide +kernel) rfl ?_ rfl ?_
 rotate_left
 · obtain rfl := osi ht28
   exact ⟨_, gP [3, 4, 5, 6, 7, 9, 45, 46, 83] [0, 1, 2, 3, 4, 5] rfl rfl rfl, rfl⟩
 iterate 3 refine aB rfl rfl rfl ?_
 refine OpsQ.yes (Want.bool rfl rfl rfl rfl (by rw [(not_t (c30))]; rfl)) rfl (OpR.loadPtr 6 rfl rfl rfl rfl) ?_
 refine OpsQ.yes (Want.bool rfl rfl rfl rfl (by rw [(not_t (c30))]; rfl)) rfl (OpR.pure rfl) ?_
 refine OpsQ.yes (Want.bool rfl rfl rfl rfl (by rw [(not_t (c30))]; rfl)) rfl (OpR.loadPtr 0 rfl rfl rfl rfl) ?_
 refine OpsQ.yes (Want.bool rfl rfl rfl rfl (by rw [(not_t (c30))]; rfl)) rfl (OpR.call0 fn34 (law18_mine_c hx31) rfl) ?_
 refine OpsQ.yes (Want.bool rfl rfl rfl rfl (by rw [(not_t (c30))]; rfl)) rfl (OpR.call [2, 5] fn44 (filter_Holds_c hx32) rfl rfl rfl (fun _ => rfl)) ?_
 refine OpsQ.yes (Want.bool rfl rfl rfl rfl (by rw [(not_t (c30))]; rfl)) rfl (OpR.pure rfl) ?_
 refine OpsQ.yes (Want.bool rfl rfl rfl rfl (by rw [(not_t (c30))]; rfl)) rfl (OpR.loadPtr 3 rfl rfl rfl rfl) ?_
 refine OpsQ.yes (Want.bool rfl rfl rfl rfl (by rw [(not_t (c30))]; rfl)) rfl (OpR.pure rfl) ?_
 refine OpsQ.yes (Want.bool rfl rfl rfl rfl (by rw [(not_t (c30))]; rfl)) rfl (OpR.indexM e_ref08_Row hx33 rfl rfl rfl rfl rfl) ?_
 refine OpsQ.yes (Want.bool rfl rfl rfl rfl (by rw [(not_t (c30))]; rfl)) rfl (OpR.pure rfl) ?_
 refine OpsQ.yes (Want.bool rfl rfl rfl rfl (by rw [(not_t (c30))]; rfl)) rfl (OpR.loadPtr 0 rfl rfl rfl rfl) ?_
 refine OpsQ.yes (Want.bool rfl rfl rfl rfl (by rw [(not_t (c30))]; rfl)) rfl (OpR.call0 fn45 (ref18_Holds_c hx34) rfl) ?_
 refine OpsQ.yes (Want.bool rfl rfl rfl rfl (by rw [(not_t (c30))]; rfl)) rfl (OpR.neBool rfl rfl rfl rfl) ?_
 refine OpsQ.yes (Want.plain rfl) rfl (OpR.pickF rfl (not_t (c30)) rfl) ?_
 refine aB rfl rfl rfl ?_
 refine OpsQ.yes (Want.bool rfl rfl rfl rfl (by rw [(not_t (c35))]; rfl)) rfl (OpR.loadPtr 6 rfl rfl rfl rfl) ?_
 refine OpsQ.yes (Want.bool rfl rfl rfl rfl (by rw [(not_t (c35))]; rfl)) rfl (OpR.pure rfl) ?_
 refine OpsQ.yes (Want.bool rfl rfl rfl rfl (by rw [(not_t (c35))]; rfl)) rfl (OpR.loadPtr 0 rfl rfl rfl rfl) ?_
 refine OpsQ.yes (Want.bool rfl rfl rfl rfl (by rw [(not_t (c35))]; rfl)) rfl (OpR.call0 fn34 (law18_mine_c hx36) rfl) ?_
 refine OpsQ.yes (Want.bool rfl rfl rfl rfl (by rw [(not_t (c35))]; rfl)) rfl (OpR.call [2, 5] fn44 (filter_Holds_c hx37) rfl rfl rfl (fun _ => rfl)) ?_
 refine OpsQ.yes (Want.bool rfl rfl rfl rfl (by rw [(not_t (c35))]; rfl)) rfl (OpR.loadPtr 6 rfl rfl rfl rfl) ?_
 refine OpsQ.yes (Want.bool rfl rfl rfl rfl (by rw [(not_t (c35))]; rfl)) rfl (OpR.pure rfl) ?_
 refine OpsQ.yes (Want.bool rfl rfl rfl rfl (by rw [(not_t (c35))]; rfl)) rfl (OpR.loadPtr 4 rfl rfl rfl rfl) ?_
 refine OpsQ.yes (Want.bool rfl rfl rfl rfl (by rw [(not_t (c35))]; rfl)) rfl (OpR.call [2, 5] fn44 (filter_Holds_c hx38) rfl rfl rfl (fun _ => rfl)) ?_
 refine OpsQ.yes (Want.bool rfl rfl rfl rfl (by rw [(not_t (c35))]; rfl)) rfl (OpR.eqBool rfl rfl rfl rfl) ?_
 refine OpsQ.yes (Want.plain rfl) rfl (OpR.pickF rfl (not_t (c35)) rfl) ?_
 exact OpsQ.nil
end Go.Proofs.YtpmhiiemklhbhaaGreat.S
