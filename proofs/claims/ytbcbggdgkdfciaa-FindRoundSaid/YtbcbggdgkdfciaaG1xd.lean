/- Printed by a program of this session's own (gen.py): Lean functions for Go functions, and the proofs that the Go code comes to their answers. -/
import Derived.Test.YtbcbggdgkdfciaaG1xc
import Derived.Test.YtbcbggdgkdfciaaG1xb
import Derived.Test.YtbcbggdgkdfciaaG1xa
set_option maxHeartbeats 4000000
set_option linter.unusedVariables false
set_option linter.unusedSimpArgs false
set_option maxRecDepth 20000
namespace Go.Proofs.Ytbcbggdgkdfciaa.S
open Go Go.Sm
attribute [local irreducible] T TL OpR CallT iter loop
noncomputable def find_having_2_r0_4.l1 (a0 : Int) (a1 : row_Row) (a2 : List UInt8) (a9 : Int) (a10 : Int) (a11 : List UInt8) (s34 : Int × Int × Int × Int × Int × Bool × Bool) : Option (Lp (Int × Int × Int × Int × Int × Bool × Bool) (Ex (Int × Int × Int × Int × Bool × Bool) ((Int × Int × Int × Int × Bool × Bool) ⊕ (Int × Int × Int × Int × Bool × Bool)))) :=
  if s34.1 < (a1.fCells.length : Int) then
    bnd (idx a1.fCells s34.1) fun x43 =>
    bnd (if a1.fHidden = true then
      some (false, s34.2.1, s34.2.2.1, s34.2.2.2.1, s34.2.2.2.2.1, s34.2.2.2.2.2.1, s34.2.2.2.2.2.2)
    else
      bnd (find_having_1 x43 a2 a11) fun x47 =>
      if x47 = true then
        bnd (find_Prev_r0 (⟨a0, s34.1⟩ : find_spot) s34.2.1 s34.2.2.1 s34.2.2.2.1 s34.2.2.2.2.1 s34.2.2.2.2.2.1 s34.2.2.2.2.2.2 a9 a10) fun x49 =>
        some (false, x49.1, x49.2.1, x49.2.2.1, x49.2.2.2.1, x49.2.2.2.2.1, x49.2.2.2.2.2)
      else
        some (false, s34.2.1, s34.2.2.1, s34.2.2.2.1, s34.2.2.2.2.1, s34.2.2.2.2.2.1, s34.2.2.2.2.2.2) : Option (Bool × Int × Int × Int × Int × Bool × Bool)) fun t45 =>
    if t45.1 = true then
      some (Lp.done (Ex.ret (Sum.inl (t45.2.1, t45.2.2.1, t45.2.2.2.1, t45.2.2.2.2.1, t45.2.2.2.2.2.1, t45.2.2.2.2.2.2))))
    else
      some (Lp.next (w64 (s34.1 + 1), t45.2.1, t45.2.2.1, t45.2.2.2.1, t45.2.2.2.2.1, t45.2.2.2.2.2.1, t45.2.2.2.2.2.2))
  else
    some (Lp.done (Ex.brk (s34.2.1, s34.2.2.1, s34.2.2.2.1, s34.2.2.2.2.1, s34.2.2.2.2.2.1, s34.2.2.2.2.2.2)))
noncomputable def find_having_2_r0_4 (a0 : Int) (a1 : row_Row) (a2 : List UInt8) (a3 : Int) (a4 : Int) (a5 : Int) (a6 : Int) (a7 : Bool) (a8 : Bool) (a9 : Int) (a10 : Int) (a11 : List UInt8) : Option ((Int × Int × Int × Int × Bool × Bool) ⊕ (Int × Int × Int × Int × Bool × Bool)) :=
  bnd (loop (find_having_2_r0_4.l1 a0 a1 a2 a9 a10 a11) (0, a3, a4, a5, a6, a7, a8) : Option (Ex (Int × Int × Int × Int × Bool × Bool) ((Int × Int × Int × Int × Bool × Bool) ⊕ (Int × Int × Int × Int × Bool × Bool)))) fun t32 => match t32 with
    | .brk u33 =>
      some (Sum.inr (u33.1, u33.2.1, u33.2.2.1, u33.2.2.2.1, u33.2.2.2.2.1, u33.2.2.2.2.2))
    | .ret u33 => some u33
theorem find_having_2_r0_4_c {a0 : Int} {a1 : row_Row} {a2 : List UInt8} {a3 : Int} {a4 : Int} {a5 : Int} {a6 : Int} {a7 : Bool} {a8 : Bool} {a9 : Int} {a10 : Int} {a11 : List UInt8} {b0 : Nat} {b1 : Nat} {b2 : Nat} {b3 : Nat} {b4 : Nat} {b5 : Nat} {b6 : Nat} {b7 : Nat} {b8 : Nat} {b9 : Nat} {b10 : Nat} {v11 : Value} {res : (Int × Int × Int × Int × Bool × Bool) ⊕ (Int × Int × Int × Int × Bool × Bool)} (h0 : find_having_2_r0_4 a0 a1 a2 a3 a4 a5 a6 a7 a8 a9 a10 a11 = some res) : RoundF X b0 [dN a0, .agg [.sl 5 (List.map e_cell_Cell a1.fCells), dN a1.fEnd, dT a1.fHidden]] [.lp b0 .ready none [13, 14] rfA160_0 rfB160_0 [(3, .nod [.fn (.yield b2) [] []]), (2, (dP b1))] 40, .var b1 [.fn (.func 159) [] [dP b3, dP b4]] 239, .lp b2 .ready none [26] rfA58_0 rfB58_0 [(17, (dP b9)), (16, (dP b8)), (15, (dP b7)), (14, (dP b6)), (13, (dP b5))] 39, .var b3 [dP b10] 39, .var b4 [.sl 1 (lB a2)] 25, .var b5 [dN a3, dN a4] 202, .var b6 [dN a5, dN a6] 202, .var b7 [dT a7] 4, .var b8 [dT a8] 4, .var b9 [dN a9, dN a10] 202, .var b10 [.val v11] 142, .row v11 (lB a11) 1 5] (fun x => (match res with | .inl res => (dT false) | .inr res => (dT true))) (fun x => (match res with | .inl res => [.lp b0 .done (some (.ret)) [13, 14] rfA160_0 rfB160_0 [(3, .nod [.fn (.yield b2) [] []]), (2, (dP b1))] 40, .var b1 [.fn (.func 159) [] [dP b3, dP b4]] 239, .lp b2 .ready none [26] rfA58_0 rfB58_0 [(17, (dP b9)), (16, (dP b8)), (15, (dP b7)), (14, (dP b6)), (13, (dP b5))] 39, .var b3 [dP b10] 39, .var b4 [.sl 1 (lB a2)] 25, .var b5 [dN res.1, dN res.2.1] 202, .var b6 [dN res.2.2.1, dN res.2.2.2.1] 202, .var b7 [dT res.2.2.2.2.1] 4, .var b8 [dT res.2.2.2.2.2] 4, .var b9 [dN a9, dN a10] 202, .var b10 [.val v11] 142, .row v11 (lB a11) 1 5] | .inr res => [.lp b0 .ready none [13, 14] rfA160_0 rfB160_0 [(3, .nod [.fn (.yield b2) [] []]), (2, (dP b1))] 40, .var b1 [.fn (.func 159) [] [dP b3, dP b4]] 239, .lp b2 .ready none [26] rfA58_0 rfB58_0 [(17, (dP b9)), (16, (dP b8)), (15, (dP b7)), (14, (dP b6)), (13, (dP b5))] 39, .var b3 [dP b10] 39, .var b4 [.sl 1 (lB a2)] 25, .var b5 [dN res.1, dN res.2.1] 202, .var b6 [dN res.2.2.1, dN res.2.2.2.1] 202, .var b7 [dT res.2.2.2.2.1] 4, .var b8 [dT res.2.2.2.2.2] 4, .var b9 [dN a9, dN a10] 202, .var b10 [.val v11] 142, .row v11 (lB a11) 1 5])) := by
 unfold find_having_2_r0_4 at h0
 refine RoundF.mk (X := X) rfl rfl rfl ?_
 refine aS ?_
 refine aA rfl rfl ?_
 refine TL.nil ?_
 show T (X.inR b0) _ _ _
 refine T.region ?_
 refine TL.op (OpR.alloc rfl rfl (fun _ => rfl)) rfl (fun p31 => ?_)
 refine TL.op0 (OpR.store 12 rfl rfl rfl rfl rfl rfl rfl rfl) ?_
 refine TL.nil ?_
 refine RoundA.mk ?_
 refine T.block ?_
 refine aS ?_
 refine aA rfl rfl ?_
 refine TL.op1 (OpR.loadPtr 12 rfl rfl rfl rfl) rfl ?_
 refine TL.op1 (OpR.cast (OpR.pure rfl) (intE (lenM _ _))) rfl ?_
 refine aA rfl rfl ?_
 refine TL.nil ?_
 show T (X.inR b0) _ _ _
 obtain ⟨t32, ht32, h0⟩ := bS h0
 refine T.cutN (fun S' => ∃ u33, t32 = Ex.brk u33 ∧ S' = ⟨[], [.lp b0 .busy none [13, 14] rfA160_0 rfB160_0 [(3, .nod [.fn (.yield b2) [] []]), (2, (dP b1))] 40, .var b1 [.fn (.func 159) [] [dP b3, dP b4]] 239, .lp b2 .ready none [26] rfA58_0 rfB58_0 [(17, (dP b9)), (16, (dP b8)), (15, (dP b7)), (14, (dP b6)), (13, (dP b5))] 39, .var b3 [dP b10] 39, .var b4 [.sl 1 (lB a2)] 25, .var b5 [dN u33.1, dN u33.2.1] 202, .var b6 [dN u33.2.2.1, dN u33.2.2.2.1] 202, .var b7 [dT u33.2.2.2.2.1] 4, .var b8 [dT u33.2.2.2.2.2] 4, .var b9 [dN a9, dN a10] 202, .var b10 [.val v11] 142, .row v11 (lB a11) 1 5], 40⟩) (RoundG.ghost) ?_ ?_
 rotate_left
 · rintro _ ⟨u33, rfl, rfl⟩
   obtain rfl := osi h0
   exact RoundG.mk (ks := [0, 1, 2, 3, 4, 5, 6, 7, 8, 9, 10, 11]) (Gst.only [] rfl) undef rfl rfl rfl rfl rfl
 refine T.block ?_
 obtain ⟨n35, n40⟩ := loop_some ht32
 refine T.loop (fun n S' => ∃ S'', Gst S' S'' ∧ ∃ s34 : Int × Int × Int × Int × Int × Bool × Bool, S'' = ⟨[(18, (dN s34.1)), (17, (dN (a1.fCells.length : Int))), (16, .sl 5 (List.map e_cell_Cell a1.fCells)), (5, (dP (blk p31))), (4, (dN a0)), (3, .nod [.fn (.yield b2) [] []]), (2, (dP b1))], [.lp b0 .busy none [13, 14] rfA160_0 rfB160_0 [(3, .nod [.fn (.yield b2) [] []]), (2, (dP b1))] 40, .var b1 [.fn (.func 159) [] [dP b3, dP b4]] 239, .lp b2 .ready none [26] rfA58_0 rfB58_0 [(17, (dP b9)), (16, (dP b8)), (15, (dP b7)), (14, (dP b6)), (13, (dP b5))] 39, .var b3 [dP b10] 39, .var b4 [.sl 1 (lB a2)] 25, .var b5 [dN s34.2.1, dN s34.2.2.1] 202, .var b6 [dN s34.2.2.2.1, dN s34.2.2.2.2.1] 202, .var b7 [dT s34.2.2.2.2.2.1] 4, .var b8 [dT s34.2.2.2.2.2.2] 4, .var b9 [dN a9, dN a10] 202, .var b10 [.val v11] 142, .row v11 (lB a11) 1 5, .var (blk p31) [.sl 5 (List.map e_cell_Cell a1.fCells), dN a1.fEnd, dT a1.fHidden] 49], 40⟩ ∧ iter (find_having_2_r0_4.l1 a0 a1 a2 a9 a10 a11) n s34 = some t32) n35 ?_ ?_
 · exact ⟨_, Gst.only [2, 3, 4, 5, 16, 17, 18] rfl, (0, a3, a4, a5, a6, a7, a8), rfl, n40⟩
 rintro n35 _ ⟨_, g, s34, rfl, i39⟩
 refine T.ghost g ?_
 obtain ⟨m36, q37, rfl, q38, i39⟩ := iter_succ i39
 unfold find_having_2_r0_4.l1 at q38
 refine aS ?_
 refine aA rfl rfl ?_
 refine TL.nil ?_
 show T (X.inR b0) _ _ _
 refine T.seq ?_
 rcases ite_some q38 with ⟨c42, q38⟩ | ⟨c42, q38⟩
 rotate_left
 · refine T.condF rfl (eF c42) ?_
   refine T.exit ?_
   obtain rfl := osi q38
   obtain rfl : _ = _ := i39
   exact ⟨_, gP [] [0, 1, 2, 3, 4, 5, 6, 7, 8, 9, 10, 11] rfl rfl rfl, _, rfl, rfl⟩
 refine T.condT rfl (eT c42) ?_
 refine T.skip ?_
 show T (X.inR b0) _ _ _
 refine T.seq ?_
 refine T.block ?_
 refine aS ?_
 refine aA rfl rfl ?_
 obtain ⟨x43, hx43, q38⟩ := bS q38
 refine TL.op1 (OpR.indexM e_cell_Cell hx43 rfl rfl rfl rfl rfl) rfl ?_
 refine aA rfl rfl ?_
 refine TL.op (OpR.alloc rfl rfl (fun _ => rfl)) rfl (fun p44 => ?_)
 refine aA rfl rfl ?_
 refine TL.op0 (OpR.store 13 rfl rfl rfl rfl rfl rfl rfl rfl) ?_
 refine TL.nil ?_
 show T (X.inR b0) _ _ _
 refine T.seq ?_
 obtain ⟨t45, ht45, q38⟩ := bS q38
 refine T.cutC (fun S' => S' = ⟨[(38, (dT t45.1)), (18, (dN s34.1)), (17, (dN (a1.fCells.length : Int))), (16, .sl 5 (List.map e_cell_Cell a1.fCells)), (5, (dP (blk p31))), (4, (dN a0)), (3, .nod [.fn (.yield b2) [] []]), (2, (dP b1))], [.lp b0 .busy none [13, 14] rfA160_0 rfB160_0 [(3, .nod [.fn (.yield b2) [] []]), (2, (dP b1))] 40, .var b1 [.fn (.func 159) [] [dP b3, dP b4]] 239, .lp b2 .ready none [26] rfA58_0 rfB58_0 [(17, (dP b9)), (16, (dP b8)), (15, (dP b7)), (14, (dP b6)), (13, (dP b5))] 39, .var b3 [dP b10] 39, .var b4 [.sl 1 (lB a2)] 25, .var b5 [dN t45.2.1, dN t45.2.2.1] 202, .var b6 [dN t45.2.2.2.1, dN t45.2.2.2.2.1] 202, .var b7 [dT t45.2.2.2.2.2.1] 4, .var b8 [dT t45.2.2.2.2.2.2] 4, .var b9 [dN a9, dN a10] 202, .var b10 [.val v11] 142, .row v11 (lB a11) 1 5, .var (blk p31) [.sl 5 (List.map e_cell_Cell a1.fCells), dN a1.fEnd, dT a1.fHidden] 49], 40⟩) (fun _ h => h) ?_ ?_
 rotate_left
 · rintro _ rfl
   show T (X.inR b0) _ _ _
   rcases ite_some q38 with ⟨c50, q38⟩ | ⟨c50, q38⟩
   · refine T.condT rfl (c50) ?_
     refine T.ret ?_
     obtain rfl := osi q38
     obtain rfl : _ = _ := i39
     obtain rfl := osi h0
     exact RoundG.mk (ks := [0, 1, 2, 3, 4, 5, 6, 7, 8, 9, 10, 11]) (gP [] [0, 1, 2, 3, 4, 5, 6, 7, 8, 9, 10, 11] rfl rfl rfl) undef rfl rfl rfl rfl rfl
   refine T.condF rfl (eq_false_of_ne_true c50) ?_
   refine T.skip ?_
   show T (X.inR b0) _ _ _
   refine T.region ?_
   iterate 2 refine aA rfl rfl ?_
   refine TL.nil ?_
   obtain rfl := osi q38
   exact ⟨m36, Nat.lt_succ_self _, _, Gst.only [2, 3, 4, 5, 16, 17, 18] rfl, (w64 (s34.1 + 1), t45.2.1, t45.2.2.1, t45.2.2.2.1, t45.2.2.2.2.1, t45.2.2.2.2.2.1, t45.2.2.2.2.2.2), rfl, i39⟩
 refine T.region ?_
 refine aA rfl rfl ?_
 refine TL.op1 (OpR.loadPtr 12 rfl rfl rfl rfl) rfl ?_
 iterate 2 refine aA rfl rfl ?_
 rcases ite_some ht45 with ⟨c46, ht45⟩ | ⟨c46, ht45⟩
 · refine TL.off rfl rfl rfl rfl (not_t (c46)) rfl rfl ?_
   refine TL.off rfl rfl rfl rfl (not_t (c46)) rfl rfl ?_
   refine TL.off rfl rfl rfl rfl (not_t (c46)) rfl rfl ?_
   refine TL.op1 (OpR.pickF rfl (not_t (c46)) rfl) rfl ?_
   refine aA rfl rfl ?_
   refine TL.off rfl rfl rfl rfl rfl rfl rfl ?_
   refine TL.off rfl rfl rfl rfl rfl rfl rfl ?_
   refine TL.off rfl rfl rfl rfl rfl rfl rfl ?_
   refine TL.off rfl rfl rfl rfl rfl rfl rfl ?_
   refine TL.off rfl rfl rfl rfl rfl rfl rfl ?_
   refine TL.off rfl rfl rfl rfl rfl rfl rfl ?_
   refine TL.op1 (OpR.pickF rfl rfl rfl) rfl ?_
   refine TL.nil ?_
   obtain rfl := osi ht45
   exact ⟨_, gP [2, 3, 4, 5, 16, 17, 18, 38] [0, 1, 2, 3, 4, 5, 6, 7, 8, 9, 10, 11, 12] rfl rfl rfl, rfl⟩
 refine TL.on rfl rfl rfl rfl (not_f (eq_false_of_ne_true c46)) ?_
 refine TL.op1 (OpR.loadPtr 1 rfl rfl rfl rfl) rfl ?_
 refine TL.on rfl rfl rfl rfl (not_f (eq_false_of_ne_true c46)) ?_
 refine TL.op1 (OpR.loadPtr 13 rfl rfl rfl rfl) rfl ?_
 refine TL.on rfl rfl rfl rfl (not_f (eq_false_of_ne_true c46)) ?_
 obtain ⟨x47, hx47, ht45⟩ := bS ht45
 refine TL.op1 (OpR.callV [3, 4, 10, 11] rfl fn159 (find_having_1_c hx47) rfl rfl rfl (fun _ => rfl)) rfl ?_
 refine TL.op1 (OpR.pickT rfl (not_f (eq_false_of_ne_true c46)) rfl) rfl ?_
 refine aA rfl rfl ?_
 rcases ite_some ht45 with ⟨c48, ht45⟩ | ⟨c48, ht45⟩
 rotate_left
 · refine TL.off rfl rfl rfl rfl (eq_false_of_ne_true c48) rfl rfl ?_
   refine TL.off rfl rfl rfl rfl (eq_false_of_ne_true c48) rfl rfl ?_
   refine TL.off rfl rfl rfl rfl (eq_false_of_ne_true c48) rfl rfl ?_
   refine TL.off rfl rfl rfl rfl (eq_false_of_ne_true c48) rfl rfl ?_
   refine TL.off rfl rfl rfl rfl (eq_false_of_ne_true c48) rfl rfl ?_
   refine TL.off rfl rfl rfl rfl (eq_false_of_ne_true c48) rfl rfl ?_
   refine TL.op1 (OpR.pickF rfl (eq_false_of_ne_true c48) rfl) rfl ?_
   refine TL.nil ?_
   obtain rfl := osi ht45
   exact ⟨_, gP [2, 3, 4, 5, 16, 17, 18, 38] [0, 1, 2, 3, 4, 5, 6, 7, 8, 9, 10, 11, 12] rfl rfl rfl, rfl⟩
 refine TL.on rfl rfl rfl rfl (c48) ?_
 refine aA rfl rfl ?_
 refine TL.on rfl rfl rfl rfl (c48) ?_
 refine aA rfl rfl ?_
 refine TL.on rfl rfl rfl rfl (c48) ?_
 refine aA rfl rfl ?_
 refine TL.on rfl rfl rfl rfl (c48) ?_
 refine TL.op1 (OpR.build rfl rfl rfl rfl rfl) rfl ?_
 refine TL.on rfl rfl rfl rfl (c48) ?_
 obtain ⟨x49, hx49, ht45⟩ := bS ht45
 refine TL.op1 (OpR.callY [2, 5, 6, 7, 8, 9] rfl (find_Prev_r0_c hx49) rfl rfl rfl (fun _ => rfl)) rfl ?_
 refine TL.on rfl rfl rfl rfl (c48) ?_
 refine aA rfl rfl ?_
 refine TL.op1 (OpR.pickT rfl (c48) rfl) rfl ?_
 refine TL.nil ?_
 obtain rfl := osi ht45
 exact ⟨_, gP [2, 3, 4, 5, 16, 17, 18, 38] [0, 1, 2, 3, 4, 5, 6, 7, 8, 9, 10, 11, 12] rfl rfl rfl, rfl⟩
theorem find_having_2_r0_4_cx1 {a0 : Int} {a1 : row_Row} {a2 : List UInt8} {a3 : Int} {a4 : Int} {a5 : Int} {a6 : Int} {a7 : Bool} {a8 : Bool} {a9 : Int} {a10 : Int} {a11 : List UInt8} {b0 : Nat} {b1 : Nat} {b2 : Nat} {b3 : Nat} {b4 : Nat} {b5 : Nat} {b6 : Nat} {b7 : Nat} {b8 : Nat} {b9 : Nat} {b10 : Nat} {v11 : Value} {res : Int × Int × Int × Int × Bool × Bool} (h0 : find_having_2_r0_4 a0 a1 a2 a3 a4 a5 a6 a7 a8 a9 a10 a11 = some (Sum.inl res)) : RoundF X b0 [dN a0, .agg [.sl 5 (List.map e_cell_Cell a1.fCells), dN a1.fEnd, dT a1.fHidden]] [.lp b0 .ready none [13, 14] rfA160_0 rfB160_0 [(3, .nod [.fn (.yield b2) [] []]), (2, (dP b1))] 40, .var b1 [.fn (.func 159) [] [dP b3, dP b4]] 239, .lp b2 .ready none [26] rfA58_0 rfB58_0 [(17, (dP b9)), (16, (dP b8)), (15, (dP b7)), (14, (dP b6)), (13, (dP b5))] 39, .var b3 [dP b10] 39, .var b4 [.sl 1 (lB a2)] 25, .var b5 [dN a3, dN a4] 202, .var b6 [dN a5, dN a6] 202, .var b7 [dT a7] 4, .var b8 [dT a8] 4, .var b9 [dN a9, dN a10] 202, .var b10 [.val v11] 142, .row v11 (lB a11) 1 5] (fun x => (dT false)) (fun x => [.lp b0 .done (some (.ret)) [13, 14] rfA160_0 rfB160_0 [(3, .nod [.fn (.yield b2) [] []]), (2, (dP b1))] 40, .var b1 [.fn (.func 159) [] [dP b3, dP b4]] 239, .lp b2 .ready none [26] rfA58_0 rfB58_0 [(17, (dP b9)), (16, (dP b8)), (15, (dP b7)), (14, (dP b6)), (13, (dP b5))] 39, .var b3 [dP b10] 39, .var b4 [.sl 1 (lB a2)] 25, .var b5 [dN res.1, dN res.2.1] 202, .var b6 [dN res.2.2.1, dN res.2.2.2.1] 202, .var b7 [dT res.2.2.2.2.1] 4, .var b8 [dT res.2.2.2.2.2] 4, .var b9 [dN a9, dN a10] 202, .var b10 [.val v11] 142, .row v11 (lB a11) 1 5]) := find_having_2_r0_4_c h0
theorem find_having_2_r0_4_cx2 {a0 : Int} {a1 : row_Row} {a2 : List UInt8} {a3 : Int} {a4 : Int} {a5 : Int} {a6 : Int} {a7 : Bool} {a8 : Bool} {a9 : Int} {a10 : Int} {a11 : List UInt8} {b0 : Nat} {b1 : Nat} {b2 : Nat} {b3 : Nat} {b4 : Nat} {b5 : Nat} {b6 : Nat} {b7 : Nat} {b8 : Nat} {b9 : Nat} {b10 : Nat} {v11 : Value} {res : Int × Int × Int × Int × Bool × Bool} (h0 : find_having_2_r0_4 a0 a1 a2 a3 a4 a5 a6 a7 a8 a9 a10 a11 = some (Sum.inr res)) : RoundF X b0 [dN a0, .agg [.sl 5 (List.map e_cell_Cell a1.fCells), dN a1.fEnd, dT a1.fHidden]] [.lp b0 .ready none [13, 14] rfA160_0 rfB160_0 [(3, .nod [.fn (.yield b2) [] []]), (2, (dP b1))] 40, .var b1 [.fn (.func 159) [] [dP b3, dP b4]] 239, .lp b2 .ready none [26] rfA58_0 rfB58_0 [(17, (dP b9)), (16, (dP b8)), (15, (dP b7)), (14, (dP b6)), (13, (dP b5))] 39, .var b3 [dP b10] 39, .var b4 [.sl 1 (lB a2)] 25, .var b5 [dN a3, dN a4] 202, .var b6 [dN a5, dN a6] 202, .var b7 [dT a7] 4, .var b8 [dT a8] 4, .var b9 [dN a9, dN a10] 202, .var b10 [.val v11] 142, .row v11 (lB a11) 1 5] (fun x => (dT true)) (fun x => [.lp b0 .ready none [13, 14] rfA160_0 rfB160_0 [(3, .nod [.fn (.yield b2) [] []]), (2, (dP b1))] 40, .var b1 [.fn (.func 159) [] [dP b3, dP b4]] 239, .lp b2 .ready none [26] rfA58_0 rfB58_0 [(17, (dP b9)), (16, (dP b8)), (15, (dP b7)), (14, (dP b6)), (13, (dP b5))] 39, .var b3 [dP b10] 39, .var b4 [.sl 1 (lB a2)] 25, .var b5 [dN res.1, dN res.2.1] 202, .var b6 [dN res.2.2.1, dN res.2.2.2.1] 202, .var b7 [dT res.2.2.2.2.1] 4, .var b8 [dT res.2.2.2.2.2] 4, .var b9 [dN a9, dN a10] 202, .var b10 [.val v11] 142, .row v11 (lB a11) 1 5]) := find_having_2_r0_4_c h0
noncomputable def walk_Range_row_Row_1_4.l1 (a1 : Int) (a3 : List UInt8) (a10 : Int) (a11 : Int) (a12 : List UInt8) (s9 : Int × Int × Int × Int × Int × Bool × Bool × (List wFr)) : Option (Lp (Int × Int × Int × Int × Int × Bool × Bool × (List wFr)) (Ex (Int × Int × Int × Int × Bool × Bool) ((Int × Int × Int × Int × Bool × Bool) ⊕ (Int × Int × Int × Int × Bool × Bool)))) :=
  if s9.1 < a1 then
    bnd (walk_stack_row_Row_top s9.2.2.2.2.2.2.2) fun x18 =>
    bnd (idx s9.2.2.2.2.2.2.2 x18) fun x19 =>
    bnd (some x19.fN) fun q20 => match q20 with
      | none =>
        none
      | some z21 =>
        bnd (o_tNd z21) fun x23 =>
        bnd (if x19.fNext = (x23.fItems.length : Int) then
          bnd (walk_stack_row_Row_forth s9.2.2.2.2.2.2.2) fun x28 =>
          some x28.2
        else
          some s9.2.2.2.2.2.2.2 : Option (List wFr)) fun t25 =>
        bnd (walk_stack_row_Row_top t25) fun x30 =>
        bnd (idx t25 x30) fun x31 =>
        bnd (some x31.fN) fun q32 => match q32 with
          | none =>
            none
          | some z33 =>
            bnd (o_tNd z33) fun x35 =>
            bnd (idx x35.fItems x31.fNext) fun x37 =>
            bnd (find_having_2_r0_4 s9.1 x37 a3 s9.2.1 s9.2.2.1 s9.2.2.2.1 s9.2.2.2.2.1 s9.2.2.2.2.2.1 s9.2.2.2.2.2.2.1 a10 a11 a12) fun x38 =>
            match x38 with
            | .inl x38 =>
                some (Lp.done (Ex.ret (Sum.inr (x38.1, x38.2.1, x38.2.2.1, x38.2.2.2.1, x38.2.2.2.2.1, x38.2.2.2.2.2))))
            | .inr x38 =>
                some (Lp.next (w64 (s9.1 + 1), x38.1, x38.2.1, x38.2.2.1, x38.2.2.2.1, x38.2.2.2.2.1, x38.2.2.2.2.2, (t25.set x30.toNat (⟨x31.fN, x31.fFirst, w64 (x31.fNext + 1)⟩ : wFr))))
  else
    some (Lp.done (Ex.brk (s9.2.1, s9.2.2.1, s9.2.2.2.1, s9.2.2.2.2.1, s9.2.2.2.2.2.1, s9.2.2.2.2.2.2.1)))
noncomputable def walk_Range_row_Row_1_4 (a0 : Int) (a1 : Int) (a2 : Option NP) (a3 : List UInt8) (a4 : Int) (a5 : Int) (a6 : Int) (a7 : Int) (a8 : Bool) (a9 : Bool) (a10 : Int) (a11 : Int) (a12 : List UInt8) : Option ((Int × Int × Int × Int × Bool × Bool) ⊕ (Int × Int × Int × Int × Bool × Bool)) :=
  if a0 = a1 then
    some (Sum.inl (a4, a5, a6, a7, a8, a9))
  else
    bnd (tree_Tree_row_Row_Root (⟨a2⟩ : tTr)) fun x4 =>
    match x4 with
    | .inl x4 =>
        none
    | .inr x4 =>
        bnd (walk_stack_row_Row_down x4.1 x4.2.1 x4.2.2 0 a0) fun x5 =>
        bnd (loop (walk_Range_row_Row_1_4.l1 a1 a3 a10 a11 a12) (a0, a4, a5, a6, a7, a8, a9, x5) : Option (Ex (Int × Int × Int × Int × Bool × Bool) ((Int × Int × Int × Int × Bool × Bool) ⊕ (Int × Int × Int × Int × Bool × Bool)))) fun t6 => match t6 with
          | .brk u7 =>
            some (Sum.inl (u7.1, u7.2.1, u7.2.2.1, u7.2.2.2.1, u7.2.2.2.2.1, u7.2.2.2.2.2))
          | .ret u7 => some u7
theorem walk_Range_row_Row_1_4_c {a0 : Int} {a1 : Int} {a2 : Option NP} {a3 : List UInt8} {a4 : Int} {a5 : Int} {a6 : Int} {a7 : Int} {a8 : Bool} {a9 : Bool} {a10 : Int} {a11 : Int} {a12 : List UInt8} {b0 : Nat} {b1 : Nat} {b2 : Nat} {b3 : Nat} {b4 : Nat} {b5 : Nat} {b6 : Nat} {b7 : Nat} {b8 : Nat} {b9 : Nat} {b10 : Nat} {b11 : Nat} {b12 : Nat} {b13 : Nat} {v14 : Value} {res : (Int × Int × Int × Int × Bool × Bool) ⊕ (Int × Int × Int × Int × Bool × Bool)} (h0 : walk_Range_row_Row_1_4 a0 a1 a2 a3 a4 a5 a6 a7 a8 a9 a10 a11 a12 = some res) : CallF X 194 [.fn (.yield b0) [] [], dP b1, dP b2, dP b3] [.lp b0 .ready none [13, 14] rfA160_0 rfB160_0 [(3, .nod [.fn (.yield b5) [] []]), (2, (dP b4))] 40, .var b1 [dN a0] 3, .var b2 [dN a1] 3, .var b3 [(eOP a2)] 118, .var b4 [.fn (.func 159) [] [dP b6, dP b7]] 239, .lp b5 .ready none [26] rfA58_0 rfB58_0 [(17, (dP b12)), (16, (dP b11)), (15, (dP b10)), (14, (dP b9)), (13, (dP b8))] 39, .var b6 [dP b13] 39, .var b7 [.sl 1 (lB a3)] 25, .var b8 [dN a4, dN a5] 202, .var b9 [dN a6, dN a7] 202, .var b10 [dT a8] 4, .var b11 [dT a9] 4, .var b12 [dN a10, dN a11] 202, .var b13 [.val v14] 142, .row v14 (lB a12) 1 5] (fun x => (match res with | .inl res => .tup [] | .inr res => .tup [])) (fun x => (match res with | .inl res => [.lp b0 .ready none [13, 14] rfA160_0 rfB160_0 [(3, .nod [.fn (.yield b5) [] []]), (2, (dP b4))] 40, .var b1 [dN a0] 3, .var b2 [dN a1] 3, .var b3 [(eOP a2)] 118, .var b4 [.fn (.func 159) [] [dP b6, dP b7]] 239, .lp b5 .ready none [26] rfA58_0 rfB58_0 [(17, (dP b12)), (16, (dP b11)), (15, (dP b10)), (14, (dP b9)), (13, (dP b8))] 39, .var b6 [dP b13] 39, .var b7 [.sl 1 (lB a3)] 25, .var b8 [dN res.1, dN res.2.1] 202, .var b9 [dN res.2.2.1, dN res.2.2.2.1] 202, .var b10 [dT res.2.2.2.2.1] 4, .var b11 [dT res.2.2.2.2.2] 4, .var b12 [dN a10, dN a11] 202, .var b13 [.val v14] 142, .row v14 (lB a12) 1 5] | .inr res => [.lp b0 .done (some (.ret)) [13, 14] rfA160_0 rfB160_0 [(3, .nod [.fn (.yield b5) [] []]), (2, (dP b4))] 40, .var b1 [dN a0] 3, .var b2 [dN a1] 3, .var b3 [(eOP a2)] 118, .var b4 [.fn (.func 159) [] [dP b6, dP b7]] 239, .lp b5 .ready none [26] rfA58_0 rfB58_0 [(17, (dP b12)), (16, (dP b11)), (15, (dP b10)), (14, (dP b9)), (13, (dP b8))] 39, .var b6 [dP b13] 39, .var b7 [.sl 1 (lB a3)] 25, .var b8 [dN res.1, dN res.2.1] 202, .var b9 [dN res.2.2.1, dN res.2.2.2.1] 202, .var b10 [dT res.2.2.2.2.1] 4, .var b11 [dT res.2.2.2.2.2] 4, .var b12 [dN a10, dN a11] 202, .var b13 [.val v14] 142, .row v14 (lB a12) 1 5])) := by
 unfold walk_Range_row_Row_1_4 at h0
 refine CallF.mkG (X := X) rfl Try.func194 rfl rfl Try.ntmps194 rfl rfl ?_
 refine T.seq ?_
 refine aS ?_
 refine TL.op1 (OpR.loadPtr 1 rfl rfl rfl rfl) rfl ?_
 refine TL.op1 (OpR.loadPtr 2 rfl rfl rfl rfl) rfl ?_
 refine aA rfl rfl ?_
 refine aN rfl ?_
 rcases ite_some h0 with ⟨c1, h0⟩ | ⟨c1, h0⟩
 · refine T.condT rfl (beq_iff_eq.2 c1) ?_
   refine T.ret ?_
   obtain rfl := osi h0
   exact rO [0, 1, 2, 3, 4, 5, 6, 7, 8, 9, 10, 11, 12, 13, 14] [] rfl undef ResL.nil rfl rfl rfl rfl
 refine T.condF rfl (beq_eq_false_iff_ne.2 c1) ?_
 refine aK rfl ?_
 refine aS ?_
 refine TL.op (OpR.alloc rfl rfl (fun _ => rfl)) rfl (fun p2 => ?_)
 refine aN rfl ?_
 refine T.seq ?_
 obtain ⟨x4, hx4, h0⟩ := bS h0
 rcases x4 with x4 | x4
 · dsimp only at h0
   exact (by cases h0)
 dsimp only at h0
 obtain ⟨x5, hx5, h0⟩ := bS h0
 refine T.drawS drawsX (fun env3 => [.agg [(eOP a2)], .nod [.sl 1 (List.map eNP x4.1), .sl 3 (List.map e_row_Row x4.2.1), dN x4.2.2], dN a0, .tup []]) (fun D env3 => [.lp b0 .ready none [13, 14] rfA160_0 rfB160_0 [(3, .nod [.fn (.yield b5) [] []]), (2, (dP b4))] 40, .var b1 [dN a0] 3, .var b2 [dN a1] 3, .var b3 [(eOP a2)] 118, .var b4 [.fn (.func 159) [] [dP b6, dP b7]] 239, .lp b5 .ready none [26] rfA58_0 rfB58_0 [(17, (dP b12)), (16, (dP b11)), (15, (dP b10)), (14, (dP b9)), (13, (dP b8))] 39, .var b6 [dP b13] 39, .var b7 [.sl 1 (lB a3)] 25, .var b8 [dN a4, dN a5] 202, .var b9 [dN a6, dN a7] 202, .var b10 [dT a8] 4, .var b11 [dT a9] 4, .var b12 [dN a10, dN a11] 202, .var b13 [.val v14] 142, .row v14 (lB a12) 1 5, (bif D 3 then .var (blk p2) [.val (vn (env3 3) 0)] 272 else .var (blk p2) [.val (.slice none 0 0)] 272)] ++ (bif D 3 then [.row (vn (env3 3) 0) (List.map e_wFr x5) 3 278] else [])) [0, 1, 0, 7] [0, 1, 2, 5] _ (by decide +kernel) (by decide +kernel) (fun _ => rfl) (fun _ => rfl) ?_ (fun _ => rfl) (fun _ => rfl) ?_
 · refine oT (.agg [(eOP a2)]) (fun _ _ => OpR.loadPtr 3 rfl rfl rfl rfl) ?_
   refine oT (.nod [.sl 1 (List.map eNP x4.1), .sl 3 (List.map e_row_Row x4.2.1), dN x4.2.2]) (fun _ _ => OpR.call0 fn196 (tree_Tree_row_Row_Root_cx2 hx4) rfl) ?_
   refine oT ((dN a0)) (fun _ _ => OpR.loadPtr 1 rfl rfl rfl rfl) ?_
   refine OpsS.cons' true ?_ (fun D hA env3 x j hj hD => match j, hj, hD with | 0, _, _ => rfl | 1, _, _ => rfl | 2, _, _ => rfl | 3, hj, _ => absurd rfl hj | _ + 4, _, _ => rfl) ?_
   · intro D env3 hA
     exact OpS.yp [(3, false)] ⟨hA.me, trivial⟩ (Want.plain rfl) (OpR.call [15] fn195 (walk_stack_row_Row_down_c hx5) rfl rfl rfl (fun _ => rfl)) (fun x => rfl) (fun x => rfl)
   exact trivial
 intro env3
 show T X _ _ _
 refine aS ?_
 refine TL.op1 (OpR.loadPtr 1 rfl rfl rfl rfl) rfl ?_
 refine aA rfl rfl ?_
 refine aN rfl ?_
 obtain ⟨t6, ht6, h0⟩ := bS h0
 refine T.cutN (fun S' => ∃ u7, t6 = Ex.brk u7 ∧ S' = ⟨[], [.lp b0 .ready none [13, 14] rfA160_0 rfB160_0 [(3, .nod [.fn (.yield b5) [] []]), (2, (dP b4))] 40, .var b1 [dN a0] 3, .var b2 [dN a1] 3, .var b3 [(eOP a2)] 118, .var b4 [.fn (.func 159) [] [dP b6, dP b7]] 239, .lp b5 .ready none [26] rfA58_0 rfB58_0 [(17, (dP b12)), (16, (dP b11)), (15, (dP b10)), (14, (dP b9)), (13, (dP b8))] 39, .var b6 [dP b13] 39, .var b7 [.sl 1 (lB a3)] 25, .var b8 [dN u7.1, dN u7.2.1] 202, .var b9 [dN u7.2.2.1, dN u7.2.2.2.1] 202, .var b10 [dT u7.2.2.2.2.1] 4, .var b11 [dT u7.2.2.2.2.2] 4, .var b12 [dN a10, dN a11] 202, .var b13 [.val v14] 142, .row v14 (lB a12) 1 5], 62⟩) (fun _ _ g ⟨h, S', ds, g', r⟩ => ⟨h, S', ds, Gst.trans g g', r⟩) ?_ ?_
 rotate_left
 · rintro _ ⟨u7, rfl, rfl⟩
   obtain rfl := osi h0
   exact PostG.finP (ks := [0, 1, 2, 3, 4, 5, 6, 7, 8, 9, 10, 11, 12, 13, 14]) (Gst.only [] rfl) undef ResL.nil rfl rfl rfl rfl
 refine T.block ?_
 obtain ⟨n10, n15⟩ := loop_some ht6
 refine T.loop (fun n S' => ∃ S'', Gst S' S'' ∧ ∃ y8 : Value, ∃ s9 : Int × Int × Int × Int × Int × Bool × Bool × (List wFr), S'' = ⟨[(6, (dN s9.1)), (5, (dP (blk p2))), (2, (dP b2)), (0, .fn (.yield b0) [] [])], [.lp b0 .ready none [13, 14] rfA160_0 rfB160_0 [(3, .nod [.fn (.yield b5) [] []]), (2, (dP b4))] 40, .var b1 [dN a0] 3, .var b2 [dN a1] 3, .var b3 [(eOP a2)] 118, .var b4 [.fn (.func 159) [] [dP b6, dP b7]] 239, .lp b5 .ready none [26] rfA58_0 rfB58_0 [(17, (dP b12)), (16, (dP b11)), (15, (dP b10)), (14, (dP b9)), (13, (dP b8))] 39, .var b6 [dP b13] 39, .var b7 [.sl 1 (lB a3)] 25, .var b8 [dN s9.2.1, dN s9.2.2.1] 202, .var b9 [dN s9.2.2.2.1, dN s9.2.2.2.2.1] 202, .var b10 [dT s9.2.2.2.2.2.1] 4, .var b11 [dT s9.2.2.2.2.2.2.1] 4, .var b12 [dN a10, dN a11] 202, .var b13 [.val v14] 142, .row v14 (lB a12) 1 5, .var (blk p2) [.val y8] 272, .row y8 (List.map e_wFr s9.2.2.2.2.2.2.2) 3 278], 62⟩ ∧ iter (walk_Range_row_Row_1_4.l1 a1 a3 a10 a11 a12) n s9 = some t6) n10 ?_ ?_
 · exact ⟨_, Gst.only [0, 2, 5, 6] rfl, (vn (env3 3) 0), (a0, a4, a5, a6, a7, a8, a9, x5), rfl, n15⟩
 rintro n10 _ ⟨_, g, y8, s9, rfl, i14⟩
 refine T.ghost g ?_
 obtain ⟨m11, q12, rfl, q13, i14⟩ := iter_succ i14
 unfold walk_Range_row_Row_1_4.l1 at q13
 refine T.seq ?_
 refine aS ?_
 refine aA rfl rfl ?_
 refine TL.op1 (OpR.loadPtr 2 rfl rfl rfl rfl) rfl ?_
 refine aA rfl rfl ?_
 refine aN rfl ?_
 rcases ite_some q13 with ⟨c17, q13⟩ | ⟨c17, q13⟩
 rotate_left
 · refine T.condF rfl (eF c17) ?_
   refine T.exit ?_
   obtain rfl := osi q13
   obtain rfl : _ = _ := i14
   exact ⟨_, gP [] [0, 1, 2, 3, 4, 5, 6, 7, 8, 9, 10, 11, 12, 13, 14] rfl rfl rfl, _, rfl, rfl⟩
 refine T.condT rfl (eT c17) ?_
 refine aK rfl ?_
 refine T.seq ?_
 refine T.block ?_
 refine T.seq ?_
 refine aS ?_
 obtain ⟨x18, hx18, q13⟩ := bS q13
 refine TL.op1 (OpR.call [15, 16] fn197 (walk_stack_row_Row_top_c hx18) rfl rfl rfl (fun _ => rfl)) rfl ?_
 refine aA rfl rfl ?_
 refine aN rfl ?_
 refine T.seq ?_
 obtain ⟨x19, hx19, q13⟩ := bS q13
 obtain ⟨q20, hq20, q13⟩ := bS q13
 rcases q20 with _ | z21
 · dsimp only at q13
   exact (by cases q13)
 dsimp only at q13
 obtain ⟨x23, hx23, q13⟩ := bS q13
 rw [o_tNd_eq hx23] at hq20
 refine T.drawQ drawsX [.val (.pointer (some ⟨blk y8, x18.toNat * 3, none⟩)), .val (.pointer (some ⟨blk y8, x18.toNat * 3, none⟩)), .val (.pointer (some ⟨blk y8, x18.toNat * 3 + 2, none⟩)), dN x19.fNext, .val (.pointer (some ⟨blk y8, x18.toNat * 3, none⟩)), .val (.pointer (some ⟨blk y8, x18.toNat * 3, none⟩)), .val (.pointer (some ⟨blk y8, x18.toNat * 3, none⟩)), .nod [.sl 1 (List.map eNP x23.fKids), .sl 3 (List.map e_row_Row x23.fItems), dN x23.fN], .nod [.sl 1 (List.map eNP x23.fKids), .sl 3 (List.map e_row_Row x23.fItems), dN x23.fN], .nod [.sl 3 (List.map e_row_Row x23.fItems), dN x23.fN], .sl 3 (List.map e_row_Row x23.fItems), dN (x23.fItems.length : Int), dT (x19.fNext == (x23.fItems.length : Int))] [0, 2, 5, 6, 35] (by decide +kernel) rfl ?_ rfl ?_
 · iterate 3 refine aB rfl rfl rfl ?_
   refine OpsQ.yes (Want.plain rfl) rfl (OpR.rowLoadM (j := x18) e_wFr 16 hx19 rfl rfl rfl rfl) ?_
   iterate 3 refine aB rfl rfl rfl ?_
   refine OpsQ.yes (Want.plain rfl) rfl (OpR.cast (OpR.rowLoad0M (j := x18) e_wFr 16 hx19 rfl rfl rfl rfl) (congrArg eOP (osi hq20))) ?_
   iterate 3 refine aB rfl rfl rfl ?_
   refine OpsQ.yes (Want.plain rfl) rfl (OpR.cast (OpR.pure rfl) (intE (lenM _ _))) ?_
   refine aB rfl rfl rfl ?_
   exact OpsQ.nil
 show T X _ _ _
 obtain ⟨t25, ht25, q13⟩ := bS q13
 refine T.cutC (fun S' => ∃ y26 : Value, S' = ⟨[(6, (dN s9.1)), (5, (dP (blk p2))), (2, (dP b2)), (0, .fn (.yield b0) [] [])], [.lp b0 .ready none [13, 14] rfA160_0 rfB160_0 [(3, .nod [.fn (.yield b5) [] []]), (2, (dP b4))] 40, .var b1 [dN a0] 3, .var b2 [dN a1] 3, .var b3 [(eOP a2)] 118, .var b4 [.fn (.func 159) [] [dP b6, dP b7]] 239, .lp b5 .ready none [26] rfA58_0 rfB58_0 [(17, (dP b12)), (16, (dP b11)), (15, (dP b10)), (14, (dP b9)), (13, (dP b8))] 39, .var b6 [dP b13] 39, .var b7 [.sl 1 (lB a3)] 25, .var b8 [dN s9.2.1, dN s9.2.2.1] 202, .var b9 [dN s9.2.2.2.1, dN s9.2.2.2.2.1] 202, .var b10 [dT s9.2.2.2.2.2.1] 4, .var b11 [dT s9.2.2.2.2.2.2.1] 4, .var b12 [dN a10, dN a11] 202, .var b13 [.val v14] 142, .row v14 (lB a12) 1 5, .var (blk p2) [.val y26] 272, .row y26 (List.map e_wFr t25) 3 278], 62⟩) (fun _ h => h) ?_ ?_
 · rcases ite_some ht25 with ⟨c27, ht25⟩ | ⟨c27, ht25⟩
   rotate_left
   · refine T.condF rfl (beq_eq_false_iff_ne.2 c27) ?_
     refine T.skip ?_
     obtain rfl := osi ht25
     exact ⟨_, Gst.only [0, 2, 5, 6] rfl, y8, rfl⟩
   refine T.condT rfl (beq_iff_eq.2 c27) ?_
   refine T.region ?_
   obtain ⟨x28, hx28, ht25⟩ := bS ht25
   refine TL.op (OpR.call [15, 16] fn198 (walk_stack_row_Row_forth_c hx28) rfl rfl rfl (fun _ => rfl)) rfl (fun w29 => ?_)
   refine TL.nil ?_
   obtain rfl := osi ht25
   exact ⟨_, Gst.only [0, 2, 5, 6] rfl, (vn w29 0), rfl⟩
 rintro _ ⟨y26, rfl⟩
 show T X _ _ _
 refine aS ?_
 obtain ⟨x30, hx30, q13⟩ := bS q13
 refine TL.op1 (OpR.call [15, 16] fn197 (walk_stack_row_Row_top_c hx30) rfl rfl rfl (fun _ => rfl)) rfl ?_
 refine aA rfl rfl ?_
 refine aN rfl ?_
 refine T.seq ?_
 refine T.seq ?_
 obtain ⟨x31, hx31, q13⟩ := bS q13
 obtain ⟨q32, hq32, q13⟩ := bS q13
 rcases q32 with _ | z33
 · dsimp only at q13
   exact (by cases q13)
 dsimp only at q13
 obtain ⟨x35, hx35, q13⟩ := bS q13
 rw [o_tNd_eq hx35] at hq32
 obtain ⟨x37, hx37, q13⟩ := bS q13
 obtain ⟨x38, hx38, q13⟩ := bS q13
 rcases x38 with x38 | x38
 · dsimp only at q13
   refine T.drawS drawsX (fun env36 => [.fn (.yield b0) [] [], dN s9.1, .val (.pointer (some ⟨blk y26, x30.toNat * 3, none⟩)), .val (.pointer (some ⟨blk y26, x30.toNat * 3, none⟩)), .val (.pointer (some ⟨blk y26, x30.toNat * 3, none⟩)), .nod [.sl 1 (List.map eNP x35.fKids), .sl 3 (List.map e_row_Row x35.fItems), dN x35.fN], .nod [.sl 1 (List.map eNP x35.fKids), .sl 3 (List.map e_row_Row x35.fItems), dN x35.fN], .nod [.sl 3 (List.map e_row_Row x35.fItems), dN x35.fN], .sl 3 (List.map e_row_Row x35.fItems), .val (.pointer (some ⟨blk y26, x30.toNat * 3, none⟩)), .val (.pointer (some ⟨blk y26, x30.toNat * 3, none⟩)), .val (.pointer (some ⟨blk y26, x30.toNat * 3 + 2, none⟩)), dN x31.fNext, .nod [.sl 5 (List.map e_cell_Cell x37.fCells), dN x37.fEnd, dT x37.fHidden], .agg [.sl 5 (List.map e_cell_Cell x37.fCells), dN x37.fEnd, dT x37.fHidden], dT false, dT true]) (fun D env36 => [(bif D 15 then .lp b0 .done (some (.ret)) [13, 14] rfA160_0 rfB160_0 [(3, .nod [.fn (.yield b5) [] []]), (2, (dP b4))] 40 else .lp b0 .ready none [13, 14] rfA160_0 rfB160_0 [(3, .nod [.fn (.yield b5) [] []]), (2, (dP b4))] 40), .var b1 [dN a0] 3, .var b2 [dN a1] 3, .var b3 [(eOP a2)] 118, .var b4 [.fn (.func 159) [] [dP b6, dP b7]] 239, .lp b5 .ready none [26] rfA58_0 rfB58_0 [(17, (dP b12)), (16, (dP b11)), (15, (dP b10)), (14, (dP b9)), (13, (dP b8))] 39, .var b6 [dP b13] 39, .var b7 [.sl 1 (lB a3)] 25, (bif D 15 then .var b8 [dN x38.1, dN x38.2.1] 202 else .var b8 [dN s9.2.1, dN s9.2.2.1] 202), (bif D 15 then .var b9 [dN x38.2.2.1, dN x38.2.2.2.1] 202 else .var b9 [dN s9.2.2.2.1, dN s9.2.2.2.2.1] 202), (bif D 15 then .var b10 [dT x38.2.2.2.2.1] 4 else .var b10 [dT s9.2.2.2.2.2.1] 4), (bif D 15 then .var b11 [dT x38.2.2.2.2.2] 4 else .var b11 [dT s9.2.2.2.2.2.2.1] 4), .var b12 [dN a10, dN a11] 202, .var b13 [.val v14] 142, .row v14 (lB a12) 1 5, .var (blk p2) [.val y26] 272, .row y26 (List.map e_wFr t25) 3 278]) [0, 0, 0, 4, 12, 28, 60, 124, 252, 0, 512, 1536, 3584, 8188, 16380, 32767, 65535] [0, 2, 5, 6, 8, 54] _ (by decide +kernel) (by decide +kernel) (fun _ => rfl) (fun _ => rfl) ?_ (fun _ => rfl) (fun _ => rfl) ?_
   rotate_left
   · intro env36
     show T X _ _ _
     refine T.condT rfl rfl ?_
     refine T.ret ?_
     obtain rfl := osi q13
     obtain rfl : _ = _ := i14
     obtain rfl := osi h0
     exact rP [0, 1, 2, 3, 4, 5, 6, 7, 8, 9, 10, 11, 12, 13, 14] [] [0, 1, 2, 3, 4, 5, 6, 7, 8, 9, 10, 11, 12, 13, 14] rfl rfl rfl undef ResL.nil rfl rfl rfl rfl
   iterate 5 refine aC ?_
   refine oT (.nod [.sl 1 (List.map eNP x35.fKids), .sl 3 (List.map e_row_Row x35.fItems), dN x35.fN]) (fun _ _ => OpR.cast (OpR.rowLoad0M (j := x30) e_wFr 16 hx31 rfl rfl rfl rfl) (congrArg eOP (osi hq32))) ?_
   iterate 6 refine aC ?_
   refine oT ((dN x31.fNext)) (fun _ _ => OpR.rowLoadM (j := x30) e_wFr 16 hx31 rfl rfl rfl rfl) ?_
   refine oT (.nod [.sl 5 (List.map e_cell_Cell x37.fCells), dN x37.fEnd, dT x37.fHidden]) (fun _ _ => OpR.indexM e_row_Row hx37 rfl rfl rfl rfl rfl) ?_
   refine aC ?_
   refine OpsS.cons' true ?_ (fun _ _ _ _ _ _ _ => rfl) ?_
   · intro D env36 hA
     exact OpS.yp [(15, false)] ⟨hA.me, trivial⟩ (Want.plain rfl) (OpR.callY [0, 4, 5, 6, 7, 8, 9, 10, 11, 12, 13, 14] rfl (find_having_2_r0_4_cx1 hx38) rfl rfl rfl (fun _ => rfl)) (fun x => rfl) (fun x => rfl)
   refine aC ?_
   exact trivial
 dsimp only at q13
 refine T.drawS drawsX (fun env36 => [.fn (.yield b0) [] [], dN s9.1, .val (.pointer (some ⟨blk y26, x30.toNat * 3, none⟩)), .val (.pointer (some ⟨blk y26, x30.toNat * 3, none⟩)), .val (.pointer (some ⟨blk y26, x30.toNat * 3, none⟩)), .nod [.sl 1 (List.map eNP x35.fKids), .sl 3 (List.map e_row_Row x35.fItems), dN x35.fN], .nod [.sl 1 (List.map eNP x35.fKids), .sl 3 (List.map e_row_Row x35.fItems), dN x35.fN], .nod [.sl 3 (List.map e_row_Row x35.fItems), dN x35.fN], .sl 3 (List.map e_row_Row x35.fItems), .val (.pointer (some ⟨blk y26, x30.toNat * 3, none⟩)), .val (.pointer (some ⟨blk y26, x30.toNat * 3, none⟩)), .val (.pointer (some ⟨blk y26, x30.toNat * 3 + 2, none⟩)), dN x31.fNext, .nod [.sl 5 (List.map e_cell_Cell x37.fCells), dN x37.fEnd, dT x37.fHidden], .agg [.sl 5 (List.map e_cell_Cell x37.fCells), dN x37.fEnd, dT x37.fHidden], dT true, dT false]) (fun D env36 => [.lp b0 .ready none [13, 14] rfA160_0 rfB160_0 [(3, .nod [.fn (.yield b5) [] []]), (2, (dP b4))] 40, .var b1 [dN a0] 3, .var b2 [dN a1] 3, .var b3 [(eOP a2)] 118, .var b4 [.fn (.func 159) [] [dP b6, dP b7]] 239, .lp b5 .ready none [26] rfA58_0 rfB58_0 [(17, (dP b12)), (16, (dP b11)), (15, (dP b10)), (14, (dP b9)), (13, (dP b8))] 39, .var b6 [dP b13] 39, .var b7 [.sl 1 (lB a3)] 25, (bif D 15 then .var b8 [dN x38.1, dN x38.2.1] 202 else .var b8 [dN s9.2.1, dN s9.2.2.1] 202), (bif D 15 then .var b9 [dN x38.2.2.1, dN x38.2.2.2.1] 202 else .var b9 [dN s9.2.2.2.1, dN s9.2.2.2.2.1] 202), (bif D 15 then .var b10 [dT x38.2.2.2.2.1] 4 else .var b10 [dT s9.2.2.2.2.2.1] 4), (bif D 15 then .var b11 [dT x38.2.2.2.2.2] 4 else .var b11 [dT s9.2.2.2.2.2.2.1] 4), .var b12 [dN a10, dN a11] 202, .var b13 [.val v14] 142, .row v14 (lB a12) 1 5, .var (blk p2) [.val y26] 272, .row y26 (List.map e_wFr t25) 3 278]) [0, 0, 0, 4, 12, 28, 60, 124, 252, 0, 512, 1536, 3584, 8188, 16380, 32767, 65535] [0, 2, 5, 6, 8, 54] _ (by decide +kernel) (by decide +kernel) (fun _ => rfl) (fun _ => rfl) ?_ (fun _ => rfl) (fun _ => rfl) ?_
 rotate_left
 · intro env36
   show T X _ _ _
   refine T.condF rfl rfl ?_
   refine aK rfl ?_
   refine T.region ?_
   iterate 3 refine aA rfl rfl ?_
   refine TL.op1 (OpR.rowLoadM (j := x30) e_wFr 16 hx31 rfl rfl rfl rfl) rfl ?_
   iterate 3 refine aA rfl rfl ?_
   refine TL.op0 (OpR.rowStoreM (j := x30) e_wFr (⟨x31.fN, x31.fFirst, w64 (x31.fNext + 1)⟩ : wFr) 16 hx31 rfl rfl rfl rfl rfl rfl rfl rfl rfl) ?_
   refine aN rfl ?_
   refine T.region ?_
   iterate 3 refine aA rfl rfl ?_
   refine TL.nil ?_
   obtain rfl := osi q13
   exact ⟨m11, Nat.lt_succ_self _, _, Gst.only [0, 2, 5, 6] rfl, y26, (w64 (s9.1 + 1), x38.1, x38.2.1, x38.2.2.1, x38.2.2.2.1, x38.2.2.2.2.1, x38.2.2.2.2.2, (t25.set x30.toNat (⟨x31.fN, x31.fFirst, w64 (x31.fNext + 1)⟩ : wFr))), rfl, i14⟩
 iterate 5 refine aC ?_
 refine oT (.nod [.sl 1 (List.map eNP x35.fKids), .sl 3 (List.map e_row_Row x35.fItems), dN x35.fN]) (fun _ _ => OpR.cast (OpR.rowLoad0M (j := x30) e_wFr 16 hx31 rfl rfl rfl rfl) (congrArg eOP (osi hq32))) ?_
 iterate 6 refine aC ?_
 refine oT ((dN x31.fNext)) (fun _ _ => OpR.rowLoadM (j := x30) e_wFr 16 hx31 rfl rfl rfl rfl) ?_
 refine oT (.nod [.sl 5 (List.map e_cell_Cell x37.fCells), dN x37.fEnd, dT x37.fHidden]) (fun _ _ => OpR.indexM e_row_Row hx37 rfl rfl rfl rfl rfl) ?_
 refine aC ?_
 refine OpsS.cons' true ?_ (fun _ _ _ _ _ _ _ => rfl) ?_
 · intro D env36 hA
   exact OpS.yp [(15, false)] ⟨hA.me, trivial⟩ (Want.plain rfl) (OpR.callY [0, 4, 5, 6, 7, 8, 9, 10, 11, 12, 13, 14] rfl (find_having_2_r0_4_cx2 hx38) rfl rfl rfl (fun _ => rfl)) (fun x => rfl) (fun x => rfl)
 refine aC ?_
 exact trivial
theorem walk_Range_row_Row_1_4_cx1 {a0 : Int} {a1 : Int} {a2 : Option NP} {a3 : List UInt8} {a4 : Int} {a5 : Int} {a6 : Int} {a7 : Int} {a8 : Bool} {a9 : Bool} {a10 : Int} {a11 : Int} {a12 : List UInt8} {b0 : Nat} {b1 : Nat} {b2 : Nat} {b3 : Nat} {b4 : Nat} {b5 : Nat} {b6 : Nat} {b7 : Nat} {b8 : Nat} {b9 : Nat} {b10 : Nat} {b11 : Nat} {b12 : Nat} {b13 : Nat} {v14 : Value} {res : Int × Int × Int × Int × Bool × Bool} (h0 : walk_Range_row_Row_1_4 a0 a1 a2 a3 a4 a5 a6 a7 a8 a9 a10 a11 a12 = some (Sum.inl res)) : CallF X 194 [.fn (.yield b0) [] [], dP b1, dP b2, dP b3] [.lp b0 .ready none [13, 14] rfA160_0 rfB160_0 [(3, .nod [.fn (.yield b5) [] []]), (2, (dP b4))] 40, .var b1 [dN a0] 3, .var b2 [dN a1] 3, .var b3 [(eOP a2)] 118, .var b4 [.fn (.func 159) [] [dP b6, dP b7]] 239, .lp b5 .ready none [26] rfA58_0 rfB58_0 [(17, (dP b12)), (16, (dP b11)), (15, (dP b10)), (14, (dP b9)), (13, (dP b8))] 39, .var b6 [dP b13] 39, .var b7 [.sl 1 (lB a3)] 25, .var b8 [dN a4, dN a5] 202, .var b9 [dN a6, dN a7] 202, .var b10 [dT a8] 4, .var b11 [dT a9] 4, .var b12 [dN a10, dN a11] 202, .var b13 [.val v14] 142, .row v14 (lB a12) 1 5] (fun x => .tup []) (fun x => [.lp b0 .ready none [13, 14] rfA160_0 rfB160_0 [(3, .nod [.fn (.yield b5) [] []]), (2, (dP b4))] 40, .var b1 [dN a0] 3, .var b2 [dN a1] 3, .var b3 [(eOP a2)] 118, .var b4 [.fn (.func 159) [] [dP b6, dP b7]] 239, .lp b5 .ready none [26] rfA58_0 rfB58_0 [(17, (dP b12)), (16, (dP b11)), (15, (dP b10)), (14, (dP b9)), (13, (dP b8))] 39, .var b6 [dP b13] 39, .var b7 [.sl 1 (lB a3)] 25, .var b8 [dN res.1, dN res.2.1] 202, .var b9 [dN res.2.2.1, dN res.2.2.2.1] 202, .var b10 [dT res.2.2.2.2.1] 4, .var b11 [dT res.2.2.2.2.2] 4, .var b12 [dN a10, dN a11] 202, .var b13 [.val v14] 142, .row v14 (lB a12) 1 5]) := walk_Range_row_Row_1_4_c h0
theorem walk_Range_row_Row_1_4_cx2 {a0 : Int} {a1 : Int} {a2 : Option NP} {a3 : List UInt8} {a4 : Int} {a5 : Int} {a6 : Int} {a7 : Int} {a8 : Bool} {a9 : Bool} {a10 : Int} {a11 : Int} {a12 : List UInt8} {b0 : Nat} {b1 : Nat} {b2 : Nat} {b3 : Nat} {b4 : Nat} {b5 : Nat} {b6 : Nat} {b7 : Nat} {b8 : Nat} {b9 : Nat} {b10 : Nat} {b11 : Nat} {b12 : Nat} {b13 : Nat} {v14 : Value} {res : Int × Int × Int × Int × Bool × Bool} (h0 : walk_Range_row_Row_1_4 a0 a1 a2 a3 a4 a5 a6 a7 a8 a9 a10 a11 a12 = some (Sum.inr res)) : CallF X 194 [.fn (.yield b0) [] [], dP b1, dP b2, dP b3] [.lp b0 .ready none [13, 14] rfA160_0 rfB160_0 [(3, .nod [.fn (.yield b5) [] []]), (2, (dP b4))] 40, .var b1 [dN a0] 3, .var b2 [dN a1] 3, .var b3 [(eOP a2)] 118, .var b4 [.fn (.func 159) [] [dP b6, dP b7]] 239, .lp b5 .ready none [26] rfA58_0 rfB58_0 [(17, (dP b12)), (16, (dP b11)), (15, (dP b10)), (14, (dP b9)), (13, (dP b8))] 39, .var b6 [dP b13] 39, .var b7 [.sl 1 (lB a3)] 25, .var b8 [dN a4, dN a5] 202, .var b9 [dN a6, dN a7] 202, .var b10 [dT a8] 4, .var b11 [dT a9] 4, .var b12 [dN a10, dN a11] 202, .var b13 [.val v14] 142, .row v14 (lB a12) 1 5] (fun x => .tup []) (fun x => [.lp b0 .done (some (.ret)) [13, 14] rfA160_0 rfB160_0 [(3, .nod [.fn (.yield b5) [] []]), (2, (dP b4))] 40, .var b1 [dN a0] 3, .var b2 [dN a1] 3, .var b3 [(eOP a2)] 118, .var b4 [.fn (.func 159) [] [dP b6, dP b7]] 239, .lp b5 .ready none [26] rfA58_0 rfB58_0 [(17, (dP b12)), (16, (dP b11)), (15, (dP b10)), (14, (dP b9)), (13, (dP b8))] 39, .var b6 [dP b13] 39, .var b7 [.sl 1 (lB a3)] 25, .var b8 [dN res.1, dN res.2.1] 202, .var b9 [dN res.2.2.1, dN res.2.2.2.1] 202, .var b10 [dT res.2.2.2.2.1] 4, .var b11 [dT res.2.2.2.2.2] 4, .var b12 [dN a10, dN a11] 202, .var b13 [.val v14] 142, .row v14 (lB a12) 1 5]) := walk_Range_row_Row_1_4_c h0
noncomputable def find_having_2_4 (a0 : Option NP) (a1 : Bool) (a2 : Int) (a3 : Int) (a4 : Int) (a5 : Int) (a6 : Int) (a7 : Bool) (a8 : Bool) (a9 : Int) (a10 : Int) (a11 : List UInt8) (a12 : List UInt8) : Option (Int × Int × Int × Int × Bool × Bool) :=
  bnd (grid_Grid_Len (⟨(⟨a0⟩ : tTr), a1, a2⟩ : grid_Grid)) fun x2 =>
  bnd (walk_Range_row_Row (⟨a0⟩ : tTr) 0 x2) fun x3 =>
  bnd (walk_Range_row_Row_1_4 x3.1 x3.2.1 x3.2.2 a11 a3 a4 a5 a6 a7 a8 a9 a10 a12) fun x5 =>
  match x5 with
  | .inl x5 =>
      some (x5.1, x5.2.1, x5.2.2.1, x5.2.2.2.1, x5.2.2.2.2.1, x5.2.2.2.2.2)
  | .inr x5 =>
      some (x5.1, x5.2.1, x5.2.2.1, x5.2.2.2.1, x5.2.2.2.2.1, x5.2.2.2.2.2)
theorem find_having_2_4_c {a0 : Option NP} {a1 : Bool} {a2 : Int} {a3 : Int} {a4 : Int} {a5 : Int} {a6 : Int} {a7 : Bool} {a8 : Bool} {a9 : Int} {a10 : Int} {a11 : List UInt8} {a12 : List UInt8} {b0 : Nat} {b1 : Nat} {b2 : Nat} {b3 : Nat} {b4 : Nat} {b5 : Nat} {b6 : Nat} {b7 : Nat} {b8 : Nat} {b9 : Nat} {b10 : Nat} {v11 : Value} {res : Int × Int × Int × Int × Bool × Bool} (h0 : find_having_2_4 a0 a1 a2 a3 a4 a5 a6 a7 a8 a9 a10 a11 a12 = some res) : CallF X 160 [.fn (.yield b0) [] [], dP b1, dP b2] [.lp b0 .ready none [26] rfA58_0 rfB58_0 [(17, (dP b7)), (16, (dP b6)), (15, (dP b5)), (14, (dP b4)), (13, (dP b3))] 39, .var b1 [(eOP a0), dT a1, dN a2] 120, .var b2 [.fn (.func 159) [] [dP b8, dP b9]] 239, .var b3 [dN a3, dN a4] 202, .var b4 [dN a5, dN a6] 202, .var b5 [dT a7] 4, .var b6 [dT a8] 4, .var b7 [dN a9, dN a10] 202, .var b8 [dP b10] 39, .var b9 [.sl 1 (lB a11)] 25, .var b10 [.val v11] 142, .row v11 (lB a12) 1 5] (fun x => .tup []) (fun x => [.lp b0 .ready none [26] rfA58_0 rfB58_0 [(17, (dP b7)), (16, (dP b6)), (15, (dP b5)), (14, (dP b4)), (13, (dP b3))] 39, .var b1 [(eOP a0), dT a1, dN a2] 120, .var b2 [.fn (.func 159) [] [dP b8, dP b9]] 239, .var b3 [dN res.1, dN res.2.1] 202, .var b4 [dN res.2.2.1, dN res.2.2.2.1] 202, .var b5 [dT res.2.2.2.2.1] 4, .var b6 [dT res.2.2.2.2.2] 4, .var b7 [dN a9, dN a10] 202, .var b8 [dP b10] 39, .var b9 [.sl 1 (lB a11)] 25, .var b10 [.val v11] 142, .row v11 (lB a12) 1 5]) := by
 unfold find_having_2_4 at h0
 refine CallF.mkG (X := X) rfl Try.func160 rfl rfl Try.ntmps160 rfl rfl ?_
 refine aS ?_
 refine TL.op1 (OpR.boxImm rfl rfl) rfl ?_
 refine aN rfl ?_
 refine T.seq ?_
 obtain ⟨x2, hx2, h0⟩ := bS h0
 obtain ⟨x3, hx3, h0⟩ := bS h0
 refine T.drawS drawsX (fun env1 => [dP b1, .agg [(eOP a0)], .agg [(eOP a0), dT a1, dN a2], dN x2, .fn (.func 194) [] [dP (blk (vn (env1 4) 0)), dP (blk (vn (env1 4) 1)), dP (blk (vn (env1 4) 2))]]) (fun D env1 => [.lp b0 .ready none [26] rfA58_0 rfB58_0 [(17, (dP b7)), (16, (dP b6)), (15, (dP b5)), (14, (dP b4)), (13, (dP b3))] 39, .var b1 [(eOP a0), dT a1, dN a2] 120, .var b2 [.fn (.func 159) [] [dP b8, dP b9]] 239, .var b3 [dN a3, dN a4] 202, .var b4 [dN a5, dN a6] 202, .var b5 [dT a7] 4, .var b6 [dT a8] 4, .var b7 [dN a9, dN a10] 202, .var b8 [dP b10] 39, .var b9 [.sl 1 (lB a11)] 25, .var b10 [.val v11] 142, .row v11 (lB a12) 1 5] ++ (bif D 4 then [.var (blk (vn (env1 4) 0)) [dN x3.1] 3] else []) ++ (bif D 4 then [.var (blk (vn (env1 4) 1)) [dN x3.2.1] 3] else []) ++ (bif D 4 then [.var (blk (vn (env1 4) 2)) [(eOP x3.2.2)] 118] else [])) [0, 1, 0, 4, 15] [2, 3, 12] _ (by decide +kernel) (by decide +kernel) (fun _ => rfl) (fun _ => rfl) ?_ (fun _ => rfl) (fun _ => rfl) ?_
 · refine aC ?_
   refine oT (.agg [(eOP a0)]) (fun _ _ => OpR.loadPtr 1 rfl rfl rfl rfl) ?_
   refine oT (.agg [(eOP a0), dT a1, dN a2]) (fun _ _ => OpR.loadPtr 1 rfl rfl rfl rfl) ?_
   refine oT ((dN x2)) (fun _ _ => OpR.call0 fn104 (grid_Grid_Len_c hx2) rfl) ?_
   refine OpsS.cons' true ?_ (fun D hA env1 x j hj hD => match j, hj, hD with | 0, _, _ => rfl | 1, _, _ => rfl | 2, _, _ => rfl | 3, _, _ => rfl | 4, hj, _ => absurd rfl hj | _ + 5, _, _ => rfl) ?_
   · intro D env1 hA
     exact OpS.yp [(4, false)] ⟨hA.me, trivial⟩ (Want.plain rfl) (OpR.call [] fn161 (walk_Range_row_Row_c hx3) rfl rfl rfl (fun _ => rfl)) (fun x => rfl) (fun x => rfl)
   exact trivial
 intro env1
 show T X _ _ _
 refine T.block ?_
 obtain ⟨x5, hx5, h0⟩ := bS h0
 rcases x5 with x5 | x5
 · dsimp only at h0
   refine T.rangeN (A := rfA160_0) (B := rfB160_0) (ow1 := fun w6 => [.lp b0 .ready none [26] rfA58_0 rfB58_0 [(17, (dP b7)), (16, (dP b6)), (15, (dP b5)), (14, (dP b4)), (13, (dP b3))] 39, .var b1 [(eOP a0), dT a1, dN a2] 120, .var b2 [.fn (.func 159) [] [dP b8, dP b9]] 239, .var b3 [dN x5.1, dN x5.2.1] 202, .var b4 [dN x5.2.2.1, dN x5.2.2.2.1] 202, .var b5 [dT x5.2.2.2.2.1] 4, .var b6 [dT x5.2.2.2.2.2] 4, .var b7 [dN a9, dN a10] 202, .var b8 [dP b10] 39, .var b9 [.sl 1 (lB a11)] 25, .var b10 [.val v11] 142, .row v11 (lB a12) 1 5, .var (blk (vn (env1 4) 0)) [dN x3.1] 3, .var (blk (vn (env1 4) 1)) [dN x3.2.1] 3, .var (blk (vn (env1 4) 2)) [(eOP x3.2.2)] 118]) [2, 3] [12, 13, 14, 2, 0, 8, 9, 3, 4, 5, 6, 7, 10, 11] (.inl rfl) rfl rfl rfl rfl rfl fn194 rfl rfl (fun l4 => (walk_Range_row_Row_1_4_cx1 hx5)) (fun _ => by kernel_rfl) (fun w6 => ?_)
   obtain rfl := osi h0
   exact PostG.finP (ks := [0, 1, 2, 3, 4, 5, 6, 7, 8, 9, 10, 11]) (gP [] [0, 1, 2, 3, 4, 5, 6, 7, 8, 9, 10, 11] rfl rfl rfl) undef ResL.nil rfl rfl rfl rfl
 dsimp only at h0
 refine T.rangeJ (A := rfA160_0) (B := rfB160_0) (ow1 := fun w7 => [.lp b0 .ready none [26] rfA58_0 rfB58_0 [(17, (dP b7)), (16, (dP b6)), (15, (dP b5)), (14, (dP b4)), (13, (dP b3))] 39, .var b1 [(eOP a0), dT a1, dN a2] 120, .var b2 [.fn (.func 159) [] [dP b8, dP b9]] 239, .var b3 [dN x5.1, dN x5.2.1] 202, .var b4 [dN x5.2.2.1, dN x5.2.2.2.1] 202, .var b5 [dT x5.2.2.2.2.1] 4, .var b6 [dT x5.2.2.2.2.2] 4, .var b7 [dN a9, dN a10] 202, .var b8 [dP b10] 39, .var b9 [.sl 1 (lB a11)] 25, .var b10 [.val v11] 142, .row v11 (lB a12) 1 5, .var (blk (vn (env1 4) 0)) [dN x3.1] 3, .var (blk (vn (env1 4) 1)) [dN x3.2.1] 3, .var (blk (vn (env1 4) 2)) [(eOP x3.2.2)] 118]) (.ret) [2, 3] [12, 13, 14, 2, 0, 8, 9, 3, 4, 5, 6, 7, 10, 11] (.inl rfl) rfl rfl rfl rfl rfl fn194 rfl rfl (fun l4 => (walk_Range_row_Row_1_4_cx2 hx5)) (fun _ => by kernel_rfl) (fun w7 => ?_)
 refine T.ret ?_
 obtain rfl := osi h0
 exact rP [0, 1, 2, 3, 4, 5, 6, 7, 8, 9, 10, 11] [] [0, 1, 2, 3, 4, 5, 6, 7, 8, 9, 10, 11] rfl rfl rfl undef ResL.nil rfl rfl rfl rfl
noncomputable def find_Prev (a0 : grid_Grid) (a1 : List UInt8) (a2 : Int) (a3 : Int) (a4 : List UInt8) : Option (Int × Int × Bool) :=
  bnd (find_having a0 a1 a4) fun x6 =>
  bnd (find_having_2_4 x6.1 x6.2.1 x6.2.2.1 0 0 0 0 false false a2 a3 x6.2.2.2 a4) fun x9 =>
  bnd (if x9.2.2.2.2.1 = true then
    some (x9.1, x9.2.1)
  else
    some (x9.2.2.1, x9.2.2.2.1) : Option (Int × Int)) fun t11 =>
  some (t11.1, t11.2, x9.2.2.2.2.2)
theorem find_Prev_c {a0 : grid_Grid} {a1 : List UInt8} {a2 : Int} {a3 : Int} {a4 : List UInt8} {b0 : Nat} {v1 : Value} {res : Int × Int × Bool} (h0 : find_Prev a0 a1 a2 a3 a4 = some res) : CallF X 58 [.agg [(eOP a0.fRows.fRoot), dT a0.fTail, dN a0.fEnd], dP b0, .sl 1 (lB a1), dN a2, dN a3] [.var b0 [.val v1] 142, .row v1 (lB a4) 1 5] (fun x => .tup [dN res.1, dN res.2.1, dT res.2.2]) (fun x => [.var b0 [.val v1] 142, .row v1 (lB a4) 1 5]) := by
 unfold find_Prev at h0
 refine CallF.mkG (X := X) rfl Try.func58 rfl rfl Try.ntmps58 rfl rfl ?_
 refine aS ?_
 refine TL.op1 (OpR.boxImm rfl rfl) rfl ?_
 iterate 3 refine aA rfl rfl ?_
 refine aN rfl ?_
 refine aS ?_
 refine TL.op (OpR.alloc rfl rfl (fun _ => rfl)) rfl (fun p1 => ?_)
 refine TL.op (OpR.alloc rfl rfl (fun _ => rfl)) rfl (fun p2 => ?_)
 refine aN rfl ?_
 refine aS ?_
 refine TL.op (OpR.alloc rfl rfl (fun _ => rfl)) rfl (fun p3 => ?_)
 refine TL.op (OpR.alloc rfl rfl (fun _ => rfl)) rfl (fun p4 => ?_)
 refine TL.op0 (OpR.store 4 rfl rfl rfl rfl rfl rfl rfl rfl) ?_
 refine TL.op0 (OpR.store 5 rfl rfl rfl rfl rfl rfl rfl rfl) ?_
 refine aN rfl ?_
 refine aS ?_
 iterate 2 refine aA rfl rfl ?_
 refine TL.op1 (OpR.build rfl rfl rfl rfl rfl) rfl ?_
 refine TL.op (OpR.alloc rfl rfl (fun _ => rfl)) rfl (fun p5 => ?_)
 refine TL.op0 (OpR.store 6 rfl rfl rfl rfl rfl rfl rfl rfl) ?_
 refine aN rfl ?_
 refine T.seq ?_
 refine aS ?_
 iterate 3 refine aA rfl rfl ?_
 obtain ⟨x6, hx6, h0⟩ := bS h0
 refine TL.op (OpR.call [0, 1] fn108 (find_having_c hx6) rfl rfl rfl (fun _ => rfl)) rfl (fun w7 => ?_)
 refine aN rfl ?_
 refine T.block ?_
 obtain ⟨x9, hx9, h0⟩ := bS h0
 refine T.rangeN (A := rfA58_0) (B := rfB58_0) (ow1 := fun w10 => [.var b0 [.val v1] 142, .row v1 (lB a4) 1 5, .var (blk p1) [dN x9.1, dN x9.2.1] 202, .var (blk p2) [dN x9.2.2.1, dN x9.2.2.2.1] 202, .var (blk p3) [dT x9.2.2.2.2.1] 4, .var (blk p4) [dT x9.2.2.2.2.2] 4, .var (blk p5) [dN a2, dN a3] 202, .var (blk (vn w7 0)) [(eOP x6.1), dT x6.2.1, dN x6.2.2.1] 120, .var (blk (vn w7 1)) [.fn (.func 159) [] [dP (blk (vn w7 2)), dP (blk (vn w7 3))]] 239, .var (blk (vn w7 2)) [dP b0] 39, .var (blk (vn w7 3)) [.sl 1 (lB x6.2.2.2)] 25]) [13, 14, 15, 16, 17] [7, 8, 2, 3, 4, 5, 6, 9, 10, 0, 1] (.inl rfl) rfl rfl rfl rfl rfl fn160 rfl rfl (fun l8 => (find_having_2_4_c hx9)) (fun _ => by kernel_rfl) (fun w10 => ?_)
 show T X _ _ _
 refine T.seq ?_
 refine aS ?_
 refine TL.op1 (OpR.loadPtr 4 rfl rfl rfl rfl) rfl ?_
 refine aN rfl ?_
 obtain ⟨t11, ht11, h0⟩ := bS h0
 refine T.cutC (fun S' => S' = ⟨[(16, (dP (blk p4))), (14, (dP (blk p2))), (12, (dT false)), (11, (dN 0)), (10, (dN 0))], [.var b0 [.val v1] 142, .row v1 (lB a4) 1 5, .var (blk p2) [dN t11.1, dN t11.2] 202, .var (blk p4) [dT x9.2.2.2.2.2] 4], 39⟩) (fun _ h => h) ?_ ?_
 · rcases ite_some ht11 with ⟨c12, ht11⟩ | ⟨c12, ht11⟩
   rotate_left
   · refine T.condF rfl (eq_false_of_ne_true c12) ?_
     refine T.skip ?_
     obtain rfl := osi ht11
     exact ⟨_, gP [10, 11, 12, 14, 16] [0, 1, 3, 5] rfl rfl rfl, rfl⟩
   refine T.condT rfl (c12) ?_
   refine T.region ?_
   refine TL.op1 (OpR.loadPtr 2 rfl rfl rfl rfl) rfl ?_
   refine TL.op0 (OpR.store 3 rfl rfl rfl rfl rfl rfl rfl rfl) ?_
   refine TL.nil ?_
   obtain rfl := osi ht11
   exact ⟨_, gP [10, 11, 12, 14, 16] [0, 1, 3, 5] rfl rfl rfl, rfl⟩
 rintro _ rfl
 show T X _ _ _
 refine T.seq ?_
 refine T.drawQ drawsX [dP (blk p2), dN t11.1, .val (.pointer (some ⟨(blk p2), 1, none⟩)), dN t11.2, dT x9.2.2.2.2.2, dN t11.1, dN t11.2, dT x9.2.2.2.2.2] [10, 11, 12] (by decide +kernel) rfl ?_ rfl ?_
 rotate_left
 · show T X _ _ _
   refine T.ret ?_
   obtain rfl := osi h0
   exact rP [0, 1] [10, 11, 12] [0, 1] rfl rfl rfl undef (cT rfl (cT rfl (cT rfl ResL.nil))) rfl rfl rfl rfl
 refine aB rfl rfl rfl ?_
 refine OpsQ.yes (Want.plain rfl) rfl (OpR.loadPtr 2 rfl rfl rfl rfl) ?_
 refine aB rfl rfl rfl ?_
 refine OpsQ.yes (Want.plain rfl) rfl (OpR.loadPtr 2 rfl rfl rfl rfl) ?_
 refine OpsQ.yes (Want.plain rfl) rfl (OpR.loadPtr 3 rfl rfl rfl rfl) ?_
 iterate 3 refine aB rfl rfl rfl ?_
 exact OpsQ.nil
noncomputable def find_Apart_r0_2 (a0 : Int) (a1 : List UInt8) (a2 : Int) (a3 : List Int) : Option (Int × (List Int)) :=
  if a0 ≥ a2 then
    bnd (app 8 a3 [a0]) fun x32 =>
    some (w64 (a0 + (a1.length : Int)), x32)
  else
    some (a2, a3)
theorem find_Apart_r0_2_c {a0 : Int} {a1 : List UInt8} {a2 : Int} {a3 : List Int} {b0 : Nat} {b1 : Nat} {b2 : Nat} {v3 : Value} {res : Int × (List Int)} (h0 : find_Apart_r0_2 a0 a1 a2 a3 = some res) : RoundF X b0 [dN a0] [.lp b0 .ready none [11] rfA18_0 rfB18_0 [(6, (dP b2)), (5, (dP b1)), (3, .nod [.sl 1 (lB a1)])] 24, .var b1 [.val v3] 33, .var b2 [dN a2] 3, .row v3 (List.map (eI .i64) a3) 1 3] (fun x => (dT true)) (fun x => [.lp b0 .ready none [11] rfA18_0 rfB18_0 [(6, (dP b2)), (5, (dP b1)), (3, .nod [.sl 1 (lB a1)])] 24, .var b1 [.val (vn x 0)] 33, .var b2 [dN res.1] 3, .row (vn x 0) (List.map (eI .i64) res.2) 1 3]) := by
 unfold find_Apart_r0_2 at h0
 refine RoundF.mk (X := X) rfl rfl rfl ?_
 refine T.region ?_
 refine aA rfl rfl ?_
 refine TL.nil ?_
 refine RoundA.mk ?_
 refine T.block ?_
 refine aS ?_
 refine aA rfl rfl ?_
 refine TL.op1 (OpR.loadPtr 2 rfl rfl rfl rfl) rfl ?_
 refine aA rfl rfl ?_
 refine TL.nil ?_
 show T (X.inR b0) _ _ _
 rcases ite_some h0 with ⟨c31, h0⟩ | ⟨c31, h0⟩
 rotate_left
 · refine T.condF rfl (eF c31) ?_
   refine T.skip ?_
   obtain rfl := osi h0
   exact RoundG.mk (ks := [0, 1, 2, 3]) (Gst.only [] rfl) (.tuple #[v3]) rfl rfl rfl rfl rfl
 refine T.condT rfl (eT c31) ?_
 refine aS ?_
 refine TL.op1 (OpR.loadPtr 1 rfl rfl rfl rfl) rfl ?_
 refine aA rfl rfl ?_
 refine TL.op1 (OpR.lit rfl rfl rfl rfl rfl rfl rfl) rfl ?_
 obtain ⟨x32, hx32, h0⟩ := bS h0
 refine TL.op (OpR.appendM (m := [a0]) (eI .i64) 3 hx32 rfl rfl rfl rfl rfl rfl rfl rfl rfl (fun _ => rfl)) rfl (fun v33 => ?_)
 refine TL.op0 (OpR.store 1 rfl rfl rfl rfl rfl rfl rfl rfl) ?_
 refine TL.nil ?_
 show T (X.inR b0) _ _ _
 refine T.region ?_
 iterate 2 refine aA rfl rfl ?_
 refine TL.op1 (OpR.cast (OpR.pure rfl) (intE (lenM _ _))) rfl ?_
 refine aA rfl rfl ?_
 refine TL.op0 (OpR.store 2 rfl rfl rfl rfl rfl rfl rfl rfl) ?_
 refine TL.nil ?_
 obtain rfl := osi h0
 exact RoundG.mk (ks := [0, 1, 2, 3]) (Gst.only [] rfl) (.tuple #[v33]) rfl rfl rfl rfl rfl
noncomputable def find_places_1_2.l1 (a1 : List UInt8) (x2 : (List Int)) (x16 : UInt8) (s18 : Int) : Option (Lp Int Int) :=
  bnd (if s18 > 0 then
    if s18 = (a1.length : Int) then
      some true
    else
      bnd (idx a1 s18) fun x29 =>
      some (!((x16.toNat : Int) == (x29.toNat : Int)))
  else
    some false : Option Bool) fun t26 =>
  if t26 = true then
    bnd (idx x2 s18) fun x31 =>
    some (Lp.next x31)
  else
    some (Lp.done s18)
noncomputable def find_places_1_2.l2 (a0 : List UInt8) (a1 : List UInt8) (a2 : List UInt8) (x2 : (List Int)) (s7 : Int × Int × Int × (List Int)) : Option (Lp (Int × Int × Int × (List Int)) (Ex (Int × (List Int)) (Int × (List Int)))) :=
  if s7.2.1 < (a2.length : Int) then
    bnd (idx a2 s7.2.1) fun x16 =>
    bnd (loop (find_places_1_2.l1 a1 x2 x16) s7.1 : Option Int) fun t17 =>
    bnd (idx a1 t17) fun x32 =>
    bnd (if (x16.toNat : Int) = (x32.toNat : Int) then
      some (w64 (t17 + 1))
    else
      some t17 : Option Int) fun t33 =>
    bnd (if t33 = (a1.length : Int) then
      bnd (find_Apart_r0_2 (w64 ((w64 (s7.2.1 + 1)) - t33)) a0 s7.2.2.1 s7.2.2.2) fun x38 =>
      some (false, x38.1, x38.2)
    else
      some (false, s7.2.2.1, s7.2.2.2) : Option (Bool × Int × (List Int))) fun t35 =>
    if t35.1 = true then
      some (Lp.done (Ex.ret (t35.2.1, t35.2.2)))
    else
      some (Lp.next (t33, w64 (s7.2.1 + 1), t35.2.1, t35.2.2))
  else
    some (Lp.done (Ex.brk (s7.2.2.1, s7.2.2.2)))
noncomputable def find_places_1_2 (a0 : List UInt8) (a1 : List UInt8) (a2 : List UInt8) (a3 : Int) : Option (Int × (List Int)) :=
  if (a1.length : Int) = 0 then
    some (a3, [])
  else
    bnd (find_table a1) fun x2 =>
    bnd (loop (find_places_1_2.l2 a0 a1 a2 x2) (0, 0, a3, []) : Option (Ex (Int × (List Int)) (Int × (List Int)))) fun t3 => match t3 with
      | .brk u4 =>
        some (u4.1, u4.2)
      | .ret u4 => some u4
theorem find_places_1_2_c {a0 : List UInt8} {a1 : List UInt8} {a2 : List UInt8} {a3 : Int} {b0 : Nat} {b1 : Nat} {b2 : Nat} {b3 : Nat} {b4 : Nat} {res : Int × (List Int)} (h0 : find_places_1_2 a0 a1 a2 a3 = some res) : CallF X 117 [.fn (.yield b0) [] [], dP b1, dP b2] [.lp b0 .ready none [11] rfA18_0 rfB18_0 [(6, (dP b4)), (5, (dP b3)), (3, .nod [.sl 1 (lB a0)])] 24, .var b1 [.sl 1 (lB a1)] 25, .var b2 [.sl 1 (lB a2)] 25, .var b3 [.val (.slice none 0 0)] 33, .var b4 [dN a3] 3] (fun x => .tup []) (fun x => [.lp b0 .ready none [11] rfA18_0 rfB18_0 [(6, (dP b4)), (5, (dP b3)), (3, .nod [.sl 1 (lB a0)])] 24, .var b1 [.sl 1 (lB a1)] 25, .var b2 [.sl 1 (lB a2)] 25, .var b3 [.val (vn x 0)] 33, .var b4 [dN res.1] 3, .row (vn x 0) (List.map (eI .i64) res.2) 1 3]) := by
 unfold find_places_1_2 at h0
 refine CallF.mkG (X := X) rfl Try.func117 rfl rfl Try.ntmps117 rfl rfl ?_
 refine T.seq ?_
 refine aS ?_
 refine TL.op1 (OpR.loadPtr 1 rfl rfl rfl rfl) rfl ?_
 refine TL.op1 (OpR.cast (OpR.pure rfl) (intE (lenM _ _))) rfl ?_
 refine aA rfl rfl ?_
 refine aN rfl ?_
 rcases ite_some h0 with ⟨c1, h0⟩ | ⟨c1, h0⟩
 · refine T.condT rfl (beq_iff_eq.2 c1) ?_
   refine T.ret ?_
   obtain rfl := osi h0
   exact PostG.retP (ks := [0, 1, 2, 3, 4, 5]) (Gst.trans (Gst.only [] rfl) (Gst.nilRow (ow := [.lp b0 .ready none [11] rfA18_0 rfB18_0 [(6, (dP b4)), (5, (dP b3)), (3, .nod [.sl 1 (lB a0)])] 24, .var b1 [.sl 1 (lB a1)] 25, .var b2 [.sl 1 (lB a2)] 25, .var b3 [.val (.slice none 0 0)] 33, .var b4 [dN a3] 3]) 1 3 rfl)) (.tuple #[(.slice none 0 0)]) ResL.nil rfl rfl rfl rfl
 refine T.condF rfl (beq_eq_false_iff_ne.2 c1) ?_
 refine aK rfl ?_
 refine aS ?_
 refine TL.op1 (OpR.loadPtr 1 rfl rfl rfl rfl) rfl ?_
 obtain ⟨x2, hx2, h0⟩ := bS h0
 refine TL.op1 (OpR.call0 fn118 (find_table_c hx2) rfl) rfl ?_
 refine aA rfl rfl ?_
 refine aN rfl ?_
 refine aS ?_
 refine aA rfl rfl ?_
 refine aN rfl ?_
 refine aS ?_
 refine TL.op1 (OpR.loadPtr 2 rfl rfl rfl rfl) rfl ?_
 refine TL.op1 (OpR.cast (OpR.pure rfl) (intE (lenM _ _))) rfl ?_
 refine aA rfl rfl ?_
 refine aN rfl ?_
 obtain ⟨t3, ht3, h0⟩ := bS h0
 refine T.cutN (fun S' => ∃ u4, t3 = Ex.brk u4 ∧ ∃ y5 : Value, S' = ⟨[], [.lp b0 .ready none [11] rfA18_0 rfB18_0 [(6, (dP b4)), (5, (dP b3)), (3, .nod [.sl 1 (lB a0)])] 24, .var b1 [.sl 1 (lB a1)] 25, .var b2 [.sl 1 (lB a2)] 25, .var b3 [.val y5] 33, .var b4 [dN u4.1] 3, .row y5 (List.map (eI .i64) u4.2) 1 3], 62⟩) (fun _ _ g ⟨h, S', ds, g', r⟩ => ⟨h, S', ds, Gst.trans g g', r⟩) ?_ ?_
 rotate_left
 · rintro _ ⟨u4, rfl, y5, rfl⟩
   obtain rfl := osi h0
   exact PostG.finP (ks := [0, 1, 2, 3, 4, 5]) (Gst.only [] rfl) (.tuple #[y5]) ResL.nil rfl rfl rfl rfl
 refine T.block ?_
 obtain ⟨n8, n13⟩ := loop_some ht3
 refine T.loop (fun n S' => ∃ S'', Gst S' S'' ∧ ∃ y6 : Value, ∃ s7 : Int × Int × Int × (List Int), S'' = ⟨[(15, (dN s7.2.1)), (14, (dN (a2.length : Int))), (13, .sl 1 (lB a2)), (5, (dN s7.1)), (4, .sl 1 (List.map (eI .i64) x2)), (1, (dP b1)), (0, .fn (.yield b0) [] [])], [.lp b0 .ready none [11] rfA18_0 rfB18_0 [(6, (dP b4)), (5, (dP b3)), (3, .nod [.sl 1 (lB a0)])] 24, .var b1 [.sl 1 (lB a1)] 25, .var b2 [.sl 1 (lB a2)] 25, .var b3 [.val y6] 33, .var b4 [dN s7.2.2.1] 3, .row y6 (List.map (eI .i64) s7.2.2.2) 1 3], 62⟩ ∧ iter (find_places_1_2.l2 a0 a1 a2 x2) n s7 = some t3) n8 ?_ ?_
 · exact ⟨_, Gst.trans (Gst.only [0, 1, 4, 5, 13, 14, 15] rfl) (Gst.nilRow (ow := [.lp b0 .ready none [11] rfA18_0 rfB18_0 [(6, (dP b4)), (5, (dP b3)), (3, .nod [.sl 1 (lB a0)])] 24, .var b1 [.sl 1 (lB a1)] 25, .var b2 [.sl 1 (lB a2)] 25, .var b3 [.val (.slice none 0 0)] 33, .var b4 [dN a3] 3]) 1 3 rfl), (.slice none 0 0), (0, 0, a3, []), rfl, n13⟩
 rintro n8 _ ⟨_, g, y6, s7, rfl, i12⟩
 refine T.ghost g ?_
 obtain ⟨m9, q10, rfl, q11, i12⟩ := iter_succ i12
 unfold find_places_1_2.l2 at q11
 refine aS ?_
 refine aA rfl rfl ?_
 refine aN rfl ?_
 refine T.seq ?_
 rcases ite_some q11 with ⟨c15, q11⟩ | ⟨c15, q11⟩
 rotate_left
 · refine T.condF rfl (eF c15) ?_
   refine T.exit ?_
   obtain rfl := osi q11
   obtain rfl : _ = _ := i12
   exact ⟨_, Gst.only [] rfl, _, rfl, y6, rfl⟩
 refine T.condT rfl (eT c15) ?_
 refine aK rfl ?_
 refine T.seq ?_
 refine T.block ?_
 refine aS ?_
 refine aA rfl rfl ?_
 obtain ⟨x16, hx16, q11⟩ := bS q11
 refine TL.op1 (OpR.indexM byteD hx16 rfl rfl rfl rfl rfl) rfl ?_
 iterate 3 refine aA rfl rfl ?_
 refine aN rfl ?_
 refine T.seq ?_
 obtain ⟨t17, ht17, q11⟩ := bS q11
 refine T.cutC (fun S' => S' = ⟨[(15, (dN s7.2.1)), (14, (dN (a2.length : Int))), (13, .sl 1 (lB a2)), (7, .val (.int .u8 (x16.toNat : Int))), (6, (dN s7.2.1)), (5, (dN t17)), (4, .sl 1 (List.map (eI .i64) x2)), (1, (dP b1)), (0, .fn (.yield b0) [] [])], [.lp b0 .ready none [11] rfA18_0 rfB18_0 [(6, (dP b4)), (5, (dP b3)), (3, .nod [.sl 1 (lB a0)])] 24, .var b1 [.sl 1 (lB a1)] 25, .var b2 [.sl 1 (lB a2)] 25, .var b3 [.val y6] 33, .var b4 [dN s7.2.2.1] 3, .row y6 (List.map (eI .i64) s7.2.2.2) 1 3], 62⟩) (fun _ h => h) ?_ ?_
 rotate_left
 · rintro _ rfl
   show T X _ _ _
   refine T.seq ?_
   refine aS ?_
   refine aA rfl rfl ?_
   refine TL.op1 (OpR.loadPtr 1 rfl rfl rfl rfl) rfl ?_
   refine aA rfl rfl ?_
   obtain ⟨x32, hx32, q11⟩ := bS q11
   refine TL.op1 (OpR.indexM byteD hx32 rfl rfl rfl rfl rfl) rfl ?_
   iterate 2 refine aA rfl rfl ?_
   refine aN rfl ?_
   obtain ⟨t33, ht33, q11⟩ := bS q11
   refine T.cutC (fun S' => S' = ⟨[(15, (dN s7.2.1)), (14, (dN (a2.length : Int))), (13, .sl 1 (lB a2)), (6, (dN s7.2.1)), (5, (dN t33)), (4, .sl 1 (List.map (eI .i64) x2)), (1, (dP b1)), (0, .fn (.yield b0) [] [])], [.lp b0 .ready none [11] rfA18_0 rfB18_0 [(6, (dP b4)), (5, (dP b3)), (3, .nod [.sl 1 (lB a0)])] 24, .var b1 [.sl 1 (lB a1)] 25, .var b2 [.sl 1 (lB a2)] 25, .var b3 [.val y6] 33, .var b4 [dN s7.2.2.1] 3, .row y6 (List.map (eI .i64) s7.2.2.2) 1 3], 62⟩) (fun _ h => h) ?_ ?_
   · rcases ite_some ht33 with ⟨c34, ht33⟩ | ⟨c34, ht33⟩
     rotate_left
     · refine T.condF rfl (beq_eq_false_iff_ne.2 c34) ?_
       refine T.skip ?_
       obtain rfl := osi ht33
       exact ⟨_, Gst.only [0, 1, 4, 5, 6, 13, 14, 15] rfl, rfl⟩
     refine T.condT rfl (beq_iff_eq.2 c34) ?_
     refine T.region ?_
     iterate 3 refine aA rfl rfl ?_
     refine TL.nil ?_
     obtain rfl := osi ht33
     exact ⟨_, Gst.only [0, 1, 4, 5, 6, 13, 14, 15] rfl, rfl⟩
   rintro _ rfl
   show T X _ _ _
   refine T.seq ?_
   obtain ⟨t35, ht35, q11⟩ := bS q11
   refine T.cutC (fun S' => ∃ y36 : Value, S' = ⟨[(60, (dT t35.1)), (15, (dN s7.2.1)), (14, (dN (a2.length : Int))), (13, .sl 1 (lB a2)), (5, (dN t33)), (4, .sl 1 (List.map (eI .i64) x2)), (1, (dP b1)), (0, .fn (.yield b0) [] [])], [.lp b0 .ready none [11] rfA18_0 rfB18_0 [(6, (dP b4)), (5, (dP b3)), (3, .nod [.sl 1 (lB a0)])] 24, .var b1 [.sl 1 (lB a1)] 25, .var b2 [.sl 1 (lB a2)] 25, .var b3 [.val y36] 33, .var b4 [dN t35.2.1] 3, .row y36 (List.map (eI .i64) t35.2.2) 1 3], 62⟩) (fun _ h => h) ?_ ?_
   rotate_left
   · rintro _ ⟨y36, rfl⟩
     show T X _ _ _
     rcases ite_some q11 with ⟨c40, q11⟩ | ⟨c40, q11⟩
     · refine T.condT rfl (c40) ?_
       refine T.ret ?_
       obtain rfl := osi q11
       obtain rfl : _ = _ := i12
       obtain rfl := osi h0
       exact rO [0, 1, 2, 3, 4, 5] [] rfl (.tuple #[y36]) ResL.nil rfl rfl rfl rfl
     refine T.condF rfl (eq_false_of_ne_true c40) ?_
     refine aK rfl ?_
     refine T.region ?_
     iterate 2 refine aA rfl rfl ?_
     refine TL.nil ?_
     obtain rfl := osi q11
     exact ⟨m9, Nat.lt_succ_self _, _, Gst.only [0, 1, 4, 5, 13, 14, 15] rfl, y36, (t33, w64 (s7.2.1 + 1), t35.2.1, t35.2.2), rfl, i12⟩
   refine T.region ?_
   refine aA rfl rfl ?_
   refine TL.op1 (OpR.loadPtr 1 rfl rfl rfl rfl) rfl ?_
   refine TL.op1 (OpR.cast (OpR.pure rfl) (intE (lenM _ _))) rfl ?_
   iterate 2 refine aA rfl rfl ?_
   rcases ite_some ht35 with ⟨c37, ht35⟩ | ⟨c37, ht35⟩
   rotate_left
   · refine TL.off rfl rfl rfl rfl (beq_eq_false_iff_ne.2 c37) rfl rfl ?_
     refine TL.off rfl rfl rfl rfl (beq_eq_false_iff_ne.2 c37) rfl rfl ?_
     refine TL.off rfl rfl rfl rfl (beq_eq_false_iff_ne.2 c37) rfl rfl ?_
     refine TL.off rfl rfl rfl rfl (beq_eq_false_iff_ne.2 c37) rfl rfl ?_
     refine TL.off rfl rfl rfl rfl (beq_eq_false_iff_ne.2 c37) rfl rfl ?_
     refine TL.off rfl rfl rfl rfl (beq_eq_false_iff_ne.2 c37) rfl rfl ?_
     refine TL.off rfl rfl rfl rfl (beq_eq_false_iff_ne.2 c37) rfl rfl ?_
     refine TL.op1 (OpR.pickF rfl (beq_eq_false_iff_ne.2 c37) rfl) rfl ?_
     refine TL.nil ?_
     obtain rfl := osi ht35
     exact ⟨_, Gst.only [0, 1, 4, 5, 13, 14, 15, 60] rfl, y6, rfl⟩
   refine TL.on rfl rfl rfl rfl (beq_iff_eq.2 c37) ?_
   refine aA rfl rfl ?_
   refine TL.on rfl rfl rfl rfl (beq_iff_eq.2 c37) ?_
   refine aA rfl rfl ?_
   refine TL.on rfl rfl rfl rfl (beq_iff_eq.2 c37) ?_
   refine aA rfl rfl ?_
   refine TL.on rfl rfl rfl rfl (beq_iff_eq.2 c37) ?_
   refine aA rfl rfl ?_
   refine TL.on rfl rfl rfl rfl (beq_iff_eq.2 c37) ?_
   refine aA rfl rfl ?_
   refine TL.on rfl rfl rfl rfl (beq_iff_eq.2 c37) ?_
   obtain ⟨x38, hx38, ht35⟩ := bS ht35
   refine TL.op (OpR.callY [0, 3, 4, 5] rfl (find_Apart_r0_2_c hx38) rfl rfl rfl (fun _ => rfl)) rfl (fun w39 => ?_)
   refine TL.on rfl rfl rfl rfl (beq_iff_eq.2 c37) ?_
   refine aA rfl rfl ?_
   refine TL.op1 (OpR.pickT rfl (beq_iff_eq.2 c37) rfl) rfl ?_
   refine TL.nil ?_
   obtain rfl := osi ht35
   exact ⟨_, Gst.only [0, 1, 4, 5, 13, 14, 15, 60] rfl, (vn w39 0), rfl⟩
 refine T.block ?_
 obtain ⟨n19, n24⟩ := loop_some ht17
 refine T.loop (fun n S' => ∃ S'', Gst S' S'' ∧ ∃ s18 : Int, S'' = ⟨[(15, (dN s7.2.1)), (14, (dN (a2.length : Int))), (13, .sl 1 (lB a2)), (7, .val (.int .u8 (x16.toNat : Int))), (6, (dN s7.2.1)), (5, (dN s18)), (4, .sl 1 (List.map (eI .i64) x2)), (1, (dP b1)), (0, .fn (.yield b0) [] [])], [.lp b0 .ready none [11] rfA18_0 rfB18_0 [(6, (dP b4)), (5, (dP b3)), (3, .nod [.sl 1 (lB a0)])] 24, .var b1 [.sl 1 (lB a1)] 25, .var b2 [.sl 1 (lB a2)] 25, .var b3 [.val y6] 33, .var b4 [dN s7.2.2.1] 3, .row y6 (List.map (eI .i64) s7.2.2.2) 1 3], 62⟩ ∧ iter (find_places_1_2.l1 a1 x2 x16) n s18 = some t17) n19 ?_ ?_
 · exact ⟨_, Gst.only [0, 1, 4, 5, 6, 7, 13, 14, 15] rfl, s7.1, rfl, n24⟩
 rintro n19 _ ⟨_, g, s18, rfl, i23⟩
 refine T.ghost g ?_
 obtain ⟨m20, q21, rfl, q22, i23⟩ := iter_succ i23
 unfold find_places_1_2.l1 at q22
 refine T.seq ?_
 refine T.seq ?_
 obtain ⟨t26, ht26, q22⟩ := bS q22
 refine T.cutC (fun S' => S' = ⟨[(35, (dT t26)), (15, (dN s7.2.1)), (14, (dN (a2.length : Int))), (13, .sl 1 (lB a2)), (7, .val (.int .u8 (x16.toNat : Int))), (6, (dN s7.2.1)), (5, (dN s18)), (4, .sl 1 (List.map (eI .i64) x2)), (1, (dP b1)), (0, .fn (.yield b0) [] [])], [.lp b0 .ready none [11] rfA18_0 rfB18_0 [(6, (dP b4)), (5, (dP b3)), (3, .nod [.sl 1 (lB a0)])] 24, .var b1 [.sl 1 (lB a1)] 25, .var b2 [.sl 1 (lB a2)] 25, .var b3 [.val y6] 33, .var b4 [dN s7.2.2.1] 3, .row y6 (List.map (eI .i64) s7.2.2.2) 1 3], 62⟩) (fun _ h => h) ?_ ?_
 rotate_left
 · rintro _ rfl
   show T X _ _ _
   rcases ite_some q22 with ⟨c30, q22⟩ | ⟨c30, q22⟩
   rotate_left
   · refine T.condF rfl (eq_false_of_ne_true c30) ?_
     refine T.exit ?_
     obtain rfl := osi q22
     obtain rfl : _ = _ := i23
     exact ⟨_, Gst.only [0, 1, 4, 5, 6, 7, 13, 14, 15] rfl, rfl⟩
   refine T.condT rfl (c30) ?_
   refine aK rfl ?_
   refine T.block ?_
   refine T.region ?_
   iterate 2 refine aA rfl rfl ?_
   obtain ⟨x31, hx31, q22⟩ := bS q22
   refine TL.op1 (OpR.indexM (eI .i64) hx31 rfl rfl rfl rfl rfl) rfl ?_
   iterate 2 refine aA rfl rfl ?_
   refine TL.nil ?_
   obtain rfl := osi q22
   exact ⟨m20, Nat.lt_succ_self _, _, Gst.only [0, 1, 4, 5, 6, 7, 13, 14, 15] rfl, x31, rfl, i23⟩
 refine T.region ?_
 iterate 3 refine aA rfl rfl ?_
 rcases ite_some ht26 with ⟨c27, ht26⟩ | ⟨c27, ht26⟩
 rotate_left
 · refine TL.off rfl rfl rfl rfl (eF c27) rfl rfl ?_
   refine TL.off rfl rfl rfl rfl (eF c27) rfl rfl ?_
   refine TL.off rfl rfl rfl rfl (eF c27) rfl rfl ?_
   refine TL.off rfl rfl rfl rfl (eF c27) rfl rfl ?_
   refine TL.off rfl rfl rfl rfl (eF c27) rfl rfl ?_
   refine TL.offU rfl rfl rfl rfl rfl rfl ?_
   refine TL.offU rfl rfl rfl rfl rfl rfl ?_
   refine TL.offU rfl rfl rfl rfl rfl rfl ?_
   refine TL.offU rfl rfl rfl rfl rfl rfl ?_
   refine TL.offU rfl rfl rfl rfl rfl rfl ?_
   refine TL.offU rfl rfl rfl rfl rfl rfl ?_
   refine TL.off rfl rfl rfl rfl (eF c27) rfl rfl ?_
   refine TL.op1 (OpR.pickF rfl (eF c27) rfl) rfl ?_
   refine TL.nil ?_
   obtain rfl := osi ht26
   exact ⟨_, Gst.only [0, 1, 4, 5, 6, 7, 13, 14, 15, 35] rfl, rfl⟩
 refine TL.on rfl rfl rfl rfl (eT c27) ?_
 refine aA rfl rfl ?_
 refine TL.on rfl rfl rfl rfl (eT c27) ?_
 refine TL.op1 (OpR.loadPtr 1 rfl rfl rfl rfl) rfl ?_
 refine TL.on rfl rfl rfl rfl (eT c27) ?_
 refine TL.op1 (OpR.cast (OpR.pure rfl) (intE (lenM _ _))) rfl ?_
 refine TL.on rfl rfl rfl rfl (eT c27) ?_
 refine aA rfl rfl ?_
 refine TL.on rfl rfl rfl rfl (eT c27) ?_
 refine aA rfl rfl ?_
 rcases ite_some ht26 with ⟨c28, ht26⟩ | ⟨c28, ht26⟩
 · refine TL.off rfl rfl rfl rfl (beq_iff_eq.2 c28) rfl rfl ?_
   refine TL.off rfl rfl rfl rfl (beq_iff_eq.2 c28) rfl rfl ?_
   refine TL.off rfl rfl rfl rfl (beq_iff_eq.2 c28) rfl rfl ?_
   refine TL.off rfl rfl rfl rfl (beq_iff_eq.2 c28) rfl rfl ?_
   refine TL.off rfl rfl rfl rfl (beq_iff_eq.2 c28) rfl rfl ?_
   refine TL.off rfl rfl rfl rfl (beq_iff_eq.2 c28) rfl rfl ?_
   refine TL.on rfl rfl rfl rfl (eT c27) ?_
   refine TL.op1 (OpR.pickT rfl (beq_iff_eq.2 c28) rfl) rfl ?_
   refine TL.op1 (OpR.pickT rfl (eT c27) rfl) rfl ?_
   refine TL.nil ?_
   obtain rfl := osi ht26
   exact ⟨_, Gst.only [0, 1, 4, 5, 6, 7, 13, 14, 15, 35] rfl, rfl⟩
 refine TL.on rfl rfl rfl rfl (beq_eq_false_iff_ne.2 c28) ?_
 refine aA rfl rfl ?_
 refine TL.on rfl rfl rfl rfl (beq_eq_false_iff_ne.2 c28) ?_
 refine TL.op1 (OpR.loadPtr 1 rfl rfl rfl rfl) rfl ?_
 refine TL.on rfl rfl rfl rfl (beq_eq_false_iff_ne.2 c28) ?_
 refine aA rfl rfl ?_
 refine TL.on rfl rfl rfl rfl (beq_eq_false_iff_ne.2 c28) ?_
 obtain ⟨x29, hx29, ht26⟩ := bS ht26
 refine TL.op1 (OpR.indexM byteD hx29 rfl rfl rfl rfl rfl) rfl ?_
 refine TL.on rfl rfl rfl rfl (beq_eq_false_iff_ne.2 c28) ?_
 refine aA rfl rfl ?_
 refine TL.on rfl rfl rfl rfl (beq_eq_false_iff_ne.2 c28) ?_
 refine aA rfl rfl ?_
 refine TL.on rfl rfl rfl rfl (eT c27) ?_
 refine TL.op1 (OpR.pickF rfl (beq_eq_false_iff_ne.2 c28) rfl) rfl ?_
 refine TL.op1 (OpR.pickT rfl (eT c27) rfl) rfl ?_
 refine TL.nil ?_
 obtain rfl := osi ht26
 exact ⟨_, Gst.only [0, 1, 4, 5, 6, 7, 13, 14, 15, 35] rfl, rfl⟩
noncomputable def find_Apart (a0 : List UInt8) (a1 : List UInt8) : Option (List Int) :=
  bnd (find_places a0 a1) fun x3 =>
  bnd (find_places_1_2 a1 x3.1 x3.2 0) fun x6 =>
  some x6.2
theorem find_Apart_c {a0 : List UInt8} {a1 : List UInt8} {res : (List Int)} (h0 : find_Apart a0 a1 = some res) : CallF X 18 [.sl 1 (lB a0), .sl 1 (lB a1)] [] (fun x => .sl 1 (List.map (eI .i64) res)) (fun x => []) := by
 unfold find_Apart at h0
 refine CallF.mkG (X := X) rfl Try.func18 rfl rfl Try.ntmps18 rfl rfl ?_
 refine aS ?_
 refine TL.op1 (OpR.boxImm rfl rfl) rfl ?_
 refine aA rfl rfl ?_
 refine aN rfl ?_
 refine aS ?_
 refine TL.op (OpR.alloc rfl rfl (fun _ => rfl)) rfl (fun p1 => ?_)
 refine aN rfl ?_
 refine aS ?_
 refine TL.op (OpR.alloc rfl rfl (fun _ => rfl)) rfl (fun p2 => ?_)
 refine TL.op0 (OpR.store 1 rfl rfl rfl rfl rfl rfl rfl rfl) ?_
 refine aN rfl ?_
 refine T.seq ?_
 refine aS ?_
 iterate 2 refine aA rfl rfl ?_
 obtain ⟨x3, hx3, h0⟩ := bS h0
 refine TL.op (OpR.call [] fn64 (find_places_c hx3) rfl rfl rfl (fun _ => rfl)) rfl (fun w4 => ?_)
 refine aN rfl ?_
 refine T.block ?_
 obtain ⟨x6, hx6, h0⟩ := bS h0
 refine T.rangeN (A := rfA18_0) (B := rfB18_0) [3, 5, 6] [2, 3, 0, 1] (.inl rfl) rfl rfl rfl rfl rfl fn117 rfl rfl (fun l5 => (find_places_1_2_c hx6)) (fun _ => rfl) (fun w7 => ?_)
 show T X _ _ _
 refine aS ?_
 refine TL.op1 (OpR.loadPtr 0 rfl rfl rfl rfl) rfl ?_
 refine aA rfl rfl ?_
 refine aN rfl ?_
 refine T.ret ?_
 obtain rfl := osi h0
 exact PostG.retP (ks := []) (Gst.trans (Gst.only [4] rfl) (Gst.trans (Gst.freezeRow 4 rfl rfl (ReS.cons (Re.base .all) ReS.nil) (ReO.var (ReL.cons (Re.base .all) ReL.nil) (ReO.same (ReO.same (ReO.same (ReO.same ReO.nil)))))) (Gst.pick [] rfl rfl))) undef (cT rfl ResL.nil) rfl rfl rfl rfl
noncomputable def find_Replace.l1 (a0 : List UInt8) (a1 : List UInt8) (a2 : List UInt8) (t4 : (List Int)) (s10 : Int × Int × (List UInt8)) : Option (Lp (Int × Int × (List UInt8)) (Int × (List UInt8))) :=
  if s10.2.1 < (t4.length : Int) then
    bnd (idx t4 s10.2.1) fun x19 =>
    bnd (cut a0 s10.1 x19) fun x20 =>
    bnd (app 1 s10.2.2 x20) fun x21 =>
    bnd (app 1 x21 a2) fun x23 =>
    some (Lp.next (w64 (x19 + (a1.length : Int)), w64 (s10.2.1 + 1), x23))
  else
    some (Lp.done (s10.1, s10.2.2))
noncomputable def find_Replace (a0 : List UInt8) (a1 : List UInt8) (a2 : List UInt8) (a3 : Bool) : Option ((List UInt8) × Int) :=
  bnd (find_Apart a0 a1) fun x1 =>
  bnd (if a3 = true then
    some false
  else
    some (decide ((x1.length : Int) > 1)) : Option Bool) fun t2 =>
  bnd (if t2 = true then
    bnd (cut x1 0 1) fun x6 =>
    some x6
  else
    some x1 : Option (List Int)) fun t4 =>
  bnd (loop (find_Replace.l1 a0 a1 a2 t4) (0, 0, []) : Option (Int × (List UInt8))) fun t7 =>
  bnd (cut a0 t7.1 (a0.length : Int)) fun x25 =>
  bnd (app 1 t7.2 x25) fun x26 =>
  some (x26, (t4.length : Int))
theorem find_Replace_c {a0 : List UInt8} {a1 : List UInt8} {a2 : List UInt8} {a3 : Bool} {res : (List UInt8) × Int} (h0 : find_Replace a0 a1 a2 a3 = some res) : CallF X 12 [.sl 1 (lB a0), .sl 1 (lB a1), .sl 1 (lB a2), dT a3] [] (fun x => .tup [.sl 1 (lB res.1), dN res.2]) (fun x => []) := by
 unfold find_Replace at h0
 refine CallF.mkG (X := X) rfl Try.func12 rfl rfl Try.ntmps12 rfl rfl ?_
 refine aS ?_
 iterate 2 refine aA rfl rfl ?_
 refine aN rfl ?_
 refine aS ?_
 iterate 2 refine aA rfl rfl ?_
 obtain ⟨x1, hx1, h0⟩ := bS h0
 refine TL.op1 (OpR.call0 fn18 (find_Apart_c hx1) rfl) rfl ?_
 refine aA rfl rfl ?_
 refine aN rfl ?_
 refine T.seq ?_
 refine T.seq ?_
 obtain ⟨t2, ht2, h0⟩ := bS h0
 refine T.cutC (fun S' => S' = ⟨[(24, (dT t2)), (10, .sl 1 (List.map (eI .i64) x1)), (9, (dN 0)), (8, .val (.slice none 0 0)), (2, .sl 1 (lB a2)), (1, .sl 1 (lB a1)), (0, .sl 1 (lB a0))], [], 53⟩) (fun _ h => h) ?_ ?_
 · refine T.region ?_
   iterate 3 refine aA rfl rfl ?_
   rcases ite_some ht2 with ⟨c3, ht2⟩ | ⟨c3, ht2⟩
   · refine TL.off rfl rfl rfl rfl (not_t (c3)) rfl rfl ?_
     refine TL.off rfl rfl rfl rfl (not_t (c3)) rfl rfl ?_
     refine TL.off rfl rfl rfl rfl (not_t (c3)) rfl rfl ?_
     refine TL.op1 (OpR.pickF rfl (not_t (c3)) rfl) rfl ?_
     refine TL.nil ?_
     obtain rfl := osi ht2
     exact ⟨_, Gst.only [0, 1, 2, 8, 9, 10, 24] rfl, rfl⟩
   refine TL.on rfl rfl rfl rfl (not_f (eq_false_of_ne_true c3)) ?_
   refine aA rfl rfl ?_
   refine TL.on rfl rfl rfl rfl (not_f (eq_false_of_ne_true c3)) ?_
   refine TL.op1 (OpR.cast (OpR.pure rfl) (intE (lenM _ _))) rfl ?_
   refine TL.on rfl rfl rfl rfl (not_f (eq_false_of_ne_true c3)) ?_
   refine aA rfl rfl ?_
   refine TL.op1 (OpR.pickT rfl (not_f (eq_false_of_ne_true c3)) rfl) rfl ?_
   refine TL.nil ?_
   obtain rfl := osi ht2
   exact ⟨_, Gst.only [0, 1, 2, 8, 9, 10, 24] rfl, rfl⟩
 rintro _ rfl
 show T X _ _ _
 obtain ⟨t4, ht4, h0⟩ := bS h0
 refine T.cutC (fun S' => S' = ⟨[(10, .sl 1 (List.map (eI .i64) t4)), (9, (dN 0)), (8, .val (.slice none 0 0)), (2, .sl 1 (lB a2)), (1, .sl 1 (lB a1)), (0, .sl 1 (lB a0))], [], 53⟩) (fun _ h => h) ?_ ?_
 · rcases ite_some ht4 with ⟨c5, ht4⟩ | ⟨c5, ht4⟩
   rotate_left
   · refine T.condF rfl (eq_false_of_ne_true c5) ?_
     refine T.skip ?_
     obtain rfl := osi ht4
     exact ⟨_, Gst.only [0, 1, 2, 8, 9, 10] rfl, rfl⟩
   refine T.condT rfl (c5) ?_
   refine T.region ?_
   refine aA rfl rfl ?_
   obtain ⟨x6, hx6, ht4⟩ := bS ht4
   refine TL.op1 (OpR.sliceM (sz := 1) (eI .i64) hx6 rfl rfl rfl rfl BdM.none (BdM.some rfl) rfl) rfl ?_
   refine aA rfl rfl ?_
   refine TL.nil ?_
   obtain rfl := osi ht4
   exact ⟨_, Gst.only [0, 1, 2, 8, 9, 10] rfl, rfl⟩
 rintro _ rfl
 show T X _ _ _
 refine aS ?_
 refine aA rfl rfl ?_
 refine aN rfl ?_
 refine aS ?_
 refine aA rfl rfl ?_
 refine aN rfl ?_
 refine T.seq ?_
 refine aS ?_
 refine aA rfl rfl ?_
 refine TL.op1 (OpR.cast (OpR.pure rfl) (intE (lenM _ _))) rfl ?_
 refine aA rfl rfl ?_
 refine aN rfl ?_
 obtain ⟨t7, ht7, h0⟩ := bS h0
 refine T.cutC (fun S' => ∃ y8 : Value, S' = ⟨[(12, (dN t7.1)), (11, .val y8), (10, .sl 1 (List.map (eI .i64) t4)), (9, (dN 0)), (8, .val (.slice none 0 0)), (0, .sl 1 (lB a0))], [.row y8 (lB t7.2) 1 5], 53⟩) (fun _ h => h) ?_ ?_
 rotate_left
 · rintro _ ⟨y8, rfl⟩
   show T X _ _ _
   refine aS ?_
   iterate 3 refine aA rfl rfl ?_
   obtain ⟨x25, hx25, h0⟩ := bS h0
   refine TL.op1 (OpR.sliceM (sz := 1) byteD hx25 rfl rfl rfl rfl (BdM.some rfl) BdM.none rfl) rfl ?_
   obtain ⟨x26, hx26, h0⟩ := bS h0
   refine TL.op (OpR.appendM (m := x25) byteD 0 hx26 rfl rfl rfl rfl rfl rfl rfl rfl rfl (fun _ => rfl)) rfl (fun v27 => ?_)
   refine aA rfl rfl ?_
   refine TL.op1 (OpR.cast (OpR.pure rfl) (intE (lenM _ _))) rfl ?_
   iterate 2 refine aA rfl rfl ?_
   refine aN rfl ?_
   refine T.ret ?_
   obtain rfl := osi h0
   exact PostG.retP (ks := []) (Gst.trans (Gst.only [8, 9] rfl) (Gst.trans (Gst.freezeRow 0 rfl rfl (ReS.cons Re.refl (ReS.cons (Re.base .all) ReS.nil)) (ReO.same ReO.nil)) (Gst.pick [] rfl rfl))) undef (cT rfl (cT rfl ResL.nil)) rfl rfl rfl rfl
 refine T.block ?_
 obtain ⟨n11, n16⟩ := loop_some ht7
 refine T.loop (fun n S' => ∃ S'', Gst S' S'' ∧ ∃ y9 : Value, ∃ s10 : Int × Int × (List UInt8), S'' = ⟨[(29, (dN s10.2.1)), (28, (dN (t4.length : Int))), (27, .sl 1 (List.map (eI .i64) t4)), (12, (dN s10.1)), (11, .val y9), (10, .sl 1 (List.map (eI .i64) t4)), (9, (dN 0)), (8, .val (.slice none 0 0)), (2, .sl 1 (lB a2)), (1, .sl 1 (lB a1)), (0, .sl 1 (lB a0))], [.row y9 (lB s10.2.2) 1 5], 53⟩ ∧ iter (find_Replace.l1 a0 a1 a2 t4) n s10 = some t7) n11 ?_ ?_
 · exact ⟨_, Gst.trans (Gst.only [0, 1, 2, 8, 9, 10, 11, 12, 27, 28, 29] rfl) (Gst.nilRow (ow := []) 1 5 rfl), (.slice none 0 0), (0, 0, []), rfl, n16⟩
 rintro n11 _ ⟨_, g, y9, s10, rfl, i15⟩
 refine T.ghost g ?_
 obtain ⟨m12, q13, rfl, q14, i15⟩ := iter_succ i15
 unfold find_Replace.l1 at q14
 refine aS ?_
 refine aA rfl rfl ?_
 refine aN rfl ?_
 refine T.seq ?_
 rcases ite_some q14 with ⟨c18, q14⟩ | ⟨c18, q14⟩
 rotate_left
 · refine T.condF rfl (eF c18) ?_
   refine T.exit ?_
   obtain rfl := osi q14
   obtain rfl : _ = _ := i15
   exact ⟨_, Gst.only [0, 8, 9, 10, 11, 12] rfl, y9, rfl⟩
 refine T.condT rfl (eT c18) ?_
 refine aK rfl ?_
 refine T.seq ?_
 refine T.block ?_
 refine aS ?_
 obtain ⟨x19, hx19, q14⟩ := bS q14
 refine TL.op1 (OpR.indexM (eI .i64) hx19 rfl rfl rfl rfl rfl) rfl ?_
 iterate 2 refine aA rfl rfl ?_
 refine aN rfl ?_
 refine aS ?_
 iterate 4 refine aA rfl rfl ?_
 obtain ⟨x20, hx20, q14⟩ := bS q14
 refine TL.op1 (OpR.sliceM (sz := 1) byteD hx20 rfl rfl rfl rfl (BdM.some rfl) (BdM.some rfl) rfl) rfl ?_
 obtain ⟨x21, hx21, q14⟩ := bS q14
 refine TL.op (OpR.appendM (m := x20) byteD 0 hx21 rfl rfl rfl rfl rfl rfl rfl rfl rfl (fun _ => rfl)) rfl (fun v22 => ?_)
 refine aA rfl rfl ?_
 obtain ⟨x23, hx23, q14⟩ := bS q14
 refine TL.op (OpR.appendM (m := a2) byteD 0 hx23 rfl rfl rfl rfl rfl rfl rfl rfl rfl (fun _ => rfl)) rfl (fun v24 => ?_)
 refine aA rfl rfl ?_
 refine aN rfl ?_
 refine T.region ?_
 iterate 2 refine aA rfl rfl ?_
 refine TL.op1 (OpR.cast (OpR.pure rfl) (intE (lenM _ _))) rfl ?_
 iterate 2 refine aA rfl rfl ?_
 refine aN rfl ?_
 refine T.region ?_
 iterate 2 refine aA rfl rfl ?_
 refine TL.nil ?_
 obtain rfl := osi q14
 exact ⟨m12, Nat.lt_succ_self _, _, Gst.only [0, 1, 2, 8, 9, 10, 11, 12, 27, 28, 29] rfl, v24, (w64 (x19 + (a1.length : Int)), w64 (s10.2.1 + 1), x23), rfl, i15⟩
noncomputable def find_Every_r0_2 (a0 : Int) (a1 : List Int) : Option (List Int) :=
  bnd (app 8 a1 [a0]) fun x31 =>
  some x31
theorem find_Every_r0_2_c {a0 : Int} {a1 : List Int} {b0 : Nat} {b1 : Nat} {v2 : Value} {res : (List Int)} (h0 : find_Every_r0_2 a0 a1 = some res) : RoundF X b0 [dN a0] [.lp b0 .ready none [10] rfA16_0 rfB16_0 [(5, (dP b1))] 16, .var b1 [.val v2] 33, .row v2 (List.map (eI .i64) a1) 1 3] (fun x => (dT true)) (fun x => [.lp b0 .ready none [10] rfA16_0 rfB16_0 [(5, (dP b1))] 16, .var b1 [.val (vn x 0)] 33, .row (vn x 0) (List.map (eI .i64) res) 1 3]) := by
 unfold find_Every_r0_2 at h0
 refine RoundF.mk (X := X) rfl rfl rfl ?_
 refine T.region ?_
 refine aA rfl rfl ?_
 refine TL.nil ?_
 refine RoundA.mk ?_
 refine T.block ?_
 refine T.region ?_
 refine TL.op1 (OpR.loadPtr 1 rfl rfl rfl rfl) rfl ?_
 refine aA rfl rfl ?_
 refine TL.op1 (OpR.lit rfl rfl rfl rfl rfl rfl rfl) rfl ?_
 obtain ⟨x31, hx31, h0⟩ := bS h0
 refine TL.op (OpR.appendM (m := [a0]) (eI .i64) 2 hx31 rfl rfl rfl rfl rfl rfl rfl rfl rfl (fun _ => rfl)) rfl (fun v32 => ?_)
 refine TL.op0 (OpR.store 1 rfl rfl rfl rfl rfl rfl rfl rfl) ?_
 refine TL.nil ?_
 obtain rfl := osi h0
 exact RoundG.mk (ks := [0, 1, 2]) (Gst.only [] rfl) (.tuple #[v32]) rfl rfl rfl rfl rfl
noncomputable def find_places_1_3.l1 (a0 : List UInt8) (x2 : (List Int)) (x16 : UInt8) (s18 : Int) : Option (Lp Int Int) :=
  bnd (if s18 > 0 then
    if s18 = (a0.length : Int) then
      some true
    else
      bnd (idx a0 s18) fun x29 =>
      some (!((x16.toNat : Int) == (x29.toNat : Int)))
  else
    some false : Option Bool) fun t26 =>
  if t26 = true then
    bnd (idx x2 s18) fun x31 =>
    some (Lp.next x31)
  else
    some (Lp.done s18)
noncomputable def find_places_1_3.l2 (a0 : List UInt8) (a1 : List UInt8) (x2 : (List Int)) (s7 : Int × Int × (List Int)) : Option (Lp (Int × Int × (List Int)) (Ex (List Int) (List Int))) :=
  if s7.2.1 < (a1.length : Int) then
    bnd (idx a1 s7.2.1) fun x16 =>
    bnd (loop (find_places_1_3.l1 a0 x2 x16) s7.1 : Option Int) fun t17 =>
    bnd (idx a0 t17) fun x32 =>
    bnd (if (x16.toNat : Int) = (x32.toNat : Int) then
      some (w64 (t17 + 1))
    else
      some t17 : Option Int) fun t33 =>
    bnd (if t33 = (a0.length : Int) then
      bnd (find_Every_r0_2 (w64 ((w64 (s7.2.1 + 1)) - t33)) s7.2.2) fun x38 =>
      some (false, x38)
    else
      some (false, s7.2.2) : Option (Bool × (List Int))) fun t35 =>
    if t35.1 = true then
      some (Lp.done (Ex.ret t35.2))
    else
      some (Lp.next (t33, w64 (s7.2.1 + 1), t35.2))
  else
    some (Lp.done (Ex.brk s7.2.2))
noncomputable def find_places_1_3 (a0 : List UInt8) (a1 : List UInt8) : Option (List Int) :=
  if (a0.length : Int) = 0 then
    some []
  else
    bnd (find_table a0) fun x2 =>
    bnd (loop (find_places_1_3.l2 a0 a1 x2) (0, 0, []) : Option (Ex (List Int) (List Int))) fun t3 => match t3 with
      | .brk u4 =>
        some u4
      | .ret u4 => some u4
theorem find_places_1_3_c {a0 : List UInt8} {a1 : List UInt8} {b0 : Nat} {b1 : Nat} {b2 : Nat} {b3 : Nat} {res : (List Int)} (h0 : find_places_1_3 a0 a1 = some res) : CallF X 117 [.fn (.yield b0) [] [], dP b1, dP b2] [.lp b0 .ready none [10] rfA16_0 rfB16_0 [(5, (dP b3))] 16, .var b1 [.sl 1 (lB a0)] 25, .var b2 [.sl 1 (lB a1)] 25, .var b3 [.val (.slice none 0 0)] 33] (fun x => .tup []) (fun x => [.lp b0 .ready none [10] rfA16_0 rfB16_0 [(5, (dP b3))] 16, .var b1 [.sl 1 (lB a0)] 25, .var b2 [.sl 1 (lB a1)] 25, .var b3 [.val (vn x 0)] 33, .row (vn x 0) (List.map (eI .i64) res) 1 3]) := by
 unfold find_places_1_3 at h0
 refine CallF.mkG (X := X) rfl Try.func117 rfl rfl Try.ntmps117 rfl rfl ?_
 refine T.seq ?_
 refine aS ?_
 refine TL.op1 (OpR.loadPtr 1 rfl rfl rfl rfl) rfl ?_
 refine TL.op1 (OpR.cast (OpR.pure rfl) (intE (lenM _ _))) rfl ?_
 refine aA rfl rfl ?_
 refine aN rfl ?_
 rcases ite_some h0 with ⟨c1, h0⟩ | ⟨c1, h0⟩
 · refine T.condT rfl (beq_iff_eq.2 c1) ?_
   refine T.ret ?_
   obtain rfl := osi h0
   exact PostG.retP (ks := [0, 1, 2, 3, 4]) (Gst.trans (Gst.only [] rfl) (Gst.nilRow (ow := [.lp b0 .ready none [10] rfA16_0 rfB16_0 [(5, (dP b3))] 16, .var b1 [.sl 1 (lB a0)] 25, .var b2 [.sl 1 (lB a1)] 25, .var b3 [.val (.slice none 0 0)] 33]) 1 3 rfl)) (.tuple #[(.slice none 0 0)]) ResL.nil rfl rfl rfl rfl
 refine T.condF rfl (beq_eq_false_iff_ne.2 c1) ?_
 refine aK rfl ?_
 refine aS ?_
 refine TL.op1 (OpR.loadPtr 1 rfl rfl rfl rfl) rfl ?_
 obtain ⟨x2, hx2, h0⟩ := bS h0
 refine TL.op1 (OpR.call0 fn118 (find_table_c hx2) rfl) rfl ?_
 refine aA rfl rfl ?_
 refine aN rfl ?_
 refine aS ?_
 refine aA rfl rfl ?_
 refine aN rfl ?_
 refine aS ?_
 refine TL.op1 (OpR.loadPtr 2 rfl rfl rfl rfl) rfl ?_
 refine TL.op1 (OpR.cast (OpR.pure rfl) (intE (lenM _ _))) rfl ?_
 refine aA rfl rfl ?_
 refine aN rfl ?_
 obtain ⟨t3, ht3, h0⟩ := bS h0
 refine T.cutN (fun S' => ∃ u4, t3 = Ex.brk u4 ∧ ∃ y5 : Value, S' = ⟨[], [.lp b0 .ready none [10] rfA16_0 rfB16_0 [(5, (dP b3))] 16, .var b1 [.sl 1 (lB a0)] 25, .var b2 [.sl 1 (lB a1)] 25, .var b3 [.val y5] 33, .row y5 (List.map (eI .i64) u4) 1 3], 62⟩) (fun _ _ g ⟨h, S', ds, g', r⟩ => ⟨h, S', ds, Gst.trans g g', r⟩) ?_ ?_
 rotate_left
 · rintro _ ⟨u4, rfl, y5, rfl⟩
   obtain rfl := osi h0
   exact PostG.finP (ks := [0, 1, 2, 3, 4]) (Gst.only [] rfl) (.tuple #[y5]) ResL.nil rfl rfl rfl rfl
 refine T.block ?_
 obtain ⟨n8, n13⟩ := loop_some ht3
 refine T.loop (fun n S' => ∃ S'', Gst S' S'' ∧ ∃ y6 : Value, ∃ s7 : Int × Int × (List Int), S'' = ⟨[(15, (dN s7.2.1)), (14, (dN (a1.length : Int))), (13, .sl 1 (lB a1)), (5, (dN s7.1)), (4, .sl 1 (List.map (eI .i64) x2)), (1, (dP b1)), (0, .fn (.yield b0) [] [])], [.lp b0 .ready none [10] rfA16_0 rfB16_0 [(5, (dP b3))] 16, .var b1 [.sl 1 (lB a0)] 25, .var b2 [.sl 1 (lB a1)] 25, .var b3 [.val y6] 33, .row y6 (List.map (eI .i64) s7.2.2) 1 3], 62⟩ ∧ iter (find_places_1_3.l2 a0 a1 x2) n s7 = some t3) n8 ?_ ?_
 · exact ⟨_, Gst.trans (Gst.only [0, 1, 4, 5, 13, 14, 15] rfl) (Gst.nilRow (ow := [.lp b0 .ready none [10] rfA16_0 rfB16_0 [(5, (dP b3))] 16, .var b1 [.sl 1 (lB a0)] 25, .var b2 [.sl 1 (lB a1)] 25, .var b3 [.val (.slice none 0 0)] 33]) 1 3 rfl), (.slice none 0 0), (0, 0, []), rfl, n13⟩
 rintro n8 _ ⟨_, g, y6, s7, rfl, i12⟩
 refine T.ghost g ?_
 obtain ⟨m9, q10, rfl, q11, i12⟩ := iter_succ i12
 unfold find_places_1_3.l2 at q11
 refine aS ?_
 refine aA rfl rfl ?_
 refine aN rfl ?_
 refine T.seq ?_
 rcases ite_some q11 with ⟨c15, q11⟩ | ⟨c15, q11⟩
 rotate_left
 · refine T.condF rfl (eF c15) ?_
   refine T.exit ?_
   obtain rfl := osi q11
   obtain rfl : _ = _ := i12
   exact ⟨_, Gst.only [] rfl, _, rfl, y6, rfl⟩
 refine T.condT rfl (eT c15) ?_
 refine aK rfl ?_
 refine T.seq ?_
 refine T.block ?_
 refine aS ?_
 refine aA rfl rfl ?_
 obtain ⟨x16, hx16, q11⟩ := bS q11
 refine TL.op1 (OpR.indexM byteD hx16 rfl rfl rfl rfl rfl) rfl ?_
 iterate 3 refine aA rfl rfl ?_
 refine aN rfl ?_
 refine T.seq ?_
 obtain ⟨t17, ht17, q11⟩ := bS q11
 refine T.cutC (fun S' => S' = ⟨[(15, (dN s7.2.1)), (14, (dN (a1.length : Int))), (13, .sl 1 (lB a1)), (7, .val (.int .u8 (x16.toNat : Int))), (6, (dN s7.2.1)), (5, (dN t17)), (4, .sl 1 (List.map (eI .i64) x2)), (1, (dP b1)), (0, .fn (.yield b0) [] [])], [.lp b0 .ready none [10] rfA16_0 rfB16_0 [(5, (dP b3))] 16, .var b1 [.sl 1 (lB a0)] 25, .var b2 [.sl 1 (lB a1)] 25, .var b3 [.val y6] 33, .row y6 (List.map (eI .i64) s7.2.2) 1 3], 62⟩) (fun _ h => h) ?_ ?_
 rotate_left
 · rintro _ rfl
   show T X _ _ _
   refine T.seq ?_
   refine aS ?_
   refine aA rfl rfl ?_
   refine TL.op1 (OpR.loadPtr 1 rfl rfl rfl rfl) rfl ?_
   refine aA rfl rfl ?_
   obtain ⟨x32, hx32, q11⟩ := bS q11
   refine TL.op1 (OpR.indexM byteD hx32 rfl rfl rfl rfl rfl) rfl ?_
   iterate 2 refine aA rfl rfl ?_
   refine aN rfl ?_
   obtain ⟨t33, ht33, q11⟩ := bS q11
   refine T.cutC (fun S' => S' = ⟨[(15, (dN s7.2.1)), (14, (dN (a1.length : Int))), (13, .sl 1 (lB a1)), (6, (dN s7.2.1)), (5, (dN t33)), (4, .sl 1 (List.map (eI .i64) x2)), (1, (dP b1)), (0, .fn (.yield b0) [] [])], [.lp b0 .ready none [10] rfA16_0 rfB16_0 [(5, (dP b3))] 16, .var b1 [.sl 1 (lB a0)] 25, .var b2 [.sl 1 (lB a1)] 25, .var b3 [.val y6] 33, .row y6 (List.map (eI .i64) s7.2.2) 1 3], 62⟩) (fun _ h => h) ?_ ?_
   · rcases ite_some ht33 with ⟨c34, ht33⟩ | ⟨c34, ht33⟩
     rotate_left
     · refine T.condF rfl (beq_eq_false_iff_ne.2 c34) ?_
       refine T.skip ?_
       obtain rfl := osi ht33
       exact ⟨_, Gst.only [0, 1, 4, 5, 6, 13, 14, 15] rfl, rfl⟩
     refine T.condT rfl (beq_iff_eq.2 c34) ?_
     refine T.region ?_
     iterate 3 refine aA rfl rfl ?_
     refine TL.nil ?_
     obtain rfl := osi ht33
     exact ⟨_, Gst.only [0, 1, 4, 5, 6, 13, 14, 15] rfl, rfl⟩
   rintro _ rfl
   show T X _ _ _
   refine T.seq ?_
   obtain ⟨t35, ht35, q11⟩ := bS q11
   refine T.cutC (fun S' => ∃ y36 : Value, S' = ⟨[(60, (dT t35.1)), (15, (dN s7.2.1)), (14, (dN (a1.length : Int))), (13, .sl 1 (lB a1)), (5, (dN t33)), (4, .sl 1 (List.map (eI .i64) x2)), (1, (dP b1)), (0, .fn (.yield b0) [] [])], [.lp b0 .ready none [10] rfA16_0 rfB16_0 [(5, (dP b3))] 16, .var b1 [.sl 1 (lB a0)] 25, .var b2 [.sl 1 (lB a1)] 25, .var b3 [.val y36] 33, .row y36 (List.map (eI .i64) t35.2) 1 3], 62⟩) (fun _ h => h) ?_ ?_
   rotate_left
   · rintro _ ⟨y36, rfl⟩
     show T X _ _ _
     rcases ite_some q11 with ⟨c40, q11⟩ | ⟨c40, q11⟩
     · refine T.condT rfl (c40) ?_
       refine T.ret ?_
       obtain rfl := osi q11
       obtain rfl : _ = _ := i12
       obtain rfl := osi h0
       exact rO [0, 1, 2, 3, 4] [] rfl (.tuple #[y36]) ResL.nil rfl rfl rfl rfl
     refine T.condF rfl (eq_false_of_ne_true c40) ?_
     refine aK rfl ?_
     refine T.region ?_
     iterate 2 refine aA rfl rfl ?_
     refine TL.nil ?_
     obtain rfl := osi q11
     exact ⟨m9, Nat.lt_succ_self _, _, Gst.only [0, 1, 4, 5, 13, 14, 15] rfl, y36, (t33, w64 (s7.2.1 + 1), t35.2), rfl, i12⟩
   refine T.region ?_
   refine aA rfl rfl ?_
   refine TL.op1 (OpR.loadPtr 1 rfl rfl rfl rfl) rfl ?_
   refine TL.op1 (OpR.cast (OpR.pure rfl) (intE (lenM _ _))) rfl ?_
   iterate 2 refine aA rfl rfl ?_
   rcases ite_some ht35 with ⟨c37, ht35⟩ | ⟨c37, ht35⟩
   rotate_left
   · refine TL.off rfl rfl rfl rfl (beq_eq_false_iff_ne.2 c37) rfl rfl ?_
     refine TL.off rfl rfl rfl rfl (beq_eq_false_iff_ne.2 c37) rfl rfl ?_
     refine TL.off rfl rfl rfl rfl (beq_eq_false_iff_ne.2 c37) rfl rfl ?_
     refine TL.off rfl rfl rfl rfl (beq_eq_false_iff_ne.2 c37) rfl rfl ?_
     refine TL.off rfl rfl rfl rfl (beq_eq_false_iff_ne.2 c37) rfl rfl ?_
     refine TL.off rfl rfl rfl rfl (beq_eq_false_iff_ne.2 c37) rfl rfl ?_
     refine TL.off rfl rfl rfl rfl (beq_eq_false_iff_ne.2 c37) rfl rfl ?_
     refine TL.op1 (OpR.pickF rfl (beq_eq_false_iff_ne.2 c37) rfl) rfl ?_
     refine TL.nil ?_
     obtain rfl := osi ht35
     exact ⟨_, Gst.only [0, 1, 4, 5, 13, 14, 15, 60] rfl, y6, rfl⟩
   refine TL.on rfl rfl rfl rfl (beq_iff_eq.2 c37) ?_
   refine aA rfl rfl ?_
   refine TL.on rfl rfl rfl rfl (beq_iff_eq.2 c37) ?_
   refine aA rfl rfl ?_
   refine TL.on rfl rfl rfl rfl (beq_iff_eq.2 c37) ?_
   refine aA rfl rfl ?_
   refine TL.on rfl rfl rfl rfl (beq_iff_eq.2 c37) ?_
   refine aA rfl rfl ?_
   refine TL.on rfl rfl rfl rfl (beq_iff_eq.2 c37) ?_
   refine aA rfl rfl ?_
   refine TL.on rfl rfl rfl rfl (beq_iff_eq.2 c37) ?_
   obtain ⟨x38, hx38, ht35⟩ := bS ht35
   refine TL.op (OpR.callY [0, 3, 4] rfl (find_Every_r0_2_c hx38) rfl rfl rfl (fun _ => rfl)) rfl (fun w39 => ?_)
   refine TL.on rfl rfl rfl rfl (beq_iff_eq.2 c37) ?_
   refine aA rfl rfl ?_
   refine TL.op1 (OpR.pickT rfl (beq_iff_eq.2 c37) rfl) rfl ?_
   refine TL.nil ?_
   obtain rfl := osi ht35
   exact ⟨_, Gst.only [0, 1, 4, 5, 13, 14, 15, 60] rfl, (vn w39 0), rfl⟩
 refine T.block ?_
 obtain ⟨n19, n24⟩ := loop_some ht17
 refine T.loop (fun n S' => ∃ S'', Gst S' S'' ∧ ∃ s18 : Int, S'' = ⟨[(15, (dN s7.2.1)), (14, (dN (a1.length : Int))), (13, .sl 1 (lB a1)), (7, .val (.int .u8 (x16.toNat : Int))), (6, (dN s7.2.1)), (5, (dN s18)), (4, .sl 1 (List.map (eI .i64) x2)), (1, (dP b1)), (0, .fn (.yield b0) [] [])], [.lp b0 .ready none [10] rfA16_0 rfB16_0 [(5, (dP b3))] 16, .var b1 [.sl 1 (lB a0)] 25, .var b2 [.sl 1 (lB a1)] 25, .var b3 [.val y6] 33, .row y6 (List.map (eI .i64) s7.2.2) 1 3], 62⟩ ∧ iter (find_places_1_3.l1 a0 x2 x16) n s18 = some t17) n19 ?_ ?_
 · exact ⟨_, Gst.only [0, 1, 4, 5, 6, 7, 13, 14, 15] rfl, s7.1, rfl, n24⟩
 rintro n19 _ ⟨_, g, s18, rfl, i23⟩
 refine T.ghost g ?_
 obtain ⟨m20, q21, rfl, q22, i23⟩ := iter_succ i23
 unfold find_places_1_3.l1 at q22
 refine T.seq ?_
 refine T.seq ?_
 obtain ⟨t26, ht26, q22⟩ := bS q22
 refine T.cutC (fun S' => S' = ⟨[(35, (dT t26)), (15, (dN s7.2.1)), (14, (dN (a1.length : Int))), (13, .sl 1 (lB a1)), (7, .val (.int .u8 (x16.toNat : Int))), (6, (dN s7.2.1)), (5, (dN s18)), (4, .sl 1 (List.map (eI .i64) x2)), (1, (dP b1)), (0, .fn (.yield b0) [] [])], [.lp b0 .ready none [10] rfA16_0 rfB16_0 [(5, (dP b3))] 16, .var b1 [.sl 1 (lB a0)] 25, .var b2 [.sl 1 (lB a1)] 25, .var b3 [.val y6] 33, .row y6 (List.map (eI .i64) s7.2.2) 1 3], 62⟩) (fun _ h => h) ?_ ?_
 rotate_left
 · rintro _ rfl
   show T X _ _ _
   rcases ite_some q22 with ⟨c30, q22⟩ | ⟨c30, q22⟩
   rotate_left
   · refine T.condF rfl (eq_false_of_ne_true c30) ?_
     refine T.exit ?_
     obtain rfl := osi q22
     obtain rfl : _ = _ := i23
     exact ⟨_, Gst.only [0, 1, 4, 5, 6, 7, 13, 14, 15] rfl, rfl⟩
   refine T.condT rfl (c30) ?_
   refine aK rfl ?_
   refine T.block ?_
   refine T.region ?_
   iterate 2 refine aA rfl rfl ?_
   obtain ⟨x31, hx31, q22⟩ := bS q22
   refine TL.op1 (OpR.indexM (eI .i64) hx31 rfl rfl rfl rfl rfl) rfl ?_
   iterate 2 refine aA rfl rfl ?_
   refine TL.nil ?_
   obtain rfl := osi q22
   exact ⟨m20, Nat.lt_succ_self _, _, Gst.only [0, 1, 4, 5, 6, 7, 13, 14, 15] rfl, x31, rfl, i23⟩
 refine T.region ?_
 iterate 3 refine aA rfl rfl ?_
 rcases ite_some ht26 with ⟨c27, ht26⟩ | ⟨c27, ht26⟩
 rotate_left
 · refine TL.off rfl rfl rfl rfl (eF c27) rfl rfl ?_
   refine TL.off rfl rfl rfl rfl (eF c27) rfl rfl ?_
   refine TL.off rfl rfl rfl rfl (eF c27) rfl rfl ?_
   refine TL.off rfl rfl rfl rfl (eF c27) rfl rfl ?_
   refine TL.off rfl rfl rfl rfl (eF c27) rfl rfl ?_
   refine TL.offU rfl rfl rfl rfl rfl rfl ?_
   refine TL.offU rfl rfl rfl rfl rfl rfl ?_
   refine TL.offU rfl rfl rfl rfl rfl rfl ?_
   refine TL.offU rfl rfl rfl rfl rfl rfl ?_
   refine TL.offU rfl rfl rfl rfl rfl rfl ?_
   refine TL.offU rfl rfl rfl rfl rfl rfl ?_
   refine TL.off rfl rfl rfl rfl (eF c27) rfl rfl ?_
   refine TL.op1 (OpR.pickF rfl (eF c27) rfl) rfl ?_
   refine TL.nil ?_
   obtain rfl := osi ht26
   exact ⟨_, Gst.only [0, 1, 4, 5, 6, 7, 13, 14, 15, 35] rfl, rfl⟩
 refine TL.on rfl rfl rfl rfl (eT c27) ?_
 refine aA rfl rfl ?_
 refine TL.on rfl rfl rfl rfl (eT c27) ?_
 refine TL.op1 (OpR.loadPtr 1 rfl rfl rfl rfl) rfl ?_
 refine TL.on rfl rfl rfl rfl (eT c27) ?_
 refine TL.op1 (OpR.cast (OpR.pure rfl) (intE (lenM _ _))) rfl ?_
 refine TL.on rfl rfl rfl rfl (eT c27) ?_
 refine aA rfl rfl ?_
 refine TL.on rfl rfl rfl rfl (eT c27) ?_
 refine aA rfl rfl ?_
 rcases ite_some ht26 with ⟨c28, ht26⟩ | ⟨c28, ht26⟩
 · refine TL.off rfl rfl rfl rfl (beq_iff_eq.2 c28) rfl rfl ?_
   refine TL.off rfl rfl rfl rfl (beq_iff_eq.2 c28) rfl rfl ?_
   refine TL.off rfl rfl rfl rfl (beq_iff_eq.2 c28) rfl rfl ?_
   refine TL.off rfl rfl rfl rfl (beq_iff_eq.2 c28) rfl rfl ?_
   refine TL.off rfl rfl rfl rfl (beq_iff_eq.2 c28) rfl rfl ?_
   refine TL.off rfl rfl rfl rfl (beq_iff_eq.2 c28) rfl rfl ?_
   refine TL.on rfl rfl rfl rfl (eT c27) ?_
   refine TL.op1 (OpR.pickT rfl (beq_iff_eq.2 c28) rfl) rfl ?_
   refine TL.op1 (OpR.pickT rfl (eT c27) rfl) rfl ?_
   refine TL.nil ?_
   obtain rfl := osi ht26
   exact ⟨_, Gst.only [0, 1, 4, 5, 6, 7, 13, 14, 15, 35] rfl, rfl⟩
 refine TL.on rfl rfl rfl rfl (beq_eq_false_iff_ne.2 c28) ?_
 refine aA rfl rfl ?_
 refine TL.on rfl rfl rfl rfl (beq_eq_false_iff_ne.2 c28) ?_
 refine TL.op1 (OpR.loadPtr 1 rfl rfl rfl rfl) rfl ?_
 refine TL.on rfl rfl rfl rfl (beq_eq_false_iff_ne.2 c28) ?_
 refine aA rfl rfl ?_
 refine TL.on rfl rfl rfl rfl (beq_eq_false_iff_ne.2 c28) ?_
 obtain ⟨x29, hx29, ht26⟩ := bS ht26
 refine TL.op1 (OpR.indexM byteD hx29 rfl rfl rfl rfl rfl) rfl ?_
 refine TL.on rfl rfl rfl rfl (beq_eq_false_iff_ne.2 c28) ?_
 refine aA rfl rfl ?_
 refine TL.on rfl rfl rfl rfl (beq_eq_false_iff_ne.2 c28) ?_
 refine aA rfl rfl ?_
 refine TL.on rfl rfl rfl rfl (eT c27) ?_
 refine TL.op1 (OpR.pickF rfl (beq_eq_false_iff_ne.2 c28) rfl) rfl ?_
 refine TL.op1 (OpR.pickT rfl (eT c27) rfl) rfl ?_
 refine TL.nil ?_
 obtain rfl := osi ht26
 exact ⟨_, Gst.only [0, 1, 4, 5, 6, 7, 13, 14, 15, 35] rfl, rfl⟩
noncomputable def find_Every (a0 : List UInt8) (a1 : List UInt8) : Option (List Int) :=
  bnd (find_places a0 a1) fun x2 =>
  bnd (find_places_1_3 x2.1 x2.2) fun x5 =>
  some x5
theorem find_Every_c {a0 : List UInt8} {a1 : List UInt8} {res : (List Int)} (h0 : find_Every a0 a1 = some res) : CallF X 16 [.sl 1 (lB a0), .sl 1 (lB a1)] [] (fun x => .sl 1 (List.map (eI .i64) res)) (fun x => []) := by
 unfold find_Every at h0
 refine CallF.mkG (X := X) rfl Try.func16 rfl rfl Try.ntmps16 rfl rfl ?_
 refine aS ?_
 refine aA rfl rfl ?_
 refine aN rfl ?_
 refine aS ?_
 refine TL.op (OpR.alloc rfl rfl (fun _ => rfl)) rfl (fun p1 => ?_)
 refine aN rfl ?_
 refine T.seq ?_
 refine aS ?_
 iterate 2 refine aA rfl rfl ?_
 obtain ⟨x2, hx2, h0⟩ := bS h0
 refine TL.op (OpR.call [] fn64 (find_places_c hx2) rfl rfl rfl (fun _ => rfl)) rfl (fun w3 => ?_)
 refine aN rfl ?_
 refine T.block ?_
 obtain ⟨x5, hx5, h0⟩ := bS h0
 refine T.rangeN (A := rfA16_0) (B := rfB16_0) [5] [1, 2, 0] (.inl rfl) rfl rfl rfl rfl rfl fn117 rfl rfl (fun l4 => (find_places_1_3_c hx5)) (fun _ => rfl) (fun w6 => ?_)
 show T X _ _ _
 refine aS ?_
 refine TL.op1 (OpR.loadPtr 0 rfl rfl rfl rfl) rfl ?_
 refine aA rfl rfl ?_
 refine aN rfl ?_
 refine T.ret ?_
 obtain rfl := osi h0
 exact PostG.retP (ks := []) (Gst.trans (Gst.only [4] rfl) (Gst.trans (Gst.freezeRow 3 rfl rfl (ReS.cons (Re.base .all) ReS.nil) (ReO.var (ReL.cons (Re.base .all) ReL.nil) (ReO.same (ReO.same (ReO.same ReO.nil))))) (Gst.pick [] rfl rfl))) undef (cT rfl ResL.nil) rfl rfl rfl rfl
noncomputable def ref09_Same.l1 (a0 : List Int) (a1 : List Int) (s4 : Int) : Option (Lp Int (Ex Unit Bool)) :=
  if s4 < (a0.length : Int) then
    bnd (idx a0 s4) fun x14 =>
    bnd (idx a1 s4) fun x15 =>
    if x14 = x15 then
      some (Lp.next (w64 (s4 + 1)))
    else
      some (Lp.done (Ex.ret false))
  else
    some (Lp.done (Ex.brk ()))
noncomputable def ref09_Same (a0 : List Int) (a1 : List Int) : Option Bool :=
  if (a0.length : Int) = (a1.length : Int) then
    bnd (loop (ref09_Same.l1 a0 a1) 0 : Option (Ex Unit Bool)) fun t2 => match t2 with
      | .brk u3 =>
        some true
      | .ret u3 => some u3
  else
    some false
theorem ref09_Same_c {a0 : List Int} {a1 : List Int} {res : Bool} (h0 : ref09_Same a0 a1 = some res) : CallF X 15 [.sl 1 (List.map (eI .i64) a0), .sl 1 (List.map (eI .i64) a1)] [] (fun x => (dT res)) (fun x => []) := by
 unfold ref09_Same at h0
 refine CallF.mkG (X := X) rfl Try.func15 rfl rfl Try.ntmps15 rfl rfl ?_
 refine aS ?_
 refine aA rfl rfl ?_
 refine aN rfl ?_
 refine T.seq ?_
 refine aS ?_
 refine aA rfl rfl ?_
 refine TL.op1 (OpR.cast (OpR.pure rfl) (intE (lenM _ _))) rfl ?_
 refine aA rfl rfl ?_
 refine TL.op1 (OpR.cast (OpR.pure rfl) (intE (lenM _ _))) rfl ?_
 refine aA rfl rfl ?_
 refine aN rfl ?_
 rcases ite_some h0 with ⟨c1, h0⟩ | ⟨c1, h0⟩
 rotate_left
 · refine T.condT rfl (not_f (beq_eq_false_iff_ne.2 c1)) ?_
   refine aS ?_
   refine aA rfl rfl ?_
   refine aN rfl ?_
   refine T.ret ?_
   obtain rfl := osi h0
   exact rO [] [4] rfl undef (cT rfl ResL.nil) rfl rfl rfl rfl
 refine T.condF rfl (not_t (beq_iff_eq.2 c1)) ?_
 refine aK rfl ?_
 refine T.seq ?_
 refine aS ?_
 refine aA rfl rfl ?_
 refine TL.op1 (OpR.cast (OpR.pure rfl) (intE (lenM _ _))) rfl ?_
 refine aA rfl rfl ?_
 refine aN rfl ?_
 obtain ⟨t2, ht2, h0⟩ := bS h0
 refine T.cutC (fun S' => ∃ u3, t2 = Ex.brk u3 ∧ S' = ⟨[(4, (dT false))], [], 26⟩) (fun _ h => h) ?_ ?_
 rotate_left
 · rintro _ ⟨u3, rfl, rfl⟩
   show T X _ _ _
   refine aS ?_
   refine aA rfl rfl ?_
   refine aN rfl ?_
   refine T.ret ?_
   obtain rfl := osi h0
   exact rO [] [4] rfl undef (cT rfl ResL.nil) rfl rfl rfl rfl
 refine T.block ?_
 obtain ⟨n5, n10⟩ := loop_some ht2
 refine T.loop (fun n S' => ∃ S'', Gst S' S'' ∧ ∃ s4 : Int, S'' = ⟨[(13, (dN s4)), (12, (dN (a0.length : Int))), (4, (dT false)), (1, .sl 1 (List.map (eI .i64) a1)), (0, .sl 1 (List.map (eI .i64) a0))], [], 26⟩ ∧ iter (ref09_Same.l1 a0 a1) n s4 = some t2) n5 ?_ ?_
 · exact ⟨_, Gst.only [0, 1, 4, 12, 13] rfl, 0, rfl, n10⟩
 rintro n5 _ ⟨_, g, s4, rfl, i9⟩
 refine T.ghost g ?_
 obtain ⟨m6, q7, rfl, q8, i9⟩ := iter_succ i9
 unfold ref09_Same.l1 at q8
 refine aS ?_
 refine aA rfl rfl ?_
 refine aN rfl ?_
 refine T.seq ?_
 rcases ite_some q8 with ⟨c12, q8⟩ | ⟨c12, q8⟩
 rotate_left
 · refine T.condF rfl (eF c12) ?_
   refine T.exit ?_
   obtain rfl := osi q8
   obtain rfl : _ = _ := i9
   exact ⟨_, Gst.only [4] rfl, _, rfl, rfl⟩
 refine T.condT rfl (eT c12) ?_
 refine aK rfl ?_
 refine T.seq ?_
 refine T.block ?_
 refine aS ?_
 iterate 2 refine aA rfl rfl ?_
 refine aN rfl ?_
 refine T.seq ?_
 obtain ⟨x14, hx14, q8⟩ := bS q8
 obtain ⟨x15, hx15, q8⟩ := bS q8
 refine T.drawQ drawsX [.sl 1 (List.map (eI .i64) a0), dN s4, .nod [dN x14], dN x14, .sl 1 (List.map (eI .i64) a1), dN s4, .nod [dN x15], dN x15, dT (!(x14 == x15))] [0, 1, 4, 12, 13, 24] (by decide +kernel) rfl ?_ rfl ?_
 · iterate 2 refine aB rfl rfl rfl ?_
   refine OpsQ.yes (Want.plain rfl) rfl (OpR.indexM (eI .i64) hx14 rfl rfl rfl rfl rfl) ?_
   iterate 3 refine aB rfl rfl rfl ?_
   refine OpsQ.yes (Want.plain rfl) rfl (OpR.indexM (eI .i64) hx15 rfl rfl rfl rfl rfl) ?_
   iterate 2 refine aB rfl rfl rfl ?_
   exact OpsQ.nil
 show T X _ _ _
 rcases ite_some q8 with ⟨c16, q8⟩ | ⟨c16, q8⟩
 · refine T.condF rfl (not_t (beq_iff_eq.2 c16)) ?_
   refine aK rfl ?_
   refine T.region ?_
   iterate 2 refine aA rfl rfl ?_
   refine TL.nil ?_
   obtain rfl := osi q8
   exact ⟨m6, Nat.lt_succ_self _, _, Gst.only [0, 1, 4, 12, 13] rfl, w64 (s4 + 1), rfl, i9⟩
 refine T.condT rfl (not_f (beq_eq_false_iff_ne.2 c16)) ?_
 refine aS ?_
 refine aA rfl rfl ?_
 refine aN rfl ?_
 refine T.ret ?_
 obtain rfl := osi q8
 obtain rfl : _ = _ := i9
 obtain rfl := osi h0
 exact rO [] [4] rfl undef (cT rfl ResL.nil) rfl rfl rfl rfl
noncomputable def find_having_nil (a0 : grid_Grid) (a1 : List UInt8) : Option ((Option NP) × Bool × Int × (List UInt8)) :=
  some (a0.fRows.fRoot, a0.fTail, a0.fEnd, a1)
theorem find_having_nil_c {a0 : grid_Grid} {a1 : List UInt8} {res : (Option NP) × Bool × Int × (List UInt8)} (h0 : find_having_nil a0 a1 = some res) : CallF X 108 [.agg [(eOP a0.fRows.fRoot), dT a0.fTail, dN a0.fEnd], dQ, .sl 1 (lB a1)] [] (fun x => .fn (.func 160) [] [dP (blk (vn x 0)), dP (blk (vn x 1))]) (fun x => [.var (blk (vn x 0)) [(eOP res.1), dT res.2.1, dN res.2.2.1] 120, .var (blk (vn x 1)) [.fn (.func 159) [] [dP (blk (vn x 2)), dP (blk (vn x 3))]] 239, .var (blk (vn x 2)) [dQ] 39, .var (blk (vn x 3)) [.sl 1 (lB res.2.2.2)] 25]) := by
 unfold find_having_nil at h0
 refine CallF.mkG (X := X) rfl Try.func108 rfl rfl Try.ntmps108 rfl rfl ?_
 refine aS ?_
 refine TL.op (OpR.boxVar rfl rfl (fun _ => rfl)) rfl (fun p1 => ?_)
 refine TL.op (OpR.boxVar rfl rfl (fun _ => rfl)) rfl (fun p2 => ?_)
 refine TL.op (OpR.boxVar rfl rfl (fun _ => rfl)) rfl (fun p3 => ?_)
 refine aA rfl rfl ?_
 refine aN rfl ?_
 refine aS ?_
 refine aA rfl rfl ?_
 refine TL.op (OpR.alloc rfl rfl (fun _ => rfl)) rfl (fun p4 => ?_)
 refine TL.op0 (OpR.store 3 rfl rfl rfl rfl rfl rfl rfl rfl) ?_
 refine aN rfl ?_
 refine aS ?_
 iterate 2 refine aA rfl rfl ?_
 refine aN rfl ?_
 refine T.ret ?_
 obtain rfl := osi h0
 exact rP [0, 1, 2, 3] [6] [0, 3, 1, 2] rfl rfl rfl (.tuple #[p1, p4, p2, p3]) (cT rfl ResL.nil) rfl rfl rfl rfl
noncomputable def arena_Arena_Right_nil (a0 : arena_Span) : Option Bool :=
  some false
theorem arena_Arena_Right_nil_c {a0 : arena_Span} {res : Bool} (h0 : arena_Arena_Right_nil a0 = some res) : CallF X 187 [dQ, .agg [dN a0.fAt, dN a0.fN]] [] (fun x => (dT res)) (fun x => []) := by
 unfold arena_Arena_Right_nil at h0
 refine CallF.mkG (X := X) rfl Try.func187 rfl rfl Try.ntmps187 rfl rfl ?_
 refine aS ?_
 refine TL.op1 (OpR.boxImm rfl rfl) rfl ?_
 refine aA rfl rfl ?_
 refine aN rfl ?_
 refine T.seq ?_
 refine aS ?_
 refine aA rfl rfl ?_
 refine TL.op1 (OpR.ptrNil (A := none) rfl rfl rfl) rfl ?_
 refine aN rfl ?_
 refine T.condT rfl rfl ?_
 refine aS ?_
 refine aA rfl rfl ?_
 refine aN rfl ?_
 refine T.ret ?_
 obtain rfl := osi h0
 exact rO [] [4] rfl undef (cT rfl ResL.nil) rfl rfl rfl rfl
noncomputable def arena_Arena_part_nil (a0 : arena_Span) : Option (List UInt8) :=
  bnd (arena_Arena_Right_nil a0) fun x1 =>
  if x1 = true then
    none
  else
    some []
theorem arena_Arena_part_nil_c {a0 : arena_Span} {res : (List UInt8)} (h0 : arena_Arena_part_nil a0 = some res) : CallF X 149 [dQ, .agg [dN a0.fAt, dN a0.fN]] [] (fun x => .sl 1 (lB res)) (fun x => []) := by
 unfold arena_Arena_part_nil at h0
 refine CallF.mkG (X := X) rfl Try.func149 rfl rfl Try.ntmps149 rfl rfl ?_
 refine aS ?_
 refine TL.op1 (OpR.boxImm rfl rfl) rfl ?_
 refine aA rfl rfl ?_
 refine aN rfl ?_
 refine T.seq ?_
 refine aS ?_
 iterate 2 refine aA rfl rfl ?_
 obtain ⟨x1, hx1, h0⟩ := bS h0
 refine TL.op1 (OpR.call0 fn187 (arena_Arena_Right_nil_c hx1) rfl) rfl ?_
 refine aA rfl rfl ?_
 refine aN rfl ?_
 rcases ite_some h0 with ⟨c2, h0⟩ | ⟨c2, h0⟩
 · refine T.condF rfl (not_t (c2)) ?_
   refine aK rfl ?_
   refine T.seq ?_
   exact (by cases h0)
 refine T.condT rfl (not_f (eq_false_of_ne_true c2)) ?_
 refine aS ?_
 refine aA rfl rfl ?_
 refine aN rfl ?_
 refine T.ret ?_
 obtain rfl := osi h0
 exact PostG.retP (ks := []) (Gst.trans (Gst.only [4] rfl) (Gst.denil (ReS.cons (Re.base .nil) ReS.nil) ReO.nil)) undef (cT rfl ResL.nil) rfl rfl rfl rfl
noncomputable def arena_Arena_Bytes_nil (a0 : arena_Span) : Option (List UInt8) :=
  bnd (arena_Arena_part_nil a0) fun x1 =>
  bnd (mkz 1 (x1.length : Int) (0 : UInt8)) fun x2 =>
  some (over x2 x1)
theorem arena_Arena_Bytes_nil_c {a0 : arena_Span} {res : (List UInt8)} (h0 : arena_Arena_Bytes_nil a0 = some res) : CallF X 91 [dQ, .agg [dN a0.fAt, dN a0.fN]] [] (fun x => .sl 1 (lB res)) (fun x => []) := by
 unfold arena_Arena_Bytes_nil at h0
 refine CallF.mkG (X := X) rfl Try.func91 rfl rfl Try.ntmps91 rfl rfl ?_
 refine aS ?_
 refine TL.op1 (OpR.boxImm rfl rfl) rfl ?_
 refine aA rfl rfl ?_
 refine aN rfl ?_
 refine aS ?_
 iterate 2 refine aA rfl rfl ?_
 obtain ⟨x1, hx1, h0⟩ := bS h0
 refine TL.op1 (OpR.call0 fn149 (arena_Arena_part_nil_c hx1) rfl) rfl ?_
 refine aA rfl rfl ?_
 refine aN rfl ?_
 refine aS ?_
 refine aA rfl rfl ?_
 refine TL.op1 (OpR.cast (OpR.pure rfl) (intE (lenM _ _))) rfl ?_
 obtain ⟨x2, hx2, h0⟩ := bS h0
 refine TL.op (OpR.makeM byteD hx2 rfl rfl rfl rfl rfl rfl rfl rfl rfl rfl rfl (fun _ => rfl)) rfl (fun v3 => ?_)
 refine aA rfl rfl ?_
 refine aN rfl ?_
 refine aS ?_
 iterate 2 refine aA rfl rfl ?_
 refine TL.op1 (OpR.copyM byteD 0 rfl rfl rfl rfl rfl rfl rfl rfl) rfl ?_
 refine aN rfl ?_
 refine aS ?_
 iterate 2 refine aA rfl rfl ?_
 refine aN rfl ?_
 refine T.ret ?_
 obtain rfl := osi h0
 exact PostG.retP (ks := []) (Gst.trans (Gst.only [4] rfl) (Gst.trans (Gst.freezeRow 0 rfl rfl (ReS.cons (Re.base .all) ReS.nil) (ReO.same ReO.nil)) (Gst.pick [] rfl rfl))) undef (cT rfl ResL.nil) rfl rfl rfl rfl
noncomputable def piece_Text_Flat_nil.l1 (a0 : piece_Text) (s4 : Int × (List UInt8)) : Option (Lp (Int × (List UInt8)) (List UInt8)) :=
  if s4.1 < (a0.fL.length : Int) then
    bnd (idx a0.fL s4.1) fun x13 =>
    bnd (arena_Arena_Bytes_nil x13) fun x15 =>
    bnd (app 1 s4.2 x15) fun x16 =>
    some (Lp.next (w64 (s4.1 + 1), x16))
  else
    some (Lp.done s4.2)
noncomputable def piece_Text_Flat_nil (a0 : piece_Text) : Option (List UInt8) :=
  bnd (loop (piece_Text_Flat_nil.l1 a0) (0, []) : Option (List UInt8)) fun t1 =>
  some t1
theorem piece_Text_Flat_nil_c {a0 : piece_Text} {res : (List UInt8)} (h0 : piece_Text_Flat_nil a0 = some res) : CallF X 46 [.agg [.sl 2 (List.map e_arena_Span a0.fL), dN a0.fN], dQ] [] (fun x => .sl 1 (lB res)) (fun x => []) := by
 unfold piece_Text_Flat_nil at h0
 refine CallF.mkG (X := X) rfl Try.func46 rfl rfl Try.ntmps46 rfl rfl ?_
 refine aS ?_
 refine TL.op1 (OpR.boxImm rfl rfl) rfl ?_
 refine aA rfl rfl ?_
 refine aN rfl ?_
 refine aS ?_
 refine aA rfl rfl ?_
 refine aN rfl ?_
 refine T.seq ?_
 refine aS ?_
 iterate 2 refine aA rfl rfl ?_
 refine TL.op1 (OpR.cast (OpR.pure rfl) (intE (lenM _ _))) rfl ?_
 refine aA rfl rfl ?_
 refine aN rfl ?_
 obtain ⟨t1, ht1, h0⟩ := bS h0
 refine T.cutC (fun S' => ∃ y2 : Value, S' = ⟨[(5, .val y2), (4, .val (.slice none 0 0))], [.row y2 (lB t1) 1 5], 22⟩) (fun _ h => h) ?_ ?_
 rotate_left
 · rintro _ ⟨y2, rfl⟩
   show T X _ _ _
   refine aS ?_
   iterate 2 refine aA rfl rfl ?_
   refine aN rfl ?_
   refine T.ret ?_
   obtain rfl := osi h0
   exact PostG.retP (ks := []) (Gst.trans (Gst.only [4] rfl) (Gst.trans (Gst.freezeRow 0 rfl rfl (ReS.cons (Re.base .all) ReS.nil) (ReO.same ReO.nil)) (Gst.pick [] rfl rfl))) undef (cT rfl ResL.nil) rfl rfl rfl rfl
 refine T.block ?_
 obtain ⟨n5, n10⟩ := loop_some ht1
 refine T.loop (fun n S' => ∃ S'', Gst S' S'' ∧ ∃ y3 : Value, ∃ s4 : Int × (List UInt8), S'' = ⟨[(11, (dN s4.1)), (10, (dN (a0.fL.length : Int))), (9, .sl 2 (List.map e_arena_Span a0.fL)), (5, .val y3), (4, .val (.slice none 0 0)), (1, dQ)], [.row y3 (lB s4.2) 1 5], 22⟩ ∧ iter (piece_Text_Flat_nil.l1 a0) n s4 = some t1) n5 ?_ ?_
 · exact ⟨_, Gst.trans (Gst.only [1, 4, 5, 9, 10, 11] rfl) (Gst.nilRow (ow := []) 1 5 rfl), (.slice none 0 0), (0, []), rfl, n10⟩
 rintro n5 _ ⟨_, g, y3, s4, rfl, i9⟩
 refine T.ghost g ?_
 obtain ⟨m6, q7, rfl, q8, i9⟩ := iter_succ i9
 unfold piece_Text_Flat_nil.l1 at q8
 refine aS ?_
 refine aA rfl rfl ?_
 refine aN rfl ?_
 refine T.seq ?_
 rcases ite_some q8 with ⟨c12, q8⟩ | ⟨c12, q8⟩
 rotate_left
 · refine T.condF rfl (eF c12) ?_
   refine T.exit ?_
   obtain rfl := osi q8
   obtain rfl : _ = _ := i9
   exact ⟨_, Gst.only [4, 5] rfl, y3, rfl⟩
 refine T.condT rfl (eT c12) ?_
 refine aK rfl ?_
 refine T.seq ?_
 refine T.block ?_
 refine aS ?_
 obtain ⟨x13, hx13, q8⟩ := bS q8
 refine TL.op1 (OpR.indexM e_arena_Span hx13 rfl rfl rfl rfl rfl) rfl ?_
 refine aA rfl rfl ?_
 refine TL.op (OpR.alloc rfl rfl (fun _ => rfl)) rfl (fun p14 => ?_)
 refine TL.op0 (OpR.store 1 rfl rfl rfl rfl rfl rfl rfl rfl) ?_
 refine aN rfl ?_
 refine T.region ?_
 iterate 2 refine aA rfl rfl ?_
 refine TL.op1 (OpR.loadPtr 1 rfl rfl rfl rfl) rfl ?_
 obtain ⟨x15, hx15, q8⟩ := bS q8
 refine TL.op1 (OpR.call0 fn91 (arena_Arena_Bytes_nil_c hx15) rfl) rfl ?_
 obtain ⟨x16, hx16, q8⟩ := bS q8
 refine TL.op (OpR.appendM (m := x15) byteD 0 hx16 rfl rfl rfl rfl rfl rfl rfl rfl rfl (fun _ => rfl)) rfl (fun v17 => ?_)
 refine aA rfl rfl ?_
 refine aN rfl ?_
 refine T.region ?_
 iterate 2 refine aA rfl rfl ?_
 refine TL.nil ?_
 obtain rfl := osi q8
 exact ⟨m6, Nat.lt_succ_self _, _, gP [1, 4, 5, 9, 10, 11] [0] rfl rfl rfl, v17, (w64 (s4.1 + 1), x16), rfl, i9⟩
noncomputable def cell_Cell_Bytes_nil (a0 : cell_Cell) : Option (List UInt8) :=
  bnd (piece_Text_Flat_nil a0.fText) fun x1 =>
  some x1
theorem cell_Cell_Bytes_nil_c {a0 : cell_Cell} {res : (List UInt8)} (h0 : cell_Cell_Bytes_nil a0 = some res) : CallF X 102 [.agg [.sl 2 (List.map e_arena_Span a0.fText.fL), dN a0.fText.fN, dN a0.fRaw.fAt, dN a0.fRaw.fN, dT a0.fKept], dQ] [] (fun x => .sl 1 (lB res)) (fun x => []) := by
 unfold cell_Cell_Bytes_nil at h0
 refine CallF.mkG (X := X) rfl Try.func102 rfl rfl Try.ntmps102 rfl rfl ?_
 refine aS ?_
 refine TL.op1 (OpR.boxImm rfl rfl) rfl ?_
 refine aA rfl rfl ?_
 refine aN rfl ?_
 refine aS ?_
 iterate 3 refine aA rfl rfl ?_
 obtain ⟨x1, hx1, h0⟩ := bS h0
 refine TL.op1 (OpR.call0 fn46 (piece_Text_Flat_nil_c hx1) rfl) rfl ?_
 refine aA rfl rfl ?_
 refine aN rfl ?_
 refine T.ret ?_
 obtain rfl := osi h0
 exact rO [] [4] rfl undef (cT rfl ResL.nil) rfl rfl rfl rfl
noncomputable def find_having_1_2 (a0 : cell_Cell) (a1 : List UInt8) : Option Bool :=
  bnd (cell_Cell_Bytes_nil a0) fun x2 =>
  bnd (find_First x2 a1 0) fun x3 =>
  some (decide (x3 ≥ 0))
theorem find_having_1_2_c {a0 : cell_Cell} {a1 : List UInt8} {b0 : Nat} {b1 : Nat} {res : Bool} (h0 : find_having_1_2 a0 a1 = some res) : CallF X 159 [.agg [.sl 2 (List.map e_arena_Span a0.fText.fL), dN a0.fText.fN, dN a0.fRaw.fAt, dN a0.fRaw.fN, dT a0.fKept], dP b0, dP b1] [.var b0 [dQ] 39, .var b1 [.sl 1 (lB a1)] 25] (fun x => (dT res)) (fun x => [.var b0 [dQ] 39, .var b1 [.sl 1 (lB a1)] 25]) := by
 unfold find_having_1_2 at h0
 refine CallF.mkG (X := X) rfl Try.func159 rfl rfl Try.ntmps159 rfl rfl ?_
 refine aS ?_
 refine TL.op1 (OpR.boxImm rfl rfl) rfl ?_
 refine aA rfl rfl ?_
 refine aN rfl ?_
 refine T.seq ?_
 obtain ⟨x2, hx2, h0⟩ := bS h0
 obtain ⟨x3, hx3, h0⟩ := bS h0
 refine T.drawQ drawsX [.agg [.sl 2 (List.map e_arena_Span a0.fText.fL), dN a0.fText.fN, dN a0.fRaw.fAt, dN a0.fRaw.fN, dT a0.fKept], dQ, .sl 1 (lB x2), .sl 1 (lB a1), dN x3, dT (decide (x3 ≥ 0)), dT (decide (x3 ≥ 0))] [4] (by decide +kernel) rfl ?_ rfl ?_
 rotate_left
 · show T X _ _ _
   refine T.ret ?_
   obtain rfl := osi h0
   exact rO [0, 1] [4] rfl undef (cT rfl ResL.nil) rfl rfl rfl rfl
 refine aB rfl rfl rfl ?_
 refine OpsQ.yes (Want.plain rfl) rfl (OpR.loadPtr 0 rfl rfl rfl rfl) ?_
 refine OpsQ.yes (Want.plain rfl) rfl (OpR.call0 fn102 (cell_Cell_Bytes_nil_c hx2) rfl) ?_
 refine OpsQ.yes (Want.plain rfl) rfl (OpR.loadPtr 1 rfl rfl rfl rfl) ?_
 refine OpsQ.yes (Want.plain rfl) rfl (OpR.call0 fn20 (find_First_c hx3) rfl) ?_
 iterate 2 refine aB rfl rfl rfl ?_
 exact OpsQ.nil
noncomputable def find_having_2_r0_2.l1 (a0 : Int) (a1 : row_Row) (a2 : Int) (a3 : Int) (a4 : List UInt8) (a5 : Int) (a6 : Int) (a7 : Bool) (s34 : Int × Int × Int × Bool) : Option (Lp (Int × Int × Int × Bool) (Ex (Int × Int × Bool) ((Int × Int × Bool × Int × Int × Bool) ⊕ (Int × Int × Bool)))) :=
  if s34.1 < (a1.fCells.length : Int) then
    bnd (bnd (idx a1.fCells s34.1) fun x45 =>
    if a1.fHidden = true then
      some (Ex.brk (s34.2.1, s34.2.2.1, s34.2.2.2))
    else
      bnd (find_having_1_2 x45 a4) fun x48 =>
      if x48 = true then
        bnd (find_Next_r0 (⟨a0, s34.1⟩ : find_spot) a2 a3 a5 a6 a7 s34.2.1 s34.2.2.1 s34.2.2.2) fun x50 =>
        match x50 with
        | .inl x50 =>
            some (Ex.ret (Sum.inl (x50.1, x50.2.1, x50.2.2, s34.2.1, s34.2.2.1, s34.2.2.2)))
        | .inr x50 =>
            some (Ex.brk (x50.1, x50.2.1, x50.2.2))
      else
        some (Ex.brk (s34.2.1, s34.2.2.1, s34.2.2.2)) : Option (Ex (Int × Int × Bool) ((Int × Int × Bool × Int × Int × Bool) ⊕ (Int × Int × Bool)))) fun t43 => match t43 with
      | .brk u44 =>
        some (Lp.next (w64 (s34.1 + 1), u44.1, u44.2.1, u44.2.2))
      | .ret u44 => some (Lp.done (Ex.ret u44))
  else
    some (Lp.done (Ex.brk (s34.2.1, s34.2.2.1, s34.2.2.2)))
noncomputable def find_having_2_r0_2 (a0 : Int) (a1 : row_Row) (a2 : Int) (a3 : Int) (a4 : List UInt8) (a5 : Int) (a6 : Int) (a7 : Bool) (a8 : Int) (a9 : Int) (a10 : Bool) : Option ((Int × Int × Bool × Int × Int × Bool) ⊕ (Int × Int × Bool)) :=
  bnd (loop (find_having_2_r0_2.l1 a0 a1 a2 a3 a4 a5 a6 a7) (0, a8, a9, a10) : Option (Ex (Int × Int × Bool) ((Int × Int × Bool × Int × Int × Bool) ⊕ (Int × Int × Bool)))) fun t32 => match t32 with
    | .brk u33 =>
      some (Sum.inr (u33.1, u33.2.1, u33.2.2))
    | .ret u33 => some u33
theorem find_having_2_r0_2_c {a0 : Int} {a1 : row_Row} {a2 : Int} {a3 : Int} {a4 : List UInt8} {a5 : Int} {a6 : Int} {a7 : Bool} {a8 : Int} {a9 : Int} {a10 : Bool} {b0 : Nat} {b1 : Nat} {b2 : Nat} {b3 : Nat} {b4 : Nat} {b5 : Nat} {b6 : Nat} {b7 : Nat} {b8 : Nat} {b9 : Nat} {res : (Int × Int × Bool × Int × Int × Bool) ⊕ (Int × Int × Bool)} (h0 : find_having_2_r0_2 a0 a1 a2 a3 a4 a5 a6 a7 a8 a9 a10 = some res) : RoundF X b0 [dN a0, .agg [.sl 5 (List.map e_cell_Cell a1.fCells), dN a1.fEnd, dT a1.fHidden]] [.lp b0 .ready none [13, 14] rfA160_0 rfB160_0 [(3, .nod [.fn (.yield b2) [] []]), (2, (dP b1))] 40, .var b1 [.fn (.func 159) [] [dP b3, dP b4]] 239, .lp b2 .ready none [20] rfA57_0 rfB57_0 [(14, (dP b9)), (13, (dP b8)), (12, (dP b7)), (11, (dP b6)), (10, (dP b5)), (9, .nod [dN a3]), (8, .nod [dN a2])] 38, .var b3 [dQ] 39, .var b4 [.sl 1 (lB a4)] 25, .var b5 [dN a5] 3, .var b6 [dN a6] 3, .var b7 [dT a7] 4, .var b8 [dN a8, dN a9] 202, .var b9 [dT a10] 4] (fun x => (match res with | .inl res => (dT false) | .inr res => (dT true))) (fun x => (match res with | .inl res => [.lp b0 .done (some (.ret)) [13, 14] rfA160_0 rfB160_0 [(3, .nod [.fn (.yield b2) [] []]), (2, (dP b1))] 40, .var b1 [.fn (.func 159) [] [dP b3, dP b4]] 239, .lp b2 .done (some (.ret)) [20] rfA57_0 rfB57_0 [(14, (dP b9)), (13, (dP b8)), (12, (dP b7)), (11, (dP b6)), (10, (dP b5)), (9, .nod [dN a3]), (8, .nod [dN a2])] 38, .var b3 [dQ] 39, .var b4 [.sl 1 (lB a4)] 25, .var b5 [dN res.1] 3, .var b6 [dN res.2.1] 3, .var b7 [dT res.2.2.1] 4, .var b8 [dN res.2.2.2.1, dN res.2.2.2.2.1] 202, .var b9 [dT res.2.2.2.2.2] 4] | .inr res => [.lp b0 .ready none [13, 14] rfA160_0 rfB160_0 [(3, .nod [.fn (.yield b2) [] []]), (2, (dP b1))] 40, .var b1 [.fn (.func 159) [] [dP b3, dP b4]] 239, .lp b2 .ready none [20] rfA57_0 rfB57_0 [(14, (dP b9)), (13, (dP b8)), (12, (dP b7)), (11, (dP b6)), (10, (dP b5)), (9, .nod [dN a3]), (8, .nod [dN a2])] 38, .var b3 [dQ] 39, .var b4 [.sl 1 (lB a4)] 25, .var b5 [dN a5] 3, .var b6 [dN a6] 3, .var b7 [dT a7] 4, .var b8 [dN res.1, dN res.2.1] 202, .var b9 [dT res.2.2] 4])) := by
 unfold find_having_2_r0_2 at h0
 refine RoundF.mk (X := X) rfl rfl rfl ?_
 refine aS ?_
 refine aA rfl rfl ?_
 refine TL.nil ?_
 show T (X.inR b0) _ _ _
 refine T.region ?_
 refine TL.op (OpR.alloc rfl rfl (fun _ => rfl)) rfl (fun p31 => ?_)
 refine TL.op0 (OpR.store 10 rfl rfl rfl rfl rfl rfl rfl rfl) ?_
 refine TL.nil ?_
 refine RoundA.mk ?_
 refine T.block ?_
 refine aS ?_
 refine aA rfl rfl ?_
 refine TL.op1 (OpR.loadPtr 10 rfl rfl rfl rfl) rfl ?_
 refine TL.op1 (OpR.cast (OpR.pure rfl) (intE (lenM _ _))) rfl ?_
 refine aA rfl rfl ?_
 refine TL.nil ?_
 show T (X.inR b0) _ _ _
 obtain ⟨t32, ht32, h0⟩ := bS h0
 refine T.cutN (fun S' => ∃ u33, t32 = Ex.brk u33 ∧ S' = ⟨[], [.lp b0 .busy none [13, 14] rfA160_0 rfB160_0 [(3, .nod [.fn (.yield b2) [] []]), (2, (dP b1))] 40, .var b1 [.fn (.func 159) [] [dP b3, dP b4]] 239, .lp b2 .ready none [20] rfA57_0 rfB57_0 [(14, (dP b9)), (13, (dP b8)), (12, (dP b7)), (11, (dP b6)), (10, (dP b5)), (9, .nod [dN a3]), (8, .nod [dN a2])] 38, .var b3 [dQ] 39, .var b4 [.sl 1 (lB a4)] 25, .var b5 [dN a5] 3, .var b6 [dN a6] 3, .var b7 [dT a7] 4, .var b8 [dN u33.1, dN u33.2.1] 202, .var b9 [dT u33.2.2] 4], 40⟩) (RoundG.ghost) ?_ ?_
 rotate_left
 · rintro _ ⟨u33, rfl, rfl⟩
   obtain rfl := osi h0
   exact RoundG.mk (ks := [0, 1, 2, 3, 4, 5, 6, 7, 8, 9]) (Gst.only [] rfl) undef rfl rfl rfl rfl rfl
 refine T.block ?_
 obtain ⟨n35, n40⟩ := loop_some ht32
 refine T.loop (fun n S' => ∃ S'', Gst S' S'' ∧ ∃ s34 : Int × Int × Int × Bool, S'' = ⟨[(18, (dN s34.1)), (17, (dN (a1.fCells.length : Int))), (16, .sl 5 (List.map e_cell_Cell a1.fCells)), (5, (dP (blk p31))), (4, (dN a0)), (3, .nod [.fn (.yield b2) [] []]), (2, (dP b1))], [.lp b0 .busy none [13, 14] rfA160_0 rfB160_0 [(3, .nod [.fn (.yield b2) [] []]), (2, (dP b1))] 40, .var b1 [.fn (.func 159) [] [dP b3, dP b4]] 239, .lp b2 .ready none [20] rfA57_0 rfB57_0 [(14, (dP b9)), (13, (dP b8)), (12, (dP b7)), (11, (dP b6)), (10, (dP b5)), (9, .nod [dN a3]), (8, .nod [dN a2])] 38, .var b3 [dQ] 39, .var b4 [.sl 1 (lB a4)] 25, .var b5 [dN a5] 3, .var b6 [dN a6] 3, .var b7 [dT a7] 4, .var b8 [dN s34.2.1, dN s34.2.2.1] 202, .var b9 [dT s34.2.2.2] 4, .var (blk p31) [.sl 5 (List.map e_cell_Cell a1.fCells), dN a1.fEnd, dT a1.fHidden] 49], 40⟩ ∧ iter (find_having_2_r0_2.l1 a0 a1 a2 a3 a4 a5 a6 a7) n s34 = some t32) n35 ?_ ?_
 · exact ⟨_, Gst.only [2, 3, 4, 5, 16, 17, 18] rfl, (0, a8, a9, a10), rfl, n40⟩
 rintro n35 _ ⟨_, g, s34, rfl, i39⟩
 refine T.ghost g ?_
 obtain ⟨m36, q37, rfl, q38, i39⟩ := iter_succ i39
 unfold find_having_2_r0_2.l1 at q38
 refine aS ?_
 refine aA rfl rfl ?_
 refine TL.nil ?_
 show T (X.inR b0) _ _ _
 refine T.seq ?_
 rcases ite_some q38 with ⟨c42, q38⟩ | ⟨c42, q38⟩
 rotate_left
 · refine T.condF rfl (eF c42) ?_
   refine T.exit ?_
   obtain rfl := osi q38
   obtain rfl : _ = _ := i39
   exact ⟨_, gP [] [0, 1, 2, 3, 4, 5, 6, 7, 8, 9] rfl rfl rfl, _, rfl, rfl⟩
 refine T.condT rfl (eT c42) ?_
 refine T.skip ?_
 show T (X.inR b0) _ _ _
 refine T.seq ?_
 obtain ⟨t43, ht43, q38⟩ := bS q38
 refine T.cutC (fun S' => ∃ u44, t43 = Ex.brk u44 ∧ S' = ⟨[(18, (dN s34.1)), (17, (dN (a1.fCells.length : Int))), (16, .sl 5 (List.map e_cell_Cell a1.fCells)), (5, (dP (blk p31))), (4, (dN a0)), (3, .nod [.fn (.yield b2) [] []]), (2, (dP b1))], [.lp b0 .busy none [13, 14] rfA160_0 rfB160_0 [(3, .nod [.fn (.yield b2) [] []]), (2, (dP b1))] 40, .var b1 [.fn (.func 159) [] [dP b3, dP b4]] 239, .lp b2 .ready none [20] rfA57_0 rfB57_0 [(14, (dP b9)), (13, (dP b8)), (12, (dP b7)), (11, (dP b6)), (10, (dP b5)), (9, .nod [dN a3]), (8, .nod [dN a2])] 38, .var b3 [dQ] 39, .var b4 [.sl 1 (lB a4)] 25, .var b5 [dN a5] 3, .var b6 [dN a6] 3, .var b7 [dT a7] 4, .var b8 [dN u44.1, dN u44.2.1] 202, .var b9 [dT u44.2.2] 4, .var (blk p31) [.sl 5 (List.map e_cell_Cell a1.fCells), dN a1.fEnd, dT a1.fHidden] 49], 40⟩) (fun _ h => h) ?_ ?_
 rotate_left
 · rintro _ ⟨u44, rfl, rfl⟩
   show T (X.inR b0) _ _ _
   refine T.region ?_
   iterate 2 refine aA rfl rfl ?_
   refine TL.nil ?_
   obtain rfl := osi q38
   exact ⟨m36, Nat.lt_succ_self _, _, Gst.only [2, 3, 4, 5, 16, 17, 18] rfl, (w64 (s34.1 + 1), u44.1, u44.2.1, u44.2.2), rfl, i39⟩
 refine T.block ?_
 refine aS ?_
 refine aA rfl rfl ?_
 obtain ⟨x45, hx45, ht43⟩ := bS ht43
 refine TL.op1 (OpR.indexM e_cell_Cell hx45 rfl rfl rfl rfl rfl) rfl ?_
 refine aA rfl rfl ?_
 refine TL.op (OpR.alloc rfl rfl (fun _ => rfl)) rfl (fun p46 => ?_)
 refine aA rfl rfl ?_
 refine TL.op0 (OpR.store 11 rfl rfl rfl rfl rfl rfl rfl rfl) ?_
 refine TL.nil ?_
 show T (X.inR b0) _ _ _
 refine aS ?_
 refine aA rfl rfl ?_
 refine TL.op1 (OpR.loadPtr 10 rfl rfl rfl rfl) rfl ?_
 iterate 2 refine aA rfl rfl ?_
 rcases ite_some ht43 with ⟨c47, ht43⟩ | ⟨c47, ht43⟩
 · refine TL.off rfl rfl rfl rfl (not_t (c47)) rfl rfl ?_
   refine TL.off rfl rfl rfl rfl (not_t (c47)) rfl rfl ?_
   refine TL.off rfl rfl rfl rfl (not_t (c47)) rfl rfl ?_
   refine TL.op1 (OpR.pickF rfl (not_t (c47)) rfl) rfl ?_
   refine aA rfl rfl ?_
   refine TL.off rfl rfl rfl rfl rfl rfl rfl ?_
   refine TL.off rfl rfl rfl rfl rfl rfl rfl ?_
   refine TL.off rfl rfl rfl rfl rfl rfl rfl ?_
   refine TL.off rfl rfl rfl rfl rfl rfl rfl ?_
   refine TL.off rfl rfl rfl rfl rfl rfl rfl ?_
   refine TL.off rfl rfl rfl rfl rfl rfl rfl ?_
   refine TL.op1 (OpR.pickF rfl rfl rfl) rfl ?_
   refine TL.nil ?_
   show T (X.inR b0) _ _ _
   refine T.condF rfl rfl ?_
   refine T.skip ?_
   obtain rfl := osi ht43
   exact ⟨_, gP [2, 3, 4, 5, 16, 17, 18] [0, 1, 2, 3, 4, 5, 6, 7, 8, 9, 10] rfl rfl rfl, _, rfl, rfl⟩
 refine TL.on rfl rfl rfl rfl (not_f (eq_false_of_ne_true c47)) ?_
 refine TL.op1 (OpR.loadPtr 1 rfl rfl rfl rfl) rfl ?_
 refine TL.on rfl rfl rfl rfl (not_f (eq_false_of_ne_true c47)) ?_
 refine TL.op1 (OpR.loadPtr 11 rfl rfl rfl rfl) rfl ?_
 refine TL.on rfl rfl rfl rfl (not_f (eq_false_of_ne_true c47)) ?_
 obtain ⟨x48, hx48, ht43⟩ := bS ht43
 refine TL.op1 (OpR.callV [3, 4] rfl fn159 (find_having_1_2_c hx48) rfl rfl rfl (fun _ => rfl)) rfl ?_
 refine TL.op1 (OpR.pickT rfl (not_f (eq_false_of_ne_true c47)) rfl) rfl ?_
 refine aA rfl rfl ?_
 rcases ite_some ht43 with ⟨c49, ht43⟩ | ⟨c49, ht43⟩
 rotate_left
 · refine TL.off rfl rfl rfl rfl (eq_false_of_ne_true c49) rfl rfl ?_
   refine TL.off rfl rfl rfl rfl (eq_false_of_ne_true c49) rfl rfl ?_
   refine TL.off rfl rfl rfl rfl (eq_false_of_ne_true c49) rfl rfl ?_
   refine TL.off rfl rfl rfl rfl (eq_false_of_ne_true c49) rfl rfl ?_
   refine TL.off rfl rfl rfl rfl (eq_false_of_ne_true c49) rfl rfl ?_
   refine TL.off rfl rfl rfl rfl (eq_false_of_ne_true c49) rfl rfl ?_
   refine TL.op1 (OpR.pickF rfl (eq_false_of_ne_true c49) rfl) rfl ?_
   refine TL.nil ?_
   show T (X.inR b0) _ _ _
   refine T.condF rfl rfl ?_
   refine T.skip ?_
   obtain rfl := osi ht43
   exact ⟨_, gP [2, 3, 4, 5, 16, 17, 18] [0, 1, 2, 3, 4, 5, 6, 7, 8, 9, 10] rfl rfl rfl, _, rfl, rfl⟩
 refine TL.on rfl rfl rfl rfl (c49) ?_
 refine aA rfl rfl ?_
 refine TL.on rfl rfl rfl rfl (c49) ?_
 refine aA rfl rfl ?_
 refine TL.on rfl rfl rfl rfl (c49) ?_
 refine aA rfl rfl ?_
 refine TL.on rfl rfl rfl rfl (c49) ?_
 refine TL.op1 (OpR.build rfl rfl rfl rfl rfl) rfl ?_
 refine TL.on rfl rfl rfl rfl (c49) ?_
 obtain ⟨x50, hx50, ht43⟩ := bS ht43
 rcases x50 with x50 | x50
 rotate_left
 · dsimp only at ht43
   refine TL.op1 (OpR.callY [2, 5, 6, 7, 8, 9] rfl (find_Next_r0_cx2 hx50) rfl rfl rfl (fun _ => rfl)) rfl ?_
   refine TL.on rfl rfl rfl rfl (c49) ?_
   refine aA rfl rfl ?_
   refine TL.op1 (OpR.pickT rfl (c49) rfl) rfl ?_
   refine TL.nil ?_
   show T (X.inR b0) _ _ _
   refine T.condF rfl rfl ?_
   refine T.skip ?_
   obtain rfl := osi ht43
   exact ⟨_, gP [2, 3, 4, 5, 16, 17, 18] [0, 1, 2, 3, 4, 5, 6, 7, 8, 9, 10] rfl rfl rfl, _, rfl, rfl⟩
 dsimp only at ht43
 refine TL.op1 (OpR.callY [2, 5, 6, 7, 8, 9] rfl (find_Next_r0_cx1 hx50) rfl rfl rfl (fun _ => rfl)) rfl ?_
 refine TL.on rfl rfl rfl rfl (c49) ?_
 refine aA rfl rfl ?_
 refine TL.op1 (OpR.pickT rfl (c49) rfl) rfl ?_
 refine TL.nil ?_
 show T (X.inR b0) _ _ _
 refine T.condT rfl rfl ?_
 refine T.ret ?_
 obtain rfl := osi ht43
 obtain rfl := osi q38
 obtain rfl : _ = _ := i39
 obtain rfl := osi h0
 exact RoundG.mk (ks := [0, 1, 2, 3, 4, 5, 6, 7, 8, 9]) (gP [] [0, 1, 2, 3, 4, 5, 6, 7, 8, 9] rfl rfl rfl) undef rfl rfl rfl rfl rfl
theorem find_having_2_r0_2_cx1 {a0 : Int} {a1 : row_Row} {a2 : Int} {a3 : Int} {a4 : List UInt8} {a5 : Int} {a6 : Int} {a7 : Bool} {a8 : Int} {a9 : Int} {a10 : Bool} {b0 : Nat} {b1 : Nat} {b2 : Nat} {b3 : Nat} {b4 : Nat} {b5 : Nat} {b6 : Nat} {b7 : Nat} {b8 : Nat} {b9 : Nat} {res : Int × Int × Bool × Int × Int × Bool} (h0 : find_having_2_r0_2 a0 a1 a2 a3 a4 a5 a6 a7 a8 a9 a10 = some (Sum.inl res)) : RoundF X b0 [dN a0, .agg [.sl 5 (List.map e_cell_Cell a1.fCells), dN a1.fEnd, dT a1.fHidden]] [.lp b0 .ready none [13, 14] rfA160_0 rfB160_0 [(3, .nod [.fn (.yield b2) [] []]), (2, (dP b1))] 40, .var b1 [.fn (.func 159) [] [dP b3, dP b4]] 239, .lp b2 .ready none [20] rfA57_0 rfB57_0 [(14, (dP b9)), (13, (dP b8)), (12, (dP b7)), (11, (dP b6)), (10, (dP b5)), (9, .nod [dN a3]), (8, .nod [dN a2])] 38, .var b3 [dQ] 39, .var b4 [.sl 1 (lB a4)] 25, .var b5 [dN a5] 3, .var b6 [dN a6] 3, .var b7 [dT a7] 4, .var b8 [dN a8, dN a9] 202, .var b9 [dT a10] 4] (fun x => (dT false)) (fun x => [.lp b0 .done (some (.ret)) [13, 14] rfA160_0 rfB160_0 [(3, .nod [.fn (.yield b2) [] []]), (2, (dP b1))] 40, .var b1 [.fn (.func 159) [] [dP b3, dP b4]] 239, .lp b2 .done (some (.ret)) [20] rfA57_0 rfB57_0 [(14, (dP b9)), (13, (dP b8)), (12, (dP b7)), (11, (dP b6)), (10, (dP b5)), (9, .nod [dN a3]), (8, .nod [dN a2])] 38, .var b3 [dQ] 39, .var b4 [.sl 1 (lB a4)] 25, .var b5 [dN res.1] 3, .var b6 [dN res.2.1] 3, .var b7 [dT res.2.2.1] 4, .var b8 [dN res.2.2.2.1, dN res.2.2.2.2.1] 202, .var b9 [dT res.2.2.2.2.2] 4]) := find_having_2_r0_2_c h0
theorem find_having_2_r0_2_cx2 {a0 : Int} {a1 : row_Row} {a2 : Int} {a3 : Int} {a4 : List UInt8} {a5 : Int} {a6 : Int} {a7 : Bool} {a8 : Int} {a9 : Int} {a10 : Bool} {b0 : Nat} {b1 : Nat} {b2 : Nat} {b3 : Nat} {b4 : Nat} {b5 : Nat} {b6 : Nat} {b7 : Nat} {b8 : Nat} {b9 : Nat} {res : Int × Int × Bool} (h0 : find_having_2_r0_2 a0 a1 a2 a3 a4 a5 a6 a7 a8 a9 a10 = some (Sum.inr res)) : RoundF X b0 [dN a0, .agg [.sl 5 (List.map e_cell_Cell a1.fCells), dN a1.fEnd, dT a1.fHidden]] [.lp b0 .ready none [13, 14] rfA160_0 rfB160_0 [(3, .nod [.fn (.yield b2) [] []]), (2, (dP b1))] 40, .var b1 [.fn (.func 159) [] [dP b3, dP b4]] 239, .lp b2 .ready none [20] rfA57_0 rfB57_0 [(14, (dP b9)), (13, (dP b8)), (12, (dP b7)), (11, (dP b6)), (10, (dP b5)), (9, .nod [dN a3]), (8, .nod [dN a2])] 38, .var b3 [dQ] 39, .var b4 [.sl 1 (lB a4)] 25, .var b5 [dN a5] 3, .var b6 [dN a6] 3, .var b7 [dT a7] 4, .var b8 [dN a8, dN a9] 202, .var b9 [dT a10] 4] (fun x => (dT true)) (fun x => [.lp b0 .ready none [13, 14] rfA160_0 rfB160_0 [(3, .nod [.fn (.yield b2) [] []]), (2, (dP b1))] 40, .var b1 [.fn (.func 159) [] [dP b3, dP b4]] 239, .lp b2 .ready none [20] rfA57_0 rfB57_0 [(14, (dP b9)), (13, (dP b8)), (12, (dP b7)), (11, (dP b6)), (10, (dP b5)), (9, .nod [dN a3]), (8, .nod [dN a2])] 38, .var b3 [dQ] 39, .var b4 [.sl 1 (lB a4)] 25, .var b5 [dN a5] 3, .var b6 [dN a6] 3, .var b7 [dT a7] 4, .var b8 [dN res.1, dN res.2.1] 202, .var b9 [dT res.2.2] 4]) := find_having_2_r0_2_c h0
noncomputable def walk_Range_row_Row_1_2.l1 (a1 : Int) (a3 : Int) (a4 : Int) (a5 : List UInt8) (a6 : Int) (a7 : Int) (a8 : Bool) (s9 : Int × Int × Int × Bool × (List wFr)) : Option (Lp (Int × Int × Int × Bool × (List wFr)) (Ex (Int × Int × Bool) ((Int × Int × Bool) ⊕ (Int × Int × Bool × Int × Int × Bool)))) :=
  if s9.1 < a1 then
    bnd (walk_stack_row_Row_top s9.2.2.2.2) fun x18 =>
    bnd (idx s9.2.2.2.2 x18) fun x19 =>
    bnd (some x19.fN) fun q20 => match q20 with
      | none =>
        none
      | some z21 =>
        bnd (o_tNd z21) fun x23 =>
        bnd (if x19.fNext = (x23.fItems.length : Int) then
          bnd (walk_stack_row_Row_forth s9.2.2.2.2) fun x28 =>
          some x28.2
        else
          some s9.2.2.2.2 : Option (List wFr)) fun t25 =>
        bnd (walk_stack_row_Row_top t25) fun x30 =>
        bnd (idx t25 x30) fun x31 =>
        bnd (some x31.fN) fun q32 => match q32 with
          | none =>
            none
          | some z33 =>
            bnd (o_tNd z33) fun x35 =>
            bnd (idx x35.fItems x31.fNext) fun x37 =>
            bnd (find_having_2_r0_2 s9.1 x37 a3 a4 a5 a6 a7 a8 s9.2.1 s9.2.2.1 s9.2.2.2.1) fun x38 =>
            match x38 with
            | .inl x38 =>
                some (Lp.done (Ex.ret (Sum.inr (x38.1, x38.2.1, x38.2.2.1, x38.2.2.2.1, x38.2.2.2.2.1, x38.2.2.2.2.2))))
            | .inr x38 =>
                some (Lp.next (w64 (s9.1 + 1), x38.1, x38.2.1, x38.2.2, (t25.set x30.toNat (⟨x31.fN, x31.fFirst, w64 (x31.fNext + 1)⟩ : wFr))))
  else
    some (Lp.done (Ex.brk (s9.2.1, s9.2.2.1, s9.2.2.2.1)))
noncomputable def walk_Range_row_Row_1_2 (a0 : Int) (a1 : Int) (a2 : Option NP) (a3 : Int) (a4 : Int) (a5 : List UInt8) (a6 : Int) (a7 : Int) (a8 : Bool) (a9 : Int) (a10 : Int) (a11 : Bool) : Option ((Int × Int × Bool) ⊕ (Int × Int × Bool × Int × Int × Bool)) :=
  if a0 = a1 then
    some (Sum.inl (a9, a10, a11))
  else
    bnd (tree_Tree_row_Row_Root (⟨a2⟩ : tTr)) fun x4 =>
    match x4 with
    | .inl x4 =>
        none
    | .inr x4 =>
        bnd (walk_stack_row_Row_down x4.1 x4.2.1 x4.2.2 0 a0) fun x5 =>
        bnd (loop (walk_Range_row_Row_1_2.l1 a1 a3 a4 a5 a6 a7 a8) (a0, a9, a10, a11, x5) : Option (Ex (Int × Int × Bool) ((Int × Int × Bool) ⊕ (Int × Int × Bool × Int × Int × Bool)))) fun t6 => match t6 with
          | .brk u7 =>
            some (Sum.inl (u7.1, u7.2.1, u7.2.2))
          | .ret u7 => some u7
theorem walk_Range_row_Row_1_2_c {a0 : Int} {a1 : Int} {a2 : Option NP} {a3 : Int} {a4 : Int} {a5 : List UInt8} {a6 : Int} {a7 : Int} {a8 : Bool} {a9 : Int} {a10 : Int} {a11 : Bool} {b0 : Nat} {b1 : Nat} {b2 : Nat} {b3 : Nat} {b4 : Nat} {b5 : Nat} {b6 : Nat} {b7 : Nat} {b8 : Nat} {b9 : Nat} {b10 : Nat} {b11 : Nat} {b12 : Nat} {res : (Int × Int × Bool) ⊕ (Int × Int × Bool × Int × Int × Bool)} (h0 : walk_Range_row_Row_1_2 a0 a1 a2 a3 a4 a5 a6 a7 a8 a9 a10 a11 = some res) : CallF X 194 [.fn (.yield b0) [] [], dP b1, dP b2, dP b3] [.lp b0 .ready none [13, 14] rfA160_0 rfB160_0 [(3, .nod [.fn (.yield b5) [] []]), (2, (dP b4))] 40, .var b1 [dN a0] 3, .var b2 [dN a1] 3, .var b3 [(eOP a2)] 118, .var b4 [.fn (.func 159) [] [dP b6, dP b7]] 239, .lp b5 .ready none [20] rfA57_0 rfB57_0 [(14, (dP b12)), (13, (dP b11)), (12, (dP b10)), (11, (dP b9)), (10, (dP b8)), (9, .nod [dN a4]), (8, .nod [dN a3])] 38, .var b6 [dQ] 39, .var b7 [.sl 1 (lB a5)] 25, .var b8 [dN a6] 3, .var b9 [dN a7] 3, .var b10 [dT a8] 4, .var b11 [dN a9, dN a10] 202, .var b12 [dT a11] 4] (fun x => (match res with | .inl res => .tup [] | .inr res => .tup [])) (fun x => (match res with | .inl res => [.lp b0 .ready none [13, 14] rfA160_0 rfB160_0 [(3, .nod [.fn (.yield b5) [] []]), (2, (dP b4))] 40, .var b1 [dN a0] 3, .var b2 [dN a1] 3, .var b3 [(eOP a2)] 118, .var b4 [.fn (.func 159) [] [dP b6, dP b7]] 239, .lp b5 .ready none [20] rfA57_0 rfB57_0 [(14, (dP b12)), (13, (dP b11)), (12, (dP b10)), (11, (dP b9)), (10, (dP b8)), (9, .nod [dN a4]), (8, .nod [dN a3])] 38, .var b6 [dQ] 39, .var b7 [.sl 1 (lB a5)] 25, .var b8 [dN a6] 3, .var b9 [dN a7] 3, .var b10 [dT a8] 4, .var b11 [dN res.1, dN res.2.1] 202, .var b12 [dT res.2.2] 4] | .inr res => [.lp b0 .done (some (.ret)) [13, 14] rfA160_0 rfB160_0 [(3, .nod [.fn (.yield b5) [] []]), (2, (dP b4))] 40, .var b1 [dN a0] 3, .var b2 [dN a1] 3, .var b3 [(eOP a2)] 118, .var b4 [.fn (.func 159) [] [dP b6, dP b7]] 239, .lp b5 .done (some (.ret)) [20] rfA57_0 rfB57_0 [(14, (dP b12)), (13, (dP b11)), (12, (dP b10)), (11, (dP b9)), (10, (dP b8)), (9, .nod [dN a4]), (8, .nod [dN a3])] 38, .var b6 [dQ] 39, .var b7 [.sl 1 (lB a5)] 25, .var b8 [dN res.1] 3, .var b9 [dN res.2.1] 3, .var b10 [dT res.2.2.1] 4, .var b11 [dN res.2.2.2.1, dN res.2.2.2.2.1] 202, .var b12 [dT res.2.2.2.2.2] 4])) := by
 unfold walk_Range_row_Row_1_2 at h0
 refine CallF.mkG (X := X) rfl Try.func194 rfl rfl Try.ntmps194 rfl rfl ?_
 refine T.seq ?_
 refine aS ?_
 refine TL.op1 (OpR.loadPtr 1 rfl rfl rfl rfl) rfl ?_
 refine TL.op1 (OpR.loadPtr 2 rfl rfl rfl rfl) rfl ?_
 refine aA rfl rfl ?_
 refine aN rfl ?_
 rcases ite_some h0 with ⟨c1, h0⟩ | ⟨c1, h0⟩
 · refine T.condT rfl (beq_iff_eq.2 c1) ?_
   refine T.ret ?_
   obtain rfl := osi h0
   exact rO [0, 1, 2, 3, 4, 5, 6, 7, 8, 9, 10, 11, 12] [] rfl undef ResL.nil rfl rfl rfl rfl
 refine T.condF rfl (beq_eq_false_iff_ne.2 c1) ?_
 refine aK rfl ?_
 refine aS ?_
 refine TL.op (OpR.alloc rfl rfl (fun _ => rfl)) rfl (fun p2 => ?_)
 refine aN rfl ?_
 refine T.seq ?_
 obtain ⟨x4, hx4, h0⟩ := bS h0
 rcases x4 with x4 | x4
 · dsimp only at h0
   exact (by cases h0)
 dsimp only at h0
 obtain ⟨x5, hx5, h0⟩ := bS h0
 refine T.drawS drawsX (fun env3 => [.agg [(eOP a2)], .nod [.sl 1 (List.map eNP x4.1), .sl 3 (List.map e_row_Row x4.2.1), dN x4.2.2], dN a0, .tup []]) (fun D env3 => [.lp b0 .ready none [13, 14] rfA160_0 rfB160_0 [(3, .nod [.fn (.yield b5) [] []]), (2, (dP b4))] 40, .var b1 [dN a0] 3, .var b2 [dN a1] 3, .var b3 [(eOP a2)] 118, .var b4 [.fn (.func 159) [] [dP b6, dP b7]] 239, .lp b5 .ready none [20] rfA57_0 rfB57_0 [(14, (dP b12)), (13, (dP b11)), (12, (dP b10)), (11, (dP b9)), (10, (dP b8)), (9, .nod [dN a4]), (8, .nod [dN a3])] 38, .var b6 [dQ] 39, .var b7 [.sl 1 (lB a5)] 25, .var b8 [dN a6] 3, .var b9 [dN a7] 3, .var b10 [dT a8] 4, .var b11 [dN a9, dN a10] 202, .var b12 [dT a11] 4, (bif D 3 then .var (blk p2) [.val (vn (env3 3) 0)] 272 else .var (blk p2) [.val (.slice none 0 0)] 272)] ++ (bif D 3 then [.row (vn (env3 3) 0) (List.map e_wFr x5) 3 278] else [])) [0, 1, 0, 7] [0, 1, 2, 5] _ (by decide +kernel) (by decide +kernel) (fun _ => rfl) (fun _ => rfl) ?_ (fun _ => rfl) (fun _ => rfl) ?_
 · refine oT (.agg [(eOP a2)]) (fun _ _ => OpR.loadPtr 3 rfl rfl rfl rfl) ?_
   refine oT (.nod [.sl 1 (List.map eNP x4.1), .sl 3 (List.map e_row_Row x4.2.1), dN x4.2.2]) (fun _ _ => OpR.call0 fn196 (tree_Tree_row_Row_Root_cx2 hx4) rfl) ?_
   refine oT ((dN a0)) (fun _ _ => OpR.loadPtr 1 rfl rfl rfl rfl) ?_
   refine OpsS.cons' true ?_ (fun D hA env3 x j hj hD => match j, hj, hD with | 0, _, _ => rfl | 1, _, _ => rfl | 2, _, _ => rfl | 3, hj, _ => absurd rfl hj | _ + 4, _, _ => rfl) ?_
   · intro D env3 hA
     exact OpS.yp [(3, false)] ⟨hA.me, trivial⟩ (Want.plain rfl) (OpR.call [13] fn195 (walk_stack_row_Row_down_c hx5) rfl rfl rfl (fun _ => rfl)) (fun x => rfl) (fun x => rfl)
   exact trivial
 intro env3
 show T X _ _ _
 refine aS ?_
 refine TL.op1 (OpR.loadPtr 1 rfl rfl rfl rfl) rfl ?_
 refine aA rfl rfl ?_
 refine aN rfl ?_
 obtain ⟨t6, ht6, h0⟩ := bS h0
 refine T.cutN (fun S' => ∃ u7, t6 = Ex.brk u7 ∧ S' = ⟨[], [.lp b0 .ready none [13, 14] rfA160_0 rfB160_0 [(3, .nod [.fn (.yield b5) [] []]), (2, (dP b4))] 40, .var b1 [dN a0] 3, .var b2 [dN a1] 3, .var b3 [(eOP a2)] 118, .var b4 [.fn (.func 159) [] [dP b6, dP b7]] 239, .lp b5 .ready none [20] rfA57_0 rfB57_0 [(14, (dP b12)), (13, (dP b11)), (12, (dP b10)), (11, (dP b9)), (10, (dP b8)), (9, .nod [dN a4]), (8, .nod [dN a3])] 38, .var b6 [dQ] 39, .var b7 [.sl 1 (lB a5)] 25, .var b8 [dN a6] 3, .var b9 [dN a7] 3, .var b10 [dT a8] 4, .var b11 [dN u7.1, dN u7.2.1] 202, .var b12 [dT u7.2.2] 4], 62⟩) (fun _ _ g ⟨h, S', ds, g', r⟩ => ⟨h, S', ds, Gst.trans g g', r⟩) ?_ ?_
 rotate_left
 · rintro _ ⟨u7, rfl, rfl⟩
   obtain rfl := osi h0
   exact PostG.finP (ks := [0, 1, 2, 3, 4, 5, 6, 7, 8, 9, 10, 11, 12]) (Gst.only [] rfl) undef ResL.nil rfl rfl rfl rfl
 refine T.block ?_
 obtain ⟨n10, n15⟩ := loop_some ht6
 refine T.loop (fun n S' => ∃ S'', Gst S' S'' ∧ ∃ y8 : Value, ∃ s9 : Int × Int × Int × Bool × (List wFr), S'' = ⟨[(6, (dN s9.1)), (5, (dP (blk p2))), (2, (dP b2)), (0, .fn (.yield b0) [] [])], [.lp b0 .ready none [13, 14] rfA160_0 rfB160_0 [(3, .nod [.fn (.yield b5) [] []]), (2, (dP b4))] 40, .var b1 [dN a0] 3, .var b2 [dN a1] 3, .var b3 [(eOP a2)] 118, .var b4 [.fn (.func 159) [] [dP b6, dP b7]] 239, .lp b5 .ready none [20] rfA57_0 rfB57_0 [(14, (dP b12)), (13, (dP b11)), (12, (dP b10)), (11, (dP b9)), (10, (dP b8)), (9, .nod [dN a4]), (8, .nod [dN a3])] 38, .var b6 [dQ] 39, .var b7 [.sl 1 (lB a5)] 25, .var b8 [dN a6] 3, .var b9 [dN a7] 3, .var b10 [dT a8] 4, .var b11 [dN s9.2.1, dN s9.2.2.1] 202, .var b12 [dT s9.2.2.2.1] 4, .var (blk p2) [.val y8] 272, .row y8 (List.map e_wFr s9.2.2.2.2) 3 278], 62⟩ ∧ iter (walk_Range_row_Row_1_2.l1 a1 a3 a4 a5 a6 a7 a8) n s9 = some t6) n10 ?_ ?_
 · exact ⟨_, Gst.only [0, 2, 5, 6] rfl, (vn (env3 3) 0), (a0, a9, a10, a11, x5), rfl, n15⟩
 rintro n10 _ ⟨_, g, y8, s9, rfl, i14⟩
 refine T.ghost g ?_
 obtain ⟨m11, q12, rfl, q13, i14⟩ := iter_succ i14
 unfold walk_Range_row_Row_1_2.l1 at q13
 refine T.seq ?_
 refine aS ?_
 refine aA rfl rfl ?_
 refine TL.op1 (OpR.loadPtr 2 rfl rfl rfl rfl) rfl ?_
 refine aA rfl rfl ?_
 refine aN rfl ?_
 rcases ite_some q13 with ⟨c17, q13⟩ | ⟨c17, q13⟩
 rotate_left
 · refine T.condF rfl (eF c17) ?_
   refine T.exit ?_
   obtain rfl := osi q13
   obtain rfl : _ = _ := i14
   exact ⟨_, gP [] [0, 1, 2, 3, 4, 5, 6, 7, 8, 9, 10, 11, 12] rfl rfl rfl, _, rfl, rfl⟩
 refine T.condT rfl (eT c17) ?_
 refine aK rfl ?_
 refine T.seq ?_
 refine T.block ?_
 refine T.seq ?_
 refine aS ?_
 obtain ⟨x18, hx18, q13⟩ := bS q13
 refine TL.op1 (OpR.call [13, 14] fn197 (walk_stack_row_Row_top_c hx18) rfl rfl rfl (fun _ => rfl)) rfl ?_
 refine aA rfl rfl ?_
 refine aN rfl ?_
 refine T.seq ?_
 obtain ⟨x19, hx19, q13⟩ := bS q13
 obtain ⟨q20, hq20, q13⟩ := bS q13
 rcases q20 with _ | z21
 · dsimp only at q13
   exact (by cases q13)
 dsimp only at q13
 obtain ⟨x23, hx23, q13⟩ := bS q13
 rw [o_tNd_eq hx23] at hq20
 refine T.drawQ drawsX [.val (.pointer (some ⟨blk y8, x18.toNat * 3, none⟩)), .val (.pointer (some ⟨blk y8, x18.toNat * 3, none⟩)), .val (.pointer (some ⟨blk y8, x18.toNat * 3 + 2, none⟩)), dN x19.fNext, .val (.pointer (some ⟨blk y8, x18.toNat * 3, none⟩)), .val (.pointer (some ⟨blk y8, x18.toNat * 3, none⟩)), .val (.pointer (some ⟨blk y8, x18.toNat * 3, none⟩)), .nod [.sl 1 (List.map eNP x23.fKids), .sl 3 (List.map e_row_Row x23.fItems), dN x23.fN], .nod [.sl 1 (List.map eNP x23.fKids), .sl 3 (List.map e_row_Row x23.fItems), dN x23.fN], .nod [.sl 3 (List.map e_row_Row x23.fItems), dN x23.fN], .sl 3 (List.map e_row_Row x23.fItems), dN (x23.fItems.length : Int), dT (x19.fNext == (x23.fItems.length : Int))] [0, 2, 5, 6, 35] (by decide +kernel) rfl ?_ rfl ?_
 · iterate 3 refine aB rfl rfl rfl ?_
   refine OpsQ.yes (Want.plain rfl) rfl (OpR.rowLoadM (j := x18) e_wFr 14 hx19 rfl rfl rfl rfl) ?_
   iterate 3 refine aB rfl rfl rfl ?_
   refine OpsQ.yes (Want.plain rfl) rfl (OpR.cast (OpR.rowLoad0M (j := x18) e_wFr 14 hx19 rfl rfl rfl rfl) (congrArg eOP (osi hq20))) ?_
   iterate 3 refine aB rfl rfl rfl ?_
   refine OpsQ.yes (Want.plain rfl) rfl (OpR.cast (OpR.pure rfl) (intE (lenM _ _))) ?_
   refine aB rfl rfl rfl ?_
   exact OpsQ.nil
 show T X _ _ _
 obtain ⟨t25, ht25, q13⟩ := bS q13
 refine T.cutC (fun S' => ∃ y26 : Value, S' = ⟨[(6, (dN s9.1)), (5, (dP (blk p2))), (2, (dP b2)), (0, .fn (.yield b0) [] [])], [.lp b0 .ready none [13, 14] rfA160_0 rfB160_0 [(3, .nod [.fn (.yield b5) [] []]), (2, (dP b4))] 40, .var b1 [dN a0] 3, .var b2 [dN a1] 3, .var b3 [(eOP a2)] 118, .var b4 [.fn (.func 159) [] [dP b6, dP b7]] 239, .lp b5 .ready none [20] rfA57_0 rfB57_0 [(14, (dP b12)), (13, (dP b11)), (12, (dP b10)), (11, (dP b9)), (10, (dP b8)), (9, .nod [dN a4]), (8, .nod [dN a3])] 38, .var b6 [dQ] 39, .var b7 [.sl 1 (lB a5)] 25, .var b8 [dN a6] 3, .var b9 [dN a7] 3, .var b10 [dT a8] 4, .var b11 [dN s9.2.1, dN s9.2.2.1] 202, .var b12 [dT s9.2.2.2.1] 4, .var (blk p2) [.val y26] 272, .row y26 (List.map e_wFr t25) 3 278], 62⟩) (fun _ h => h) ?_ ?_
 · rcases ite_some ht25 with ⟨c27, ht25⟩ | ⟨c27, ht25⟩
   rotate_left
   · refine T.condF rfl (beq_eq_false_iff_ne.2 c27) ?_
     refine T.skip ?_
     obtain rfl := osi ht25
     exact ⟨_, Gst.only [0, 2, 5, 6] rfl, y8, rfl⟩
   refine T.condT rfl (beq_iff_eq.2 c27) ?_
   refine T.region ?_
   obtain ⟨x28, hx28, ht25⟩ := bS ht25
   refine TL.op (OpR.call [13, 14] fn198 (walk_stack_row_Row_forth_c hx28) rfl rfl rfl (fun _ => rfl)) rfl (fun w29 => ?_)
   refine TL.nil ?_
   obtain rfl := osi ht25
   exact ⟨_, Gst.only [0, 2, 5, 6] rfl, (vn w29 0), rfl⟩
 rintro _ ⟨y26, rfl⟩
 show T X _ _ _
 refine aS ?_
 obtain ⟨x30, hx30, q13⟩ := bS q13
 refine TL.op1 (OpR.call [13, 14] fn197 (walk_stack_row_Row_top_c hx30) rfl rfl rfl (fun _ => rfl)) rfl ?_
 refine aA rfl rfl ?_
 refine aN rfl ?_
 refine T.seq ?_
 refine T.seq ?_
 obtain ⟨x31, hx31, q13⟩ := bS q13
 obtain ⟨q32, hq32, q13⟩ := bS q13
 rcases q32 with _ | z33
 · dsimp only at q13
   exact (by cases q13)
 dsimp only at q13
 obtain ⟨x35, hx35, q13⟩ := bS q13
 rw [o_tNd_eq hx35] at hq32
 obtain ⟨x37, hx37, q13⟩ := bS q13
 obtain ⟨x38, hx38, q13⟩ := bS q13
 rcases x38 with x38 | x38
 · dsimp only at q13
   refine T.drawS drawsX (fun env36 => [.fn (.yield b0) [] [], dN s9.1, .val (.pointer (some ⟨blk y26, x30.toNat * 3, none⟩)), .val (.pointer (some ⟨blk y26, x30.toNat * 3, none⟩)), .val (.pointer (some ⟨blk y26, x30.toNat * 3, none⟩)), .nod [.sl 1 (List.map eNP x35.fKids), .sl 3 (List.map e_row_Row x35.fItems), dN x35.fN], .nod [.sl 1 (List.map eNP x35.fKids), .sl 3 (List.map e_row_Row x35.fItems), dN x35.fN], .nod [.sl 3 (List.map e_row_Row x35.fItems), dN x35.fN], .sl 3 (List.map e_row_Row x35.fItems), .val (.pointer (some ⟨blk y26, x30.toNat * 3, none⟩)), .val (.pointer (some ⟨blk y26, x30.toNat * 3, none⟩)), .val (.pointer (some ⟨blk y26, x30.toNat * 3 + 2, none⟩)), dN x31.fNext, .nod [.sl 5 (List.map e_cell_Cell x37.fCells), dN x37.fEnd, dT x37.fHidden], .agg [.sl 5 (List.map e_cell_Cell x37.fCells), dN x37.fEnd, dT x37.fHidden], dT false, dT true]) (fun D env36 => [(bif D 15 then .lp b0 .done (some (.ret)) [13, 14] rfA160_0 rfB160_0 [(3, .nod [.fn (.yield b5) [] []]), (2, (dP b4))] 40 else .lp b0 .ready none [13, 14] rfA160_0 rfB160_0 [(3, .nod [.fn (.yield b5) [] []]), (2, (dP b4))] 40), .var b1 [dN a0] 3, .var b2 [dN a1] 3, .var b3 [(eOP a2)] 118, .var b4 [.fn (.func 159) [] [dP b6, dP b7]] 239, (bif D 15 then .lp b5 .done (some (.ret)) [20] rfA57_0 rfB57_0 [(14, (dP b12)), (13, (dP b11)), (12, (dP b10)), (11, (dP b9)), (10, (dP b8)), (9, .nod [dN a4]), (8, .nod [dN a3])] 38 else .lp b5 .ready none [20] rfA57_0 rfB57_0 [(14, (dP b12)), (13, (dP b11)), (12, (dP b10)), (11, (dP b9)), (10, (dP b8)), (9, .nod [dN a4]), (8, .nod [dN a3])] 38), .var b6 [dQ] 39, .var b7 [.sl 1 (lB a5)] 25, (bif D 15 then .var b8 [dN x38.1] 3 else .var b8 [dN a6] 3), (bif D 15 then .var b9 [dN x38.2.1] 3 else .var b9 [dN a7] 3), (bif D 15 then .var b10 [dT x38.2.2.1] 4 else .var b10 [dT a8] 4), (bif D 15 then .var b11 [dN x38.2.2.2.1, dN x38.2.2.2.2.1] 202 else .var b11 [dN s9.2.1, dN s9.2.2.1] 202), (bif D 15 then .var b12 [dT x38.2.2.2.2.2] 4 else .var b12 [dT s9.2.2.2.1] 4), .var (blk p2) [.val y26] 272, .row y26 (List.map e_wFr t25) 3 278]) [0, 0, 0, 4, 12, 28, 60, 124, 252, 0, 512, 1536, 3584, 8188, 16380, 32767, 65535] [0, 2, 5, 6, 8, 54] _ (by decide +kernel) (by decide +kernel) (fun _ => rfl) (fun _ => rfl) ?_ (fun _ => rfl) (fun _ => rfl) ?_
   rotate_left
   · intro env36
     show T X _ _ _
     refine T.condT rfl rfl ?_
     refine T.ret ?_
     obtain rfl := osi q13
     obtain rfl : _ = _ := i14
     obtain rfl := osi h0
     exact rP [0, 1, 2, 3, 4, 5, 6, 7, 8, 9, 10, 11, 12] [] [0, 1, 2, 3, 4, 5, 6, 7, 8, 9, 10, 11, 12] rfl rfl rfl undef ResL.nil rfl rfl rfl rfl
   iterate 5 refine aC ?_
   refine oT (.nod [.sl 1 (List.map eNP x35.fKids), .sl 3 (List.map e_row_Row x35.fItems), dN x35.fN]) (fun _ _ => OpR.cast (OpR.rowLoad0M (j := x30) e_wFr 14 hx31 rfl rfl rfl rfl) (congrArg eOP (osi hq32))) ?_
   iterate 6 refine aC ?_
   refine oT ((dN x31.fNext)) (fun _ _ => OpR.rowLoadM (j := x30) e_wFr 14 hx31 rfl rfl rfl rfl) ?_
   refine oT (.nod [.sl 5 (List.map e_cell_Cell x37.fCells), dN x37.fEnd, dT x37.fHidden]) (fun _ _ => OpR.indexM e_row_Row hx37 rfl rfl rfl rfl rfl) ?_
   refine aC ?_
   refine OpsS.cons' true ?_ (fun _ _ _ _ _ _ _ => rfl) ?_
   · intro D env36 hA
     exact OpS.yp [(15, false)] ⟨hA.me, trivial⟩ (Want.plain rfl) (OpR.callY [0, 4, 5, 6, 7, 8, 9, 10, 11, 12] rfl (find_having_2_r0_2_cx1 hx38) rfl rfl rfl (fun _ => rfl)) (fun x => rfl) (fun x => rfl)
   refine aC ?_
   exact trivial
 dsimp only at q13
 refine T.drawS drawsX (fun env36 => [.fn (.yield b0) [] [], dN s9.1, .val (.pointer (some ⟨blk y26, x30.toNat * 3, none⟩)), .val (.pointer (some ⟨blk y26, x30.toNat * 3, none⟩)), .val (.pointer (some ⟨blk y26, x30.toNat * 3, none⟩)), .nod [.sl 1 (List.map eNP x35.fKids), .sl 3 (List.map e_row_Row x35.fItems), dN x35.fN], .nod [.sl 1 (List.map eNP x35.fKids), .sl 3 (List.map e_row_Row x35.fItems), dN x35.fN], .nod [.sl 3 (List.map e_row_Row x35.fItems), dN x35.fN], .sl 3 (List.map e_row_Row x35.fItems), .val (.pointer (some ⟨blk y26, x30.toNat * 3, none⟩)), .val (.pointer (some ⟨blk y26, x30.toNat * 3, none⟩)), .val (.pointer (some ⟨blk y26, x30.toNat * 3 + 2, none⟩)), dN x31.fNext, .nod [.sl 5 (List.map e_cell_Cell x37.fCells), dN x37.fEnd, dT x37.fHidden], .agg [.sl 5 (List.map e_cell_Cell x37.fCells), dN x37.fEnd, dT x37.fHidden], dT true, dT false]) (fun D env36 => [.lp b0 .ready none [13, 14] rfA160_0 rfB160_0 [(3, .nod [.fn (.yield b5) [] []]), (2, (dP b4))] 40, .var b1 [dN a0] 3, .var b2 [dN a1] 3, .var b3 [(eOP a2)] 118, .var b4 [.fn (.func 159) [] [dP b6, dP b7]] 239, .lp b5 .ready none [20] rfA57_0 rfB57_0 [(14, (dP b12)), (13, (dP b11)), (12, (dP b10)), (11, (dP b9)), (10, (dP b8)), (9, .nod [dN a4]), (8, .nod [dN a3])] 38, .var b6 [dQ] 39, .var b7 [.sl 1 (lB a5)] 25, .var b8 [dN a6] 3, .var b9 [dN a7] 3, .var b10 [dT a8] 4, (bif D 15 then .var b11 [dN x38.1, dN x38.2.1] 202 else .var b11 [dN s9.2.1, dN s9.2.2.1] 202), (bif D 15 then .var b12 [dT x38.2.2] 4 else .var b12 [dT s9.2.2.2.1] 4), .var (blk p2) [.val y26] 272, .row y26 (List.map e_wFr t25) 3 278]) [0, 0, 0, 4, 12, 28, 60, 124, 252, 0, 512, 1536, 3584, 8188, 16380, 32767, 65535] [0, 2, 5, 6, 8, 54] _ (by decide +kernel) (by decide +kernel) (fun _ => rfl) (fun _ => rfl) ?_ (fun _ => rfl) (fun _ => rfl) ?_
 rotate_left
 · intro env36
   show T X _ _ _
   refine T.condF rfl rfl ?_
   refine aK rfl ?_
   refine T.region ?_
   iterate 3 refine aA rfl rfl ?_
   refine TL.op1 (OpR.rowLoadM (j := x30) e_wFr 14 hx31 rfl rfl rfl rfl) rfl ?_
   iterate 3 refine aA rfl rfl ?_
   refine TL.op0 (OpR.rowStoreM (j := x30) e_wFr (⟨x31.fN, x31.fFirst, w64 (x31.fNext + 1)⟩ : wFr) 14 hx31 rfl rfl rfl rfl rfl rfl rfl rfl rfl) ?_
   refine aN rfl ?_
   refine T.region ?_
   iterate 3 refine aA rfl rfl ?_
   refine TL.nil ?_
   obtain rfl := osi q13
   exact ⟨m11, Nat.lt_succ_self _, _, Gst.only [0, 2, 5, 6] rfl, y26, (w64 (s9.1 + 1), x38.1, x38.2.1, x38.2.2, (t25.set x30.toNat (⟨x31.fN, x31.fFirst, w64 (x31.fNext + 1)⟩ : wFr))), rfl, i14⟩
 iterate 5 refine aC ?_
 refine oT (.nod [.sl 1 (List.map eNP x35.fKids), .sl 3 (List.map e_row_Row x35.fItems), dN x35.fN]) (fun _ _ => OpR.cast (OpR.rowLoad0M (j := x30) e_wFr 14 hx31 rfl rfl rfl rfl) (congrArg eOP (osi hq32))) ?_
 iterate 6 refine aC ?_
 refine oT ((dN x31.fNext)) (fun _ _ => OpR.rowLoadM (j := x30) e_wFr 14 hx31 rfl rfl rfl rfl) ?_
 refine oT (.nod [.sl 5 (List.map e_cell_Cell x37.fCells), dN x37.fEnd, dT x37.fHidden]) (fun _ _ => OpR.indexM e_row_Row hx37 rfl rfl rfl rfl rfl) ?_
 refine aC ?_
 refine OpsS.cons' true ?_ (fun _ _ _ _ _ _ _ => rfl) ?_
 · intro D env36 hA
   exact OpS.yp [(15, false)] ⟨hA.me, trivial⟩ (Want.plain rfl) (OpR.callY [0, 4, 5, 6, 7, 8, 9, 10, 11, 12] rfl (find_having_2_r0_2_cx2 hx38) rfl rfl rfl (fun _ => rfl)) (fun x => rfl) (fun x => rfl)
 refine aC ?_
 exact trivial
theorem walk_Range_row_Row_1_2_cx1 {a0 : Int} {a1 : Int} {a2 : Option NP} {a3 : Int} {a4 : Int} {a5 : List UInt8} {a6 : Int} {a7 : Int} {a8 : Bool} {a9 : Int} {a10 : Int} {a11 : Bool} {b0 : Nat} {b1 : Nat} {b2 : Nat} {b3 : Nat} {b4 : Nat} {b5 : Nat} {b6 : Nat} {b7 : Nat} {b8 : Nat} {b9 : Nat} {b10 : Nat} {b11 : Nat} {b12 : Nat} {res : Int × Int × Bool} (h0 : walk_Range_row_Row_1_2 a0 a1 a2 a3 a4 a5 a6 a7 a8 a9 a10 a11 = some (Sum.inl res)) : CallF X 194 [.fn (.yield b0) [] [], dP b1, dP b2, dP b3] [.lp b0 .ready none [13, 14] rfA160_0 rfB160_0 [(3, .nod [.fn (.yield b5) [] []]), (2, (dP b4))] 40, .var b1 [dN a0] 3, .var b2 [dN a1] 3, .var b3 [(eOP a2)] 118, .var b4 [.fn (.func 159) [] [dP b6, dP b7]] 239, .lp b5 .ready none [20] rfA57_0 rfB57_0 [(14, (dP b12)), (13, (dP b11)), (12, (dP b10)), (11, (dP b9)), (10, (dP b8)), (9, .nod [dN a4]), (8, .nod [dN a3])] 38, .var b6 [dQ] 39, .var b7 [.sl 1 (lB a5)] 25, .var b8 [dN a6] 3, .var b9 [dN a7] 3, .var b10 [dT a8] 4, .var b11 [dN a9, dN a10] 202, .var b12 [dT a11] 4] (fun x => .tup []) (fun x => [.lp b0 .ready none [13, 14] rfA160_0 rfB160_0 [(3, .nod [.fn (.yield b5) [] []]), (2, (dP b4))] 40, .var b1 [dN a0] 3, .var b2 [dN a1] 3, .var b3 [(eOP a2)] 118, .var b4 [.fn (.func 159) [] [dP b6, dP b7]] 239, .lp b5 .ready none [20] rfA57_0 rfB57_0 [(14, (dP b12)), (13, (dP b11)), (12, (dP b10)), (11, (dP b9)), (10, (dP b8)), (9, .nod [dN a4]), (8, .nod [dN a3])] 38, .var b6 [dQ] 39, .var b7 [.sl 1 (lB a5)] 25, .var b8 [dN a6] 3, .var b9 [dN a7] 3, .var b10 [dT a8] 4, .var b11 [dN res.1, dN res.2.1] 202, .var b12 [dT res.2.2] 4]) := walk_Range_row_Row_1_2_c h0
theorem walk_Range_row_Row_1_2_cx2 {a0 : Int} {a1 : Int} {a2 : Option NP} {a3 : Int} {a4 : Int} {a5 : List UInt8} {a6 : Int} {a7 : Int} {a8 : Bool} {a9 : Int} {a10 : Int} {a11 : Bool} {b0 : Nat} {b1 : Nat} {b2 : Nat} {b3 : Nat} {b4 : Nat} {b5 : Nat} {b6 : Nat} {b7 : Nat} {b8 : Nat} {b9 : Nat} {b10 : Nat} {b11 : Nat} {b12 : Nat} {res : Int × Int × Bool × Int × Int × Bool} (h0 : walk_Range_row_Row_1_2 a0 a1 a2 a3 a4 a5 a6 a7 a8 a9 a10 a11 = some (Sum.inr res)) : CallF X 194 [.fn (.yield b0) [] [], dP b1, dP b2, dP b3] [.lp b0 .ready none [13, 14] rfA160_0 rfB160_0 [(3, .nod [.fn (.yield b5) [] []]), (2, (dP b4))] 40, .var b1 [dN a0] 3, .var b2 [dN a1] 3, .var b3 [(eOP a2)] 118, .var b4 [.fn (.func 159) [] [dP b6, dP b7]] 239, .lp b5 .ready none [20] rfA57_0 rfB57_0 [(14, (dP b12)), (13, (dP b11)), (12, (dP b10)), (11, (dP b9)), (10, (dP b8)), (9, .nod [dN a4]), (8, .nod [dN a3])] 38, .var b6 [dQ] 39, .var b7 [.sl 1 (lB a5)] 25, .var b8 [dN a6] 3, .var b9 [dN a7] 3, .var b10 [dT a8] 4, .var b11 [dN a9, dN a10] 202, .var b12 [dT a11] 4] (fun x => .tup []) (fun x => [.lp b0 .done (some (.ret)) [13, 14] rfA160_0 rfB160_0 [(3, .nod [.fn (.yield b5) [] []]), (2, (dP b4))] 40, .var b1 [dN a0] 3, .var b2 [dN a1] 3, .var b3 [(eOP a2)] 118, .var b4 [.fn (.func 159) [] [dP b6, dP b7]] 239, .lp b5 .done (some (.ret)) [20] rfA57_0 rfB57_0 [(14, (dP b12)), (13, (dP b11)), (12, (dP b10)), (11, (dP b9)), (10, (dP b8)), (9, .nod [dN a4]), (8, .nod [dN a3])] 38, .var b6 [dQ] 39, .var b7 [.sl 1 (lB a5)] 25, .var b8 [dN res.1] 3, .var b9 [dN res.2.1] 3, .var b10 [dT res.2.2.1] 4, .var b11 [dN res.2.2.2.1, dN res.2.2.2.2.1] 202, .var b12 [dT res.2.2.2.2.2] 4]) := walk_Range_row_Row_1_2_c h0
noncomputable def find_having_2_2 (a0 : Int) (a1 : Int) (a2 : Option NP) (a3 : Bool) (a4 : Int) (a5 : Int) (a6 : Int) (a7 : Bool) (a8 : Int) (a9 : Int) (a10 : Bool) (a11 : List UInt8) : Option ((Int × Int × Bool) ⊕ (Int × Int × Bool × Int × Int × Bool)) :=
  bnd (grid_Grid_Len (⟨(⟨a2⟩ : tTr), a3, a4⟩ : grid_Grid)) fun x2 =>
  bnd (walk_Range_row_Row (⟨a2⟩ : tTr) 0 x2) fun x3 =>
  bnd (walk_Range_row_Row_1_2 x3.1 x3.2.1 x3.2.2 a0 a1 a11 a5 a6 a7 a8 a9 a10) fun x5 =>
  match x5 with
  | .inl x5 =>
      some (Sum.inl (x5.1, x5.2.1, x5.2.2))
  | .inr x5 =>
      some (Sum.inr (x5.1, x5.2.1, x5.2.2.1, x5.2.2.2.1, x5.2.2.2.2.1, x5.2.2.2.2.2))
theorem find_having_2_2_c {a0 : Int} {a1 : Int} {a2 : Option NP} {a3 : Bool} {a4 : Int} {a5 : Int} {a6 : Int} {a7 : Bool} {a8 : Int} {a9 : Int} {a10 : Bool} {a11 : List UInt8} {b0 : Nat} {b1 : Nat} {b2 : Nat} {b3 : Nat} {b4 : Nat} {b5 : Nat} {b6 : Nat} {b7 : Nat} {b8 : Nat} {b9 : Nat} {res : (Int × Int × Bool) ⊕ (Int × Int × Bool × Int × Int × Bool)} (h0 : find_having_2_2 a0 a1 a2 a3 a4 a5 a6 a7 a8 a9 a10 a11 = some res) : CallF X 160 [.fn (.yield b0) [] [], dP b1, dP b2] [.lp b0 .ready none [20] rfA57_0 rfB57_0 [(14, (dP b7)), (13, (dP b6)), (12, (dP b5)), (11, (dP b4)), (10, (dP b3)), (9, .nod [dN a1]), (8, .nod [dN a0])] 38, .var b1 [(eOP a2), dT a3, dN a4] 120, .var b2 [.fn (.func 159) [] [dP b8, dP b9]] 239, .var b3 [dN a5] 3, .var b4 [dN a6] 3, .var b5 [dT a7] 4, .var b6 [dN a8, dN a9] 202, .var b7 [dT a10] 4, .var b8 [dQ] 39, .var b9 [.sl 1 (lB a11)] 25] (fun x => (match res with | .inl res => .tup [] | .inr res => .tup [])) (fun x => (match res with | .inl res => [.lp b0 .ready none [20] rfA57_0 rfB57_0 [(14, (dP b7)), (13, (dP b6)), (12, (dP b5)), (11, (dP b4)), (10, (dP b3)), (9, .nod [dN a1]), (8, .nod [dN a0])] 38, .var b1 [(eOP a2), dT a3, dN a4] 120, .var b2 [.fn (.func 159) [] [dP b8, dP b9]] 239, .var b3 [dN a5] 3, .var b4 [dN a6] 3, .var b5 [dT a7] 4, .var b6 [dN res.1, dN res.2.1] 202, .var b7 [dT res.2.2] 4, .var b8 [dQ] 39, .var b9 [.sl 1 (lB a11)] 25] | .inr res => [.lp b0 .done (some (.ret)) [20] rfA57_0 rfB57_0 [(14, (dP b7)), (13, (dP b6)), (12, (dP b5)), (11, (dP b4)), (10, (dP b3)), (9, .nod [dN a1]), (8, .nod [dN a0])] 38, .var b1 [(eOP a2), dT a3, dN a4] 120, .var b2 [.fn (.func 159) [] [dP b8, dP b9]] 239, .var b3 [dN res.1] 3, .var b4 [dN res.2.1] 3, .var b5 [dT res.2.2.1] 4, .var b6 [dN res.2.2.2.1, dN res.2.2.2.2.1] 202, .var b7 [dT res.2.2.2.2.2] 4, .var b8 [dQ] 39, .var b9 [.sl 1 (lB a11)] 25])) := by
 unfold find_having_2_2 at h0
 refine CallF.mkG (X := X) rfl Try.func160 rfl rfl Try.ntmps160 rfl rfl ?_
 refine aS ?_
 refine TL.op1 (OpR.boxImm rfl rfl) rfl ?_
 refine aN rfl ?_
 refine T.seq ?_
 obtain ⟨x2, hx2, h0⟩ := bS h0
 obtain ⟨x3, hx3, h0⟩ := bS h0
 refine T.drawS drawsX (fun env1 => [dP b1, .agg [(eOP a2)], .agg [(eOP a2), dT a3, dN a4], dN x2, .fn (.func 194) [] [dP (blk (vn (env1 4) 0)), dP (blk (vn (env1 4) 1)), dP (blk (vn (env1 4) 2))]]) (fun D env1 => [.lp b0 .ready none [20] rfA57_0 rfB57_0 [(14, (dP b7)), (13, (dP b6)), (12, (dP b5)), (11, (dP b4)), (10, (dP b3)), (9, .nod [dN a1]), (8, .nod [dN a0])] 38, .var b1 [(eOP a2), dT a3, dN a4] 120, .var b2 [.fn (.func 159) [] [dP b8, dP b9]] 239, .var b3 [dN a5] 3, .var b4 [dN a6] 3, .var b5 [dT a7] 4, .var b6 [dN a8, dN a9] 202, .var b7 [dT a10] 4, .var b8 [dQ] 39, .var b9 [.sl 1 (lB a11)] 25] ++ (bif D 4 then [.var (blk (vn (env1 4) 0)) [dN x3.1] 3] else []) ++ (bif D 4 then [.var (blk (vn (env1 4) 1)) [dN x3.2.1] 3] else []) ++ (bif D 4 then [.var (blk (vn (env1 4) 2)) [(eOP x3.2.2)] 118] else [])) [0, 1, 0, 4, 15] [2, 3, 12] _ (by decide +kernel) (by decide +kernel) (fun _ => rfl) (fun _ => rfl) ?_ (fun _ => rfl) (fun _ => rfl) ?_
 · refine aC ?_
   refine oT (.agg [(eOP a2)]) (fun _ _ => OpR.loadPtr 1 rfl rfl rfl rfl) ?_
   refine oT (.agg [(eOP a2), dT a3, dN a4]) (fun _ _ => OpR.loadPtr 1 rfl rfl rfl rfl) ?_
   refine oT ((dN x2)) (fun _ _ => OpR.call0 fn104 (grid_Grid_Len_c hx2) rfl) ?_
   refine OpsS.cons' true ?_ (fun D hA env1 x j hj hD => match j, hj, hD with | 0, _, _ => rfl | 1, _, _ => rfl | 2, _, _ => rfl | 3, _, _ => rfl | 4, hj, _ => absurd rfl hj | _ + 5, _, _ => rfl) ?_
   · intro D env1 hA
     exact OpS.yp [(4, false)] ⟨hA.me, trivial⟩ (Want.plain rfl) (OpR.call [] fn161 (walk_Range_row_Row_c hx3) rfl rfl rfl (fun _ => rfl)) (fun x => rfl) (fun x => rfl)
   exact trivial
 intro env1
 show T X _ _ _
 refine T.block ?_
 obtain ⟨x5, hx5, h0⟩ := bS h0
 rcases x5 with x5 | x5
 · dsimp only at h0
   refine T.rangeN (A := rfA160_0) (B := rfB160_0) (ow1 := fun w6 => [.lp b0 .ready none [20] rfA57_0 rfB57_0 [(14, (dP b7)), (13, (dP b6)), (12, (dP b5)), (11, (dP b4)), (10, (dP b3)), (9, .nod [dN a1]), (8, .nod [dN a0])] 38, .var b1 [(eOP a2), dT a3, dN a4] 120, .var b2 [.fn (.func 159) [] [dP b8, dP b9]] 239, .var b3 [dN a5] 3, .var b4 [dN a6] 3, .var b5 [dT a7] 4, .var b6 [dN x5.1, dN x5.2.1] 202, .var b7 [dT x5.2.2] 4, .var b8 [dQ] 39, .var b9 [.sl 1 (lB a11)] 25, .var (blk (vn (env1 4) 0)) [dN x3.1] 3, .var (blk (vn (env1 4) 1)) [dN x3.2.1] 3, .var (blk (vn (env1 4) 2)) [(eOP x3.2.2)] 118]) [2, 3] [10, 11, 12, 2, 0, 8, 9, 3, 4, 5, 6, 7] (.inl rfl) rfl rfl rfl rfl rfl fn194 rfl rfl (fun l4 => (walk_Range_row_Row_1_2_cx1 hx5)) (fun _ => by kernel_rfl) (fun w6 => ?_)
   obtain rfl := osi h0
   exact PostG.finP (ks := [0, 1, 2, 3, 4, 5, 6, 7, 8, 9]) (gP [] [0, 1, 2, 3, 4, 5, 6, 7, 8, 9] rfl rfl rfl) undef ResL.nil rfl rfl rfl rfl
 dsimp only at h0
 refine T.rangeJ (A := rfA160_0) (B := rfB160_0) (ow1 := fun w7 => [.lp b0 .done (some (.ret)) [20] rfA57_0 rfB57_0 [(14, (dP b7)), (13, (dP b6)), (12, (dP b5)), (11, (dP b4)), (10, (dP b3)), (9, .nod [dN a1]), (8, .nod [dN a0])] 38, .var b1 [(eOP a2), dT a3, dN a4] 120, .var b2 [.fn (.func 159) [] [dP b8, dP b9]] 239, .var b3 [dN x5.1] 3, .var b4 [dN x5.2.1] 3, .var b5 [dT x5.2.2.1] 4, .var b6 [dN x5.2.2.2.1, dN x5.2.2.2.2.1] 202, .var b7 [dT x5.2.2.2.2.2] 4, .var b8 [dQ] 39, .var b9 [.sl 1 (lB a11)] 25, .var (blk (vn (env1 4) 0)) [dN x3.1] 3, .var (blk (vn (env1 4) 1)) [dN x3.2.1] 3, .var (blk (vn (env1 4) 2)) [(eOP x3.2.2)] 118]) (.ret) [2, 3] [10, 11, 12, 2, 0, 8, 9, 3, 4, 5, 6, 7] (.inl rfl) rfl rfl rfl rfl rfl fn194 rfl rfl (fun l4 => (walk_Range_row_Row_1_2_cx2 hx5)) (fun _ => by kernel_rfl) (fun w7 => ?_)
 refine T.ret ?_
 obtain rfl := osi h0
 exact rP [0, 1, 2, 3, 4, 5, 6, 7, 8, 9] [] [0, 1, 2, 3, 4, 5, 6, 7, 8, 9] rfl rfl rfl undef ResL.nil rfl rfl rfl rfl
theorem find_having_2_2_cx1 {a0 : Int} {a1 : Int} {a2 : Option NP} {a3 : Bool} {a4 : Int} {a5 : Int} {a6 : Int} {a7 : Bool} {a8 : Int} {a9 : Int} {a10 : Bool} {a11 : List UInt8} {b0 : Nat} {b1 : Nat} {b2 : Nat} {b3 : Nat} {b4 : Nat} {b5 : Nat} {b6 : Nat} {b7 : Nat} {b8 : Nat} {b9 : Nat} {res : Int × Int × Bool} (h0 : find_having_2_2 a0 a1 a2 a3 a4 a5 a6 a7 a8 a9 a10 a11 = some (Sum.inl res)) : CallF X 160 [.fn (.yield b0) [] [], dP b1, dP b2] [.lp b0 .ready none [20] rfA57_0 rfB57_0 [(14, (dP b7)), (13, (dP b6)), (12, (dP b5)), (11, (dP b4)), (10, (dP b3)), (9, .nod [dN a1]), (8, .nod [dN a0])] 38, .var b1 [(eOP a2), dT a3, dN a4] 120, .var b2 [.fn (.func 159) [] [dP b8, dP b9]] 239, .var b3 [dN a5] 3, .var b4 [dN a6] 3, .var b5 [dT a7] 4, .var b6 [dN a8, dN a9] 202, .var b7 [dT a10] 4, .var b8 [dQ] 39, .var b9 [.sl 1 (lB a11)] 25] (fun x => .tup []) (fun x => [.lp b0 .ready none [20] rfA57_0 rfB57_0 [(14, (dP b7)), (13, (dP b6)), (12, (dP b5)), (11, (dP b4)), (10, (dP b3)), (9, .nod [dN a1]), (8, .nod [dN a0])] 38, .var b1 [(eOP a2), dT a3, dN a4] 120, .var b2 [.fn (.func 159) [] [dP b8, dP b9]] 239, .var b3 [dN a5] 3, .var b4 [dN a6] 3, .var b5 [dT a7] 4, .var b6 [dN res.1, dN res.2.1] 202, .var b7 [dT res.2.2] 4, .var b8 [dQ] 39, .var b9 [.sl 1 (lB a11)] 25]) := find_having_2_2_c h0
theorem find_having_2_2_cx2 {a0 : Int} {a1 : Int} {a2 : Option NP} {a3 : Bool} {a4 : Int} {a5 : Int} {a6 : Int} {a7 : Bool} {a8 : Int} {a9 : Int} {a10 : Bool} {a11 : List UInt8} {b0 : Nat} {b1 : Nat} {b2 : Nat} {b3 : Nat} {b4 : Nat} {b5 : Nat} {b6 : Nat} {b7 : Nat} {b8 : Nat} {b9 : Nat} {res : Int × Int × Bool × Int × Int × Bool} (h0 : find_having_2_2 a0 a1 a2 a3 a4 a5 a6 a7 a8 a9 a10 a11 = some (Sum.inr res)) : CallF X 160 [.fn (.yield b0) [] [], dP b1, dP b2] [.lp b0 .ready none [20] rfA57_0 rfB57_0 [(14, (dP b7)), (13, (dP b6)), (12, (dP b5)), (11, (dP b4)), (10, (dP b3)), (9, .nod [dN a1]), (8, .nod [dN a0])] 38, .var b1 [(eOP a2), dT a3, dN a4] 120, .var b2 [.fn (.func 159) [] [dP b8, dP b9]] 239, .var b3 [dN a5] 3, .var b4 [dN a6] 3, .var b5 [dT a7] 4, .var b6 [dN a8, dN a9] 202, .var b7 [dT a10] 4, .var b8 [dQ] 39, .var b9 [.sl 1 (lB a11)] 25] (fun x => .tup []) (fun x => [.lp b0 .done (some (.ret)) [20] rfA57_0 rfB57_0 [(14, (dP b7)), (13, (dP b6)), (12, (dP b5)), (11, (dP b4)), (10, (dP b3)), (9, .nod [dN a1]), (8, .nod [dN a0])] 38, .var b1 [(eOP a2), dT a3, dN a4] 120, .var b2 [.fn (.func 159) [] [dP b8, dP b9]] 239, .var b3 [dN res.1] 3, .var b4 [dN res.2.1] 3, .var b5 [dT res.2.2.1] 4, .var b6 [dN res.2.2.2.1, dN res.2.2.2.2.1] 202, .var b7 [dT res.2.2.2.2.2] 4, .var b8 [dQ] 39, .var b9 [.sl 1 (lB a11)] 25]) := find_having_2_2_c h0
noncomputable def find_Next_nil (a0 : grid_Grid) (a1 : List UInt8) (a2 : Int) (a3 : Int) : Option (Int × Int × Bool) :=
  bnd (find_having_nil a0 a1) fun x6 =>
  bnd (find_having_2_2 a2 a3 x6.1 x6.2.1 x6.2.2.1 0 0 false 0 0 false x6.2.2.2) fun x9 =>
  match x9 with
  | .inl x9 =>
      some (x9.1, x9.2.1, x9.2.2)
  | .inr x9 =>
      some (x9.1, x9.2.1, x9.2.2.1)
theorem find_Next_nil_c {a0 : grid_Grid} {a1 : List UInt8} {a2 : Int} {a3 : Int} {res : Int × Int × Bool} (h0 : find_Next_nil a0 a1 a2 a3 = some res) : CallF X 57 [.agg [(eOP a0.fRows.fRoot), dT a0.fTail, dN a0.fEnd], dQ, .sl 1 (lB a1), dN a2, dN a3] [] (fun x => .tup [dN res.1, dN res.2.1, dT res.2.2]) (fun x => []) := by
 unfold find_Next_nil at h0
 refine CallF.mkG (X := X) rfl Try.func57 rfl rfl Try.ntmps57 rfl rfl ?_
 refine aS ?_
 refine TL.op1 (OpR.boxImm rfl rfl) rfl ?_
 refine TL.op1 (OpR.boxImm rfl rfl) rfl ?_
 refine TL.op1 (OpR.boxImm rfl rfl) rfl ?_
 refine TL.op (OpR.alloc rfl rfl (fun _ => rfl)) rfl (fun p1 => ?_)
 refine TL.op (OpR.alloc rfl rfl (fun _ => rfl)) rfl (fun p2 => ?_)
 refine TL.op (OpR.alloc rfl rfl (fun _ => rfl)) rfl (fun p3 => ?_)
 refine aN rfl ?_
 refine aS ?_
 refine TL.op (OpR.alloc rfl rfl (fun _ => rfl)) rfl (fun p4 => ?_)
 refine aN rfl ?_
 refine aS ?_
 refine TL.op (OpR.alloc rfl rfl (fun _ => rfl)) rfl (fun p5 => ?_)
 refine TL.op0 (OpR.store 4 rfl rfl rfl rfl rfl rfl rfl rfl) ?_
 refine aN rfl ?_
 refine T.seq ?_
 refine aS ?_
 iterate 3 refine aA rfl rfl ?_
 obtain ⟨x6, hx6, h0⟩ := bS h0
 refine TL.op (OpR.call [] fn108 (find_having_nil_c hx6) rfl rfl rfl (fun _ => rfl)) rfl (fun w7 => ?_)
 refine aN rfl ?_
 refine T.block ?_
 obtain ⟨x9, hx9, h0⟩ := bS h0
 rcases x9 with x9 | x9
 rotate_left
 · dsimp only at h0
   refine T.rangeJ (A := rfA57_0) (B := rfB57_0) (ow1 := fun w12 => [.var (blk p1) [dN x9.1] 3, .var (blk p2) [dN x9.2.1] 3, .var (blk p3) [dT x9.2.2.1] 4, .var (blk p4) [dN x9.2.2.2.1, dN x9.2.2.2.2.1] 202, .var (blk p5) [dT x9.2.2.2.2.2] 4, .var (blk (vn w7 0)) [(eOP x6.1), dT x6.2.1, dN x6.2.2.1] 120, .var (blk (vn w7 1)) [.fn (.func 159) [] [dP (blk (vn w7 2)), dP (blk (vn w7 3))]] 239, .var (blk (vn w7 2)) [dQ] 39, .var (blk (vn w7 3)) [.sl 1 (lB x6.2.2.2)] 25]) (.ret) [8, 9, 10, 11, 12, 13, 14] [5, 6, 0, 1, 2, 3, 4, 7, 8] (.inl rfl) rfl rfl rfl rfl rfl fn160 rfl rfl (fun l8 => (find_having_2_2_cx2 hx9)) (fun _ => by kernel_rfl) (fun w12 => ?_)
   refine T.ret ?_
   obtain rfl := osi h0
   exact rP [] [10, 11, 12] [0, 1, 2] rfl rfl rfl undef (cV 0 rfl rfl rfl rfl (cV 1 rfl rfl rfl rfl (cV 2 rfl rfl rfl rfl ResL.nil))) rfl rfl rfl rfl
 dsimp only at h0
 refine T.rangeN (A := rfA57_0) (B := rfB57_0) (ow1 := fun w10 => [.var (blk p1) [dN 0] 3, .var (blk p2) [dN 0] 3, .var (blk p3) [dT false] 4, .var (blk p4) [dN x9.1, dN x9.2.1] 202, .var (blk p5) [dT x9.2.2] 4, .var (blk (vn w7 0)) [(eOP x6.1), dT x6.2.1, dN x6.2.2.1] 120, .var (blk (vn w7 1)) [.fn (.func 159) [] [dP (blk (vn w7 2)), dP (blk (vn w7 3))]] 239, .var (blk (vn w7 2)) [dQ] 39, .var (blk (vn w7 3)) [.sl 1 (lB x6.2.2.2)] 25]) [8, 9, 10, 11, 12, 13, 14] [5, 6, 0, 1, 2, 3, 4, 7, 8] (.inl rfl) rfl rfl rfl rfl rfl fn160 rfl rfl (fun l8 => (find_having_2_2_cx1 hx9)) (fun _ => by kernel_rfl) (fun w10 => ?_)
 show T X _ _ _
 refine T.seq ?_
 refine T.drawS drawsX (fun env11 => [dP (blk p4), dN x9.1, .val (.pointer (some ⟨(blk p4), 1, none⟩)), dN x9.2.1, dT x9.2.2, .dead, .dead, .dead]) (fun D env11 => [(bif D 5 then .var (blk p1) [dN x9.1] 3 else .var (blk p1) [dN 0] 3), (bif D 6 then .var (blk p2) [dN x9.2.1] 3 else .var (blk p2) [dN 0] 3), (bif D 7 then .var (blk p3) [dT x9.2.2] 4 else .var (blk p3) [dT false] 4), .var (blk p4) [dN x9.1, dN x9.2.1] 202, .var (blk p5) [dT x9.2.2] 4, .var (blk (vn w7 0)) [(eOP x6.1), dT x6.2.1, dN x6.2.2.1] 120, .var (blk (vn w7 1)) [.fn (.func 159) [] [dP (blk (vn w7 2)), dP (blk (vn w7 3))]] 239, .var (blk (vn w7 2)) [dQ] 39, .var (blk (vn w7 3)) [.sl 1 (lB x6.2.2.2)] 25]) [0, 1, 0, 4, 0, 3, 47, 127] [10, 11, 12] _ (by decide +kernel) (by decide +kernel) (fun _ => rfl) (fun _ => rfl) ?_ (fun _ => rfl) (fun _ => rfl) ?_
 rotate_left
 · intro env11
   show T X _ _ _
   refine T.ret ?_
   obtain rfl := osi h0
   exact rP [] [10, 11, 12] [0, 1, 2] rfl rfl rfl undef (cV 0 rfl rfl rfl rfl (cV 1 rfl rfl rfl rfl (cV 2 rfl rfl rfl rfl ResL.nil))) rfl rfl rfl rfl
 refine aC ?_
 refine oT ((dN x9.1)) (fun _ _ => OpR.loadPtr 3 rfl rfl rfl rfl) ?_
 refine aC ?_
 refine oT ((dN x9.2.1)) (fun _ _ => OpR.loadPtr 3 rfl rfl rfl rfl) ?_
 refine oT ((dT x9.2.2)) (fun _ _ => OpR.loadPtr 4 rfl rfl rfl rfl) ?_
 refine OpsS.cons' true ?_ (fun _ _ _ _ _ _ _ => rfl) ?_
 · intro D env11 hA
   have e6 : D 6 = false := hA.no 6 _ rfl rfl
   have e7 : D 7 = false := hA.no 7 _ rfl rfl
   exact OpS.yp [(6, false), (7, false), (5, false)] ⟨e6, e7, hA.me, trivial⟩ (Want.plain rfl) (OpR.store 0 rfl rfl rfl rfl rfl rfl rfl rfl) (fun x => rfl) (fun x => rfl)
 refine OpsS.cons' true ?_ (fun _ _ _ _ _ _ _ => rfl) ?_
 · intro D env11 hA
   have e5 : D 5 = true := hA.yes 5 _ rfl rfl
   have e7 : D 7 = false := hA.no 7 _ rfl rfl
   exact OpS.yp [(5, true), (7, false), (6, false)] ⟨e5, e7, hA.me, trivial⟩ (Want.plain rfl) (OpR.store 1 rfl rfl rfl rfl rfl rfl rfl rfl) (fun x => rfl) (fun x => rfl)
 refine OpsS.cons' true ?_ (fun _ _ _ _ _ _ _ => rfl) ?_
 · intro D env11 hA
   have e5 : D 5 = true := hA.yes 5 _ rfl rfl
   have e6 : D 6 = true := hA.yes 6 _ rfl rfl
   exact OpS.yp [(5, true), (6, true), (7, false)] ⟨e5, e6, hA.me, trivial⟩ (Want.plain rfl) (OpR.store 2 rfl rfl rfl rfl rfl rfl rfl rfl) (fun x => rfl) (fun x => rfl)
 exact trivial
noncomputable def law17_awake : Option Bool :=
  bnd (grid_Load [120, 44, 97, 121, 10, 121, 97]) fun x2 =>
  match x2 with
  | .inl x2 =>
      bnd (find_Next x2.1 [97] 0 1 x2.2.2) fun x6 =>
      bnd (find_Replace [97, 98, 97, 98] [98] [99, 99] true) fun x10 =>
      bnd (bnd (find_Every [97, 97, 97, 97] [97, 97]) fun x14 =>
      bnd (ref09_Same x14 [0, 1, 2]) fun x15 =>
      if x15 = true then
        bnd (find_Apart [97, 97, 97, 97] [97, 97]) fun x19 =>
        bnd (ref09_Same x19 [0, 2]) fun x20 =>
        if x20 = true then
          if x6.2.2 = true then
            if x6.1 = 1 then
              if x6.2.1 = 0 then
                if x10.1 = [97, 99, 99, 97, 99, 99] then
                  some (x10.2 == 2)
                else
                  some false
              else
                some false
            else
              some false
          else
            some false
        else
          some false
      else
        some false : Option Bool) fun t11 =>
      some t11
  | .inr x2 =>
      bnd (find_Next_nil x2.1 [97] 0 1) fun x28 =>
      bnd (find_Replace [97, 98, 97, 98] [98] [99, 99] true) fun x32 =>
      bnd (bnd (find_Every [97, 97, 97, 97] [97, 97]) fun x36 =>
      bnd (ref09_Same x36 [0, 1, 2]) fun x37 =>
      if x37 = true then
        bnd (find_Apart [97, 97, 97, 97] [97, 97]) fun x41 =>
        bnd (ref09_Same x41 [0, 2]) fun x42 =>
        if x42 = true then
          if x28.2.2 = true then
            if x28.1 = 1 then
              if x28.2.1 = 0 then
                if x32.1 = [97, 99, 99, 97, 99, 99] then
                  some (x32.2 == 2)
                else
                  some false
              else
                some false
            else
              some false
          else
            some false
        else
          some false
      else
        some false : Option Bool) fun t33 =>
      some t33
theorem law17_awake_c {res : Bool} (h0 : law17_awake = some res) : CallF X 14 [] [] (fun x => (dT res)) (fun x => []) := by
 unfold law17_awake at h0
 refine CallF.mkG (X := X) rfl Try.func14 rfl rfl Try.ntmps14 rfl rfl ?_
 refine aS ?_
 refine aA rfl rfl ?_
 refine aN rfl ?_
 refine aS ?_
 refine TL.op (OpR.litRow rfl rfl rfl rfl rfl rfl rfl rfl (fun _ => rfl)) rfl (fun v1 => ?_)
 refine TL.op1 (OpR.markRow 0 rfl rfl rfl rfl rfl rfl rfl rfl) rfl ?_
 obtain ⟨x2, hx2, h0⟩ := bS h0
 rcases x2 with x2 | x2
 rotate_left
 · dsimp only at h0
   refine TL.op1 (OpR.call0 fn63 (grid_Load_cx2 hx2) rfl) rfl ?_
   iterate 4 refine aA rfl rfl ?_
   refine TL.op (OpR.alloc rfl rfl (fun _ => rfl)) rfl (fun p26 => ?_)
   refine TL.op0 (OpR.store 1 rfl rfl rfl rfl rfl rfl rfl rfl) ?_
   iterate 2 refine aA rfl rfl ?_
   refine aN rfl ?_
   refine aS ?_
   refine TL.op1 (OpR.loadPtr 1 rfl rfl rfl rfl) rfl ?_
   refine aA rfl rfl ?_
   refine TL.op (OpR.litRow rfl rfl rfl rfl rfl rfl rfl rfl (fun _ => rfl)) rfl (fun v27 => ?_)
   refine TL.op1 (OpR.markRow 2 rfl rfl rfl rfl rfl rfl rfl rfl) rfl ?_
   obtain ⟨x28, hx28, h0⟩ := bS h0
   refine TL.op1 (OpR.call0 fn57 (find_Next_nil_c hx28) rfl) rfl ?_
   iterate 7 refine aA rfl rfl ?_
   refine aN rfl ?_
   refine aS ?_
   refine TL.op (OpR.litRow rfl rfl rfl rfl rfl rfl rfl rfl (fun _ => rfl)) rfl (fun v29 => ?_)
   refine TL.op1 (OpR.markRow 3 rfl rfl rfl rfl rfl rfl rfl rfl) rfl ?_
   refine TL.op (OpR.litRow rfl rfl rfl rfl rfl rfl rfl rfl (fun _ => rfl)) rfl (fun v30 => ?_)
   refine TL.op1 (OpR.markRow 4 rfl rfl rfl rfl rfl rfl rfl rfl) rfl ?_
   refine TL.op (OpR.litRow rfl rfl rfl rfl rfl rfl rfl rfl (fun _ => rfl)) rfl (fun v31 => ?_)
   refine TL.op1 (OpR.markRow 5 rfl rfl rfl rfl rfl rfl rfl rfl) rfl ?_
   obtain ⟨x32, hx32, h0⟩ := bS h0
   refine TL.op1 (OpR.call0 fn12 (find_Replace_c hx32) rfl) rfl ?_
   iterate 5 refine aA rfl rfl ?_
   refine aN rfl ?_
   refine T.seq ?_
   obtain ⟨t33, ht33, h0⟩ := bS h0
   refine T.cutC (fun S' => S' = ⟨[(0, (dT t33))], [], 71⟩) (fun _ h => h) ?_ ?_
   rotate_left
   · rintro _ rfl
     show T X _ _ _
     refine T.ret ?_
     obtain rfl := osi h0
     exact rO [] [0] rfl undef (cT rfl ResL.nil) rfl rfl rfl rfl
   refine T.region ?_
   refine TL.op (OpR.litRow rfl rfl rfl rfl rfl rfl rfl rfl (fun _ => rfl)) rfl (fun v34 => ?_)
   refine TL.op1 (OpR.markRow 6 rfl rfl rfl rfl rfl rfl rfl rfl) rfl ?_
   refine TL.op (OpR.litRow rfl rfl rfl rfl rfl rfl rfl rfl (fun _ => rfl)) rfl (fun v35 => ?_)
   refine TL.op1 (OpR.markRow 7 rfl rfl rfl rfl rfl rfl rfl rfl) rfl ?_
   obtain ⟨x36, hx36, ht33⟩ := bS ht33
   refine TL.op1 (OpR.call0 fn16 (find_Every_c hx36) rfl) rfl ?_
   refine TL.op1 (OpR.lit rfl rfl rfl rfl rfl rfl rfl) rfl ?_
   obtain ⟨x37, hx37, ht33⟩ := bS ht33
   refine TL.op1 (OpR.call0 fn15 (ref09_Same_c hx37) rfl) rfl ?_
   refine aA rfl rfl ?_
   rcases ite_some ht33 with ⟨c38, ht33⟩ | ⟨c38, ht33⟩
   rotate_left
   · refine TL.off rfl rfl rfl rfl (eq_false_of_ne_true c38) rfl rfl ?_
     refine TL.off rfl rfl rfl rfl (eq_false_of_ne_true c38) rfl rfl ?_
     refine TL.off rfl rfl rfl rfl (eq_false_of_ne_true c38) rfl rfl ?_
     refine TL.off rfl rfl rfl rfl (eq_false_of_ne_true c38) rfl rfl ?_
     refine TL.off rfl rfl rfl rfl (eq_false_of_ne_true c38) rfl rfl ?_
     refine TL.off rfl rfl rfl rfl (eq_false_of_ne_true c38) rfl rfl ?_
     refine TL.off rfl rfl rfl rfl (eq_false_of_ne_true c38) rfl rfl ?_
     refine TL.op1 (OpR.pickF rfl (eq_false_of_ne_true c38) rfl) rfl ?_
     refine aA rfl rfl ?_
     refine TL.off rfl rfl rfl rfl rfl rfl rfl ?_
     refine TL.op1 (OpR.pickF rfl rfl rfl) rfl ?_
     refine aA rfl rfl ?_
     refine TL.off rfl rfl rfl rfl rfl rfl rfl ?_
     refine TL.off rfl rfl rfl rfl rfl rfl rfl ?_
     refine TL.op1 (OpR.pickF rfl rfl rfl) rfl ?_
     refine aA rfl rfl ?_
     refine TL.off rfl rfl rfl rfl rfl rfl rfl ?_
     refine TL.off rfl rfl rfl rfl rfl rfl rfl ?_
     refine TL.op1 (OpR.pickF rfl rfl rfl) rfl ?_
     refine aA rfl rfl ?_
     refine TL.off rfl rfl rfl rfl rfl rfl rfl ?_
     refine TL.off rfl rfl rfl rfl rfl rfl rfl ?_
     refine TL.off rfl rfl rfl rfl rfl rfl rfl ?_
     refine TL.op1 (OpR.pickF rfl rfl rfl) rfl ?_
     refine aA rfl rfl ?_
     refine TL.off rfl rfl rfl rfl rfl rfl rfl ?_
     refine TL.off rfl rfl rfl rfl rfl rfl rfl ?_
     refine TL.op1 (OpR.pickF rfl rfl rfl) rfl ?_
     refine aA rfl rfl ?_
     refine TL.nil ?_
     obtain rfl := osi ht33
     exact ⟨_, gP [0] [] rfl rfl rfl, rfl⟩
   refine TL.on rfl rfl rfl rfl (c38) ?_
   refine TL.op (OpR.litRow rfl rfl rfl rfl rfl rfl rfl rfl (fun _ => rfl)) rfl (fun v39 => ?_)
   refine TL.on rfl rfl rfl rfl (c38) ?_
   refine TL.op1 (OpR.markRow 8 rfl rfl rfl rfl rfl rfl rfl rfl) rfl ?_
   refine TL.on rfl rfl rfl rfl (c38) ?_
   refine TL.op (OpR.litRow rfl rfl rfl rfl rfl rfl rfl rfl (fun _ => rfl)) rfl (fun v40 => ?_)
   refine TL.on rfl rfl rfl rfl (c38) ?_
   refine TL.op1 (OpR.markRow 9 rfl rfl rfl rfl rfl rfl rfl rfl) rfl ?_
   refine TL.on rfl rfl rfl rfl (c38) ?_
   obtain ⟨x41, hx41, ht33⟩ := bS ht33
   refine TL.op1 (OpR.call0 fn18 (find_Apart_c hx41) rfl) rfl ?_
   refine TL.on rfl rfl rfl rfl (c38) ?_
   refine TL.op1 (OpR.lit rfl rfl rfl rfl rfl rfl rfl) rfl ?_
   refine TL.on rfl rfl rfl rfl (c38) ?_
   obtain ⟨x42, hx42, ht33⟩ := bS ht33
   refine TL.op1 (OpR.call0 fn15 (ref09_Same_c hx42) rfl) rfl ?_
   refine TL.op1 (OpR.pickT rfl (c38) rfl) rfl ?_
   refine aA rfl rfl ?_
   rcases ite_some ht33 with ⟨c43, ht33⟩ | ⟨c43, ht33⟩
   rotate_left
   · refine TL.off rfl rfl rfl rfl (eq_false_of_ne_true c43) rfl rfl ?_
     refine TL.op1 (OpR.pickF rfl (eq_false_of_ne_true c43) rfl) rfl ?_
     refine aA rfl rfl ?_
     refine TL.off rfl rfl rfl rfl rfl rfl rfl ?_
     refine TL.off rfl rfl rfl rfl rfl rfl rfl ?_
     refine TL.op1 (OpR.pickF rfl rfl rfl) rfl ?_
     refine aA rfl rfl ?_
     refine TL.off rfl rfl rfl rfl rfl rfl rfl ?_
     refine TL.off rfl rfl rfl rfl rfl rfl rfl ?_
     refine TL.op1 (OpR.pickF rfl rfl rfl) rfl ?_
     refine aA rfl rfl ?_
     refine TL.off rfl rfl rfl rfl rfl rfl rfl ?_
     refine TL.off rfl rfl rfl rfl rfl rfl rfl ?_
     refine TL.off rfl rfl rfl rfl rfl rfl rfl ?_
     refine TL.op1 (OpR.pickF rfl rfl rfl) rfl ?_
     refine aA rfl rfl ?_
     refine TL.off rfl rfl rfl rfl rfl rfl rfl ?_
     refine TL.off rfl rfl rfl rfl rfl rfl rfl ?_
     refine TL.op1 (OpR.pickF rfl rfl rfl) rfl ?_
     refine aA rfl rfl ?_
     refine TL.nil ?_
     obtain rfl := osi ht33
     exact ⟨_, gP [0] [] rfl rfl rfl, rfl⟩
   refine TL.on rfl rfl rfl rfl (c43) ?_
   refine aA rfl rfl ?_
   refine TL.op1 (OpR.pickT rfl (c43) rfl) rfl ?_
   refine aA rfl rfl ?_
   rcases ite_some ht33 with ⟨c44, ht33⟩ | ⟨c44, ht33⟩
   rotate_left
   · refine TL.off rfl rfl rfl rfl (eq_false_of_ne_true c44) rfl rfl ?_
     refine TL.off rfl rfl rfl rfl (eq_false_of_ne_true c44) rfl rfl ?_
     refine TL.op1 (OpR.pickF rfl (eq_false_of_ne_true c44) rfl) rfl ?_
     refine aA rfl rfl ?_
     refine TL.off rfl rfl rfl rfl rfl rfl rfl ?_
     refine TL.off rfl rfl rfl rfl rfl rfl rfl ?_
     refine TL.op1 (OpR.pickF rfl rfl rfl) rfl ?_
     refine aA rfl rfl ?_
     refine TL.off rfl rfl rfl rfl rfl rfl rfl ?_
     refine TL.off rfl rfl rfl rfl rfl rfl rfl ?_
     refine TL.off rfl rfl rfl rfl rfl rfl rfl ?_
     refine TL.op1 (OpR.pickF rfl rfl rfl) rfl ?_
     refine aA rfl rfl ?_
     refine TL.off rfl rfl rfl rfl rfl rfl rfl ?_
     refine TL.off rfl rfl rfl rfl rfl rfl rfl ?_
     refine TL.op1 (OpR.pickF rfl rfl rfl) rfl ?_
     refine aA rfl rfl ?_
     refine TL.nil ?_
     obtain rfl := osi ht33
     exact ⟨_, gP [0] [] rfl rfl rfl, rfl⟩
   refine TL.on rfl rfl rfl rfl (c44) ?_
   refine aA rfl rfl ?_
   refine TL.on rfl rfl rfl rfl (c44) ?_
   refine aA rfl rfl ?_
   refine TL.op1 (OpR.pickT rfl (c44) rfl) rfl ?_
   refine aA rfl rfl ?_
   rcases ite_some ht33 with ⟨c45, ht33⟩ | ⟨c45, ht33⟩
   rotate_left
   · refine TL.off rfl rfl rfl rfl (beq_eq_false_iff_ne.2 c45) rfl rfl ?_
     refine TL.off rfl rfl rfl rfl (beq_eq_false_iff_ne.2 c45) rfl rfl ?_
     refine TL.op1 (OpR.pickF rfl (beq_eq_false_iff_ne.2 c45) rfl) rfl ?_
     refine aA rfl rfl ?_
     refine TL.off rfl rfl rfl rfl rfl rfl rfl ?_
     refine TL.off rfl rfl rfl rfl rfl rfl rfl ?_
     refine TL.off rfl rfl rfl rfl rfl rfl rfl ?_
     refine TL.op1 (OpR.pickF rfl rfl rfl) rfl ?_
     refine aA rfl rfl ?_
     refine TL.off rfl rfl rfl rfl rfl rfl rfl ?_
     refine TL.off rfl rfl rfl rfl rfl rfl rfl ?_
     refine TL.op1 (OpR.pickF rfl rfl rfl) rfl ?_
     refine aA rfl rfl ?_
     refine TL.nil ?_
     obtain rfl := osi ht33
     exact ⟨_, gP [0] [] rfl rfl rfl, rfl⟩
   refine TL.on rfl rfl rfl rfl (beq_iff_eq.2 c45) ?_
   refine aA rfl rfl ?_
   refine TL.on rfl rfl rfl rfl (beq_iff_eq.2 c45) ?_
   refine aA rfl rfl ?_
   refine TL.op1 (OpR.pickT rfl (beq_iff_eq.2 c45) rfl) rfl ?_
   refine aA rfl rfl ?_
   rcases ite_some ht33 with ⟨c46, ht33⟩ | ⟨c46, ht33⟩
   rotate_left
   · refine TL.off rfl rfl rfl rfl (beq_eq_false_iff_ne.2 c46) rfl rfl ?_
     refine TL.off rfl rfl rfl rfl (beq_eq_false_iff_ne.2 c46) rfl rfl ?_
     refine TL.off rfl rfl rfl rfl (beq_eq_false_iff_ne.2 c46) rfl rfl ?_
     refine TL.op1 (OpR.pickF rfl (beq_eq_false_iff_ne.2 c46) rfl) rfl ?_
     refine aA rfl rfl ?_
     refine TL.off rfl rfl rfl rfl rfl rfl rfl ?_
     refine TL.off rfl rfl rfl rfl rfl rfl rfl ?_
     refine TL.op1 (OpR.pickF rfl rfl rfl) rfl ?_
     refine aA rfl rfl ?_
     refine TL.nil ?_
     obtain rfl := osi ht33
     exact ⟨_, gP [0] [] rfl rfl rfl, rfl⟩
   refine TL.on rfl rfl rfl rfl (beq_iff_eq.2 c46) ?_
   refine aA rfl rfl ?_
   refine TL.on rfl rfl rfl rfl (beq_iff_eq.2 c46) ?_
   refine TL.op1 (OpR.toStr (bs := x32.1) rfl rfl rfl rfl rfl rfl rfl) rfl ?_
   refine TL.on rfl rfl rfl rfl (beq_iff_eq.2 c46) ?_
   refine TL.op1 (OpR.cast (OpR.pure rfl) (boolE (strEq _ _))) rfl ?_
   refine TL.op1 (OpR.pickT rfl (beq_iff_eq.2 c46) rfl) rfl ?_
   refine aA rfl rfl ?_
   rcases ite_some ht33 with ⟨c47, ht33⟩ | ⟨c47, ht33⟩
   rotate_left
   · refine TL.off rfl rfl rfl rfl (beq_eq_false_iff_ne.2 c47) rfl rfl ?_
     refine TL.off rfl rfl rfl rfl (beq_eq_false_iff_ne.2 c47) rfl rfl ?_
     refine TL.op1 (OpR.pickF rfl (beq_eq_false_iff_ne.2 c47) rfl) rfl ?_
     refine aA rfl rfl ?_
     refine TL.nil ?_
     obtain rfl := osi ht33
     exact ⟨_, gP [0] [] rfl rfl rfl, rfl⟩
   refine TL.on rfl rfl rfl rfl (beq_iff_eq.2 c47) ?_
   refine aA rfl rfl ?_
   refine TL.on rfl rfl rfl rfl (beq_iff_eq.2 c47) ?_
   refine aA rfl rfl ?_
   refine TL.op1 (OpR.pickT rfl (beq_iff_eq.2 c47) rfl) rfl ?_
   refine aA rfl rfl ?_
   refine TL.nil ?_
   obtain rfl := osi ht33
   exact ⟨_, gP [0] [] rfl rfl rfl, rfl⟩
 dsimp only at h0
 refine TL.op (OpR.call [] fn63 (grid_Load_cx1 hx2) rfl rfl rfl (fun _ => rfl)) rfl (fun w3 => ?_)
 iterate 4 refine aA rfl rfl ?_
 refine TL.op (OpR.alloc rfl rfl (fun _ => rfl)) rfl (fun p4 => ?_)
 refine TL.op0 (OpR.store 3 rfl rfl rfl rfl rfl rfl rfl rfl) ?_
 iterate 2 refine aA rfl rfl ?_
 refine aN rfl ?_
 refine aS ?_
 refine TL.op1 (OpR.loadPtr 3 rfl rfl rfl rfl) rfl ?_
 refine aA rfl rfl ?_
 refine TL.op (OpR.litRow rfl rfl rfl rfl rfl rfl rfl rfl (fun _ => rfl)) rfl (fun v5 => ?_)
 refine TL.op1 (OpR.markRow 4 rfl rfl rfl rfl rfl rfl rfl rfl) rfl ?_
 obtain ⟨x6, hx6, h0⟩ := bS h0
 refine TL.op1 (OpR.call [1, 2] fn57 (find_Next_c hx6) rfl rfl rfl (fun _ => rfl)) rfl ?_
 iterate 7 refine aA rfl rfl ?_
 refine aN rfl ?_
 refine aS ?_
 refine TL.op (OpR.litRow rfl rfl rfl rfl rfl rfl rfl rfl (fun _ => rfl)) rfl (fun v7 => ?_)
 refine TL.op1 (OpR.markRow 5 rfl rfl rfl rfl rfl rfl rfl rfl) rfl ?_
 refine TL.op (OpR.litRow rfl rfl rfl rfl rfl rfl rfl rfl (fun _ => rfl)) rfl (fun v8 => ?_)
 refine TL.op1 (OpR.markRow 6 rfl rfl rfl rfl rfl rfl rfl rfl) rfl ?_
 refine TL.op (OpR.litRow rfl rfl rfl rfl rfl rfl rfl rfl (fun _ => rfl)) rfl (fun v9 => ?_)
 refine TL.op1 (OpR.markRow 7 rfl rfl rfl rfl rfl rfl rfl rfl) rfl ?_
 obtain ⟨x10, hx10, h0⟩ := bS h0
 refine TL.op1 (OpR.call0 fn12 (find_Replace_c hx10) rfl) rfl ?_
 iterate 5 refine aA rfl rfl ?_
 refine aN rfl ?_
 refine T.seq ?_
 obtain ⟨t11, ht11, h0⟩ := bS h0
 refine T.cutC (fun S' => S' = ⟨[(0, (dT t11))], [], 71⟩) (fun _ h => h) ?_ ?_
 rotate_left
 · rintro _ rfl
   show T X _ _ _
   refine T.ret ?_
   obtain rfl := osi h0
   exact rO [] [0] rfl undef (cT rfl ResL.nil) rfl rfl rfl rfl
 refine T.region ?_
 refine TL.op (OpR.litRow rfl rfl rfl rfl rfl rfl rfl rfl (fun _ => rfl)) rfl (fun v12 => ?_)
 refine TL.op1 (OpR.markRow 8 rfl rfl rfl rfl rfl rfl rfl rfl) rfl ?_
 refine TL.op (OpR.litRow rfl rfl rfl rfl rfl rfl rfl rfl (fun _ => rfl)) rfl (fun v13 => ?_)
 refine TL.op1 (OpR.markRow 9 rfl rfl rfl rfl rfl rfl rfl rfl) rfl ?_
 obtain ⟨x14, hx14, ht11⟩ := bS ht11
 refine TL.op1 (OpR.call0 fn16 (find_Every_c hx14) rfl) rfl ?_
 refine TL.op1 (OpR.lit rfl rfl rfl rfl rfl rfl rfl) rfl ?_
 obtain ⟨x15, hx15, ht11⟩ := bS ht11
 refine TL.op1 (OpR.call0 fn15 (ref09_Same_c hx15) rfl) rfl ?_
 refine aA rfl rfl ?_
 rcases ite_some ht11 with ⟨c16, ht11⟩ | ⟨c16, ht11⟩
 rotate_left
 · refine TL.off rfl rfl rfl rfl (eq_false_of_ne_true c16) rfl rfl ?_
   refine TL.off rfl rfl rfl rfl (eq_false_of_ne_true c16) rfl rfl ?_
   refine TL.off rfl rfl rfl rfl (eq_false_of_ne_true c16) rfl rfl ?_
   refine TL.off rfl rfl rfl rfl (eq_false_of_ne_true c16) rfl rfl ?_
   refine TL.off rfl rfl rfl rfl (eq_false_of_ne_true c16) rfl rfl ?_
   refine TL.off rfl rfl rfl rfl (eq_false_of_ne_true c16) rfl rfl ?_
   refine TL.off rfl rfl rfl rfl (eq_false_of_ne_true c16) rfl rfl ?_
   refine TL.op1 (OpR.pickF rfl (eq_false_of_ne_true c16) rfl) rfl ?_
   refine aA rfl rfl ?_
   refine TL.off rfl rfl rfl rfl rfl rfl rfl ?_
   refine TL.op1 (OpR.pickF rfl rfl rfl) rfl ?_
   refine aA rfl rfl ?_
   refine TL.off rfl rfl rfl rfl rfl rfl rfl ?_
   refine TL.off rfl rfl rfl rfl rfl rfl rfl ?_
   refine TL.op1 (OpR.pickF rfl rfl rfl) rfl ?_
   refine aA rfl rfl ?_
   refine TL.off rfl rfl rfl rfl rfl rfl rfl ?_
   refine TL.off rfl rfl rfl rfl rfl rfl rfl ?_
   refine TL.op1 (OpR.pickF rfl rfl rfl) rfl ?_
   refine aA rfl rfl ?_
   refine TL.off rfl rfl rfl rfl rfl rfl rfl ?_
   refine TL.off rfl rfl rfl rfl rfl rfl rfl ?_
   refine TL.off rfl rfl rfl rfl rfl rfl rfl ?_
   refine TL.op1 (OpR.pickF rfl rfl rfl) rfl ?_
   refine aA rfl rfl ?_
   refine TL.off rfl rfl rfl rfl rfl rfl rfl ?_
   refine TL.off rfl rfl rfl rfl rfl rfl rfl ?_
   refine TL.op1 (OpR.pickF rfl rfl rfl) rfl ?_
   refine aA rfl rfl ?_
   refine TL.nil ?_
   obtain rfl := osi ht11
   exact ⟨_, gP [0] [] rfl rfl rfl, rfl⟩
 refine TL.on rfl rfl rfl rfl (c16) ?_
 refine TL.op (OpR.litRow rfl rfl rfl rfl rfl rfl rfl rfl (fun _ => rfl)) rfl (fun v17 => ?_)
 refine TL.on rfl rfl rfl rfl (c16) ?_
 refine TL.op1 (OpR.markRow 10 rfl rfl rfl rfl rfl rfl rfl rfl) rfl ?_
 refine TL.on rfl rfl rfl rfl (c16) ?_
 refine TL.op (OpR.litRow rfl rfl rfl rfl rfl rfl rfl rfl (fun _ => rfl)) rfl (fun v18 => ?_)
 refine TL.on rfl rfl rfl rfl (c16) ?_
 refine TL.op1 (OpR.markRow 11 rfl rfl rfl rfl rfl rfl rfl rfl) rfl ?_
 refine TL.on rfl rfl rfl rfl (c16) ?_
 obtain ⟨x19, hx19, ht11⟩ := bS ht11
 refine TL.op1 (OpR.call0 fn18 (find_Apart_c hx19) rfl) rfl ?_
 refine TL.on rfl rfl rfl rfl (c16) ?_
 refine TL.op1 (OpR.lit rfl rfl rfl rfl rfl rfl rfl) rfl ?_
 refine TL.on rfl rfl rfl rfl (c16) ?_
 obtain ⟨x20, hx20, ht11⟩ := bS ht11
 refine TL.op1 (OpR.call0 fn15 (ref09_Same_c hx20) rfl) rfl ?_
 refine TL.op1 (OpR.pickT rfl (c16) rfl) rfl ?_
 refine aA rfl rfl ?_
 rcases ite_some ht11 with ⟨c21, ht11⟩ | ⟨c21, ht11⟩
 rotate_left
 · refine TL.off rfl rfl rfl rfl (eq_false_of_ne_true c21) rfl rfl ?_
   refine TL.op1 (OpR.pickF rfl (eq_false_of_ne_true c21) rfl) rfl ?_
   refine aA rfl rfl ?_
   refine TL.off rfl rfl rfl rfl rfl rfl rfl ?_
   refine TL.off rfl rfl rfl rfl rfl rfl rfl ?_
   refine TL.op1 (OpR.pickF rfl rfl rfl) rfl ?_
   refine aA rfl rfl ?_
   refine TL.off rfl rfl rfl rfl rfl rfl rfl ?_
   refine TL.off rfl rfl rfl rfl rfl rfl rfl ?_
   refine TL.op1 (OpR.pickF rfl rfl rfl) rfl ?_
   refine aA rfl rfl ?_
   refine TL.off rfl rfl rfl rfl rfl rfl rfl ?_
   refine TL.off rfl rfl rfl rfl rfl rfl rfl ?_
   refine TL.off rfl rfl rfl rfl rfl rfl rfl ?_
   refine TL.op1 (OpR.pickF rfl rfl rfl) rfl ?_
   refine aA rfl rfl ?_
   refine TL.off rfl rfl rfl rfl rfl rfl rfl ?_
   refine TL.off rfl rfl rfl rfl rfl rfl rfl ?_
   refine TL.op1 (OpR.pickF rfl rfl rfl) rfl ?_
   refine aA rfl rfl ?_
   refine TL.nil ?_
   obtain rfl := osi ht11
   exact ⟨_, gP [0] [] rfl rfl rfl, rfl⟩
 refine TL.on rfl rfl rfl rfl (c21) ?_
 refine aA rfl rfl ?_
 refine TL.op1 (OpR.pickT rfl (c21) rfl) rfl ?_
 refine aA rfl rfl ?_
 rcases ite_some ht11 with ⟨c22, ht11⟩ | ⟨c22, ht11⟩
 rotate_left
 · refine TL.off rfl rfl rfl rfl (eq_false_of_ne_true c22) rfl rfl ?_
   refine TL.off rfl rfl rfl rfl (eq_false_of_ne_true c22) rfl rfl ?_
   refine TL.op1 (OpR.pickF rfl (eq_false_of_ne_true c22) rfl) rfl ?_
   refine aA rfl rfl ?_
   refine TL.off rfl rfl rfl rfl rfl rfl rfl ?_
   refine TL.off rfl rfl rfl rfl rfl rfl rfl ?_
   refine TL.op1 (OpR.pickF rfl rfl rfl) rfl ?_
   refine aA rfl rfl ?_
   refine TL.off rfl rfl rfl rfl rfl rfl rfl ?_
   refine TL.off rfl rfl rfl rfl rfl rfl rfl ?_
   refine TL.off rfl rfl rfl rfl rfl rfl rfl ?_
   refine TL.op1 (OpR.pickF rfl rfl rfl) rfl ?_
   refine aA rfl rfl ?_
   refine TL.off rfl rfl rfl rfl rfl rfl rfl ?_
   refine TL.off rfl rfl rfl rfl rfl rfl rfl ?_
   refine TL.op1 (OpR.pickF rfl rfl rfl) rfl ?_
   refine aA rfl rfl ?_
   refine TL.nil ?_
   obtain rfl := osi ht11
   exact ⟨_, gP [0] [] rfl rfl rfl, rfl⟩
 refine TL.on rfl rfl rfl rfl (c22) ?_
 refine aA rfl rfl ?_
 refine TL.on rfl rfl rfl rfl (c22) ?_
 refine aA rfl rfl ?_
 refine TL.op1 (OpR.pickT rfl (c22) rfl) rfl ?_
 refine aA rfl rfl ?_
 rcases ite_some ht11 with ⟨c23, ht11⟩ | ⟨c23, ht11⟩
 rotate_left
 · refine TL.off rfl rfl rfl rfl (beq_eq_false_iff_ne.2 c23) rfl rfl ?_
   refine TL.off rfl rfl rfl rfl (beq_eq_false_iff_ne.2 c23) rfl rfl ?_
   refine TL.op1 (OpR.pickF rfl (beq_eq_false_iff_ne.2 c23) rfl) rfl ?_
   refine aA rfl rfl ?_
   refine TL.off rfl rfl rfl rfl rfl rfl rfl ?_
   refine TL.off rfl rfl rfl rfl rfl rfl rfl ?_
   refine TL.off rfl rfl rfl rfl rfl rfl rfl ?_
   refine TL.op1 (OpR.pickF rfl rfl rfl) rfl ?_
   refine aA rfl rfl ?_
   refine TL.off rfl rfl rfl rfl rfl rfl rfl ?_
   refine TL.off rfl rfl rfl rfl rfl rfl rfl ?_
   refine TL.op1 (OpR.pickF rfl rfl rfl) rfl ?_
   refine aA rfl rfl ?_
   refine TL.nil ?_
   obtain rfl := osi ht11
   exact ⟨_, gP [0] [] rfl rfl rfl, rfl⟩
 refine TL.on rfl rfl rfl rfl (beq_iff_eq.2 c23) ?_
 refine aA rfl rfl ?_
 refine TL.on rfl rfl rfl rfl (beq_iff_eq.2 c23) ?_
 refine aA rfl rfl ?_
 refine TL.op1 (OpR.pickT rfl (beq_iff_eq.2 c23) rfl) rfl ?_
 refine aA rfl rfl ?_
 rcases ite_some ht11 with ⟨c24, ht11⟩ | ⟨c24, ht11⟩
 rotate_left
 · refine TL.off rfl rfl rfl rfl (beq_eq_false_iff_ne.2 c24) rfl rfl ?_
   refine TL.off rfl rfl rfl rfl (beq_eq_false_iff_ne.2 c24) rfl rfl ?_
   refine TL.off rfl rfl rfl rfl (beq_eq_false_iff_ne.2 c24) rfl rfl ?_
   refine TL.op1 (OpR.pickF rfl (beq_eq_false_iff_ne.2 c24) rfl) rfl ?_
   refine aA rfl rfl ?_
   refine TL.off rfl rfl rfl rfl rfl rfl rfl ?_
   refine TL.off rfl rfl rfl rfl rfl rfl rfl ?_
   refine TL.op1 (OpR.pickF rfl rfl rfl) rfl ?_
   refine aA rfl rfl ?_
   refine TL.nil ?_
   obtain rfl := osi ht11
   exact ⟨_, gP [0] [] rfl rfl rfl, rfl⟩
 refine TL.on rfl rfl rfl rfl (beq_iff_eq.2 c24) ?_
 refine aA rfl rfl ?_
 refine TL.on rfl rfl rfl rfl (beq_iff_eq.2 c24) ?_
 refine TL.op1 (OpR.toStr (bs := x10.1) rfl rfl rfl rfl rfl rfl rfl) rfl ?_
 refine TL.on rfl rfl rfl rfl (beq_iff_eq.2 c24) ?_
 refine TL.op1 (OpR.cast (OpR.pure rfl) (boolE (strEq _ _))) rfl ?_
 refine TL.op1 (OpR.pickT rfl (beq_iff_eq.2 c24) rfl) rfl ?_
 refine aA rfl rfl ?_
 rcases ite_some ht11 with ⟨c25, ht11⟩ | ⟨c25, ht11⟩
 rotate_left
 · refine TL.off rfl rfl rfl rfl (beq_eq_false_iff_ne.2 c25) rfl rfl ?_
   refine TL.off rfl rfl rfl rfl (beq_eq_false_iff_ne.2 c25) rfl rfl ?_
   refine TL.op1 (OpR.pickF rfl (beq_eq_false_iff_ne.2 c25) rfl) rfl ?_
   refine aA rfl rfl ?_
   refine TL.nil ?_
   obtain rfl := osi ht11
   exact ⟨_, gP [0] [] rfl rfl rfl, rfl⟩
 refine TL.on rfl rfl rfl rfl (beq_iff_eq.2 c25) ?_
 refine aA rfl rfl ?_
 refine TL.on rfl rfl rfl rfl (beq_iff_eq.2 c25) ?_
 refine aA rfl rfl ?_
 refine TL.op1 (OpR.pickT rfl (beq_iff_eq.2 c25) rfl) rfl ?_
 refine aA rfl rfl ?_
 refine TL.nil ?_
 obtain rfl := osi ht11
 exact ⟨_, gP [0] [] rfl rfl rfl, rfl⟩
end Go.Proofs.Ytbcbggdgkdfciaa.S
