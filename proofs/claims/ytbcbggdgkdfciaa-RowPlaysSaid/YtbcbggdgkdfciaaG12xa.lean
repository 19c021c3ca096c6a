/- Printed by a program of this session's own (gen.py): Lean functions for Go functions, and the proofs that the Go code comes to their answers. -/
import Derived.Test.YtbcbggdgkdfciaaG7xa
import Derived.Test.YtbcbggdgkdfciaaG1xa
import Derived.Test.YtbcbggdgkdfciaaG11xa
import Derived.Test.YtbcbggdgkdfciaaG6xa
import Derived.Test.YtbcbggdgkdfciaaG1xb
set_option linter.unusedVariables false
set_option linter.unusedSimpArgs false
set_option maxRecDepth 20000
namespace Go.Proofs.Ytbcbggdgkdfciaa.S
open Go Go.Sm
attribute [local irreducible] T TL OpR CallT iter loop
noncomputable def ref08_Set (a0 : ref08_Row) (a1 : Int) (a2 : ref07_Cell) : Option (ref08_Row × Int) :=
  bnd (if a1 < 0 then
    some true
  else
    some (decide (a1 > 39)) : Option Bool) fun t2 =>
  if t2 = true then
    some ((⟨[], 0, false⟩ : ref08_Row), 5)
  else
    bnd (ref08_Pad a0 (w64 (a1 + 1))) fun x5 =>
    bnd (idx x5.2.2 a1) fun x8 =>
    some ((⟨(x5.2.2.set a1.toNat a2), x5.1, x5.2.1⟩ : ref08_Row), 0)
set_option maxHeartbeats 4000000 in
theorem ref08_Set_c {a0 : ref08_Row} {a1 : Int} {a2 : ref07_Cell} {res : ref08_Row × Int} (h0 : ref08_Set a0 a1 a2 = some res) : CallF X 95 [.agg [.sl 3 (List.map e_ref07_Cell a0.fCells), .val (.int .i64 a0.fEnd), .val (.bool a0.fHidden)], .val (.int .i64 a1), .agg [.val (.string (bs a2.fS)), .val (.string (bs a2.fRaw)), .val (.bool a2.fKept)]] [] (fun x => .tup [.agg [.sl 3 (List.map e_ref07_Cell res.1.fCells), .val (.int .i64 res.1.fEnd), .val (.bool res.1.fHidden)], .val (.int .i64 res.2)]) (fun x => []) := by
 unfold ref08_Set at h0
 refine CallF.mkG (X := X) Try.func95 rfl rfl Try.ntmps95 rfl rfl ?_
 refine T.seq ?_
 refine T.region ?_
 refine TL.op1 (OpR.boxImm rfl rfl) rfl ?_
 refine TL.op1 (OpR.boxImm rfl rfl) rfl ?_
 refine TL.op (OpR.alloc rfl rfl (fun _ => rfl)) rfl (fun p1 => ?_)
 refine TL.op1 (OpR.pure rfl) rfl ?_
 refine TL.nil ?_
 show T X _ _ _
 refine T.seq ?_
 refine T.seq ?_
 obtain ⟨t2, ht2, h0⟩ := bnd_some h0
 refine T.cutC (fun S' => S' = ⟨[(14, .val (.bool t2)), (7, .val (.int .i64 0)), (6, .val (.pointer (some ⟨(blk p1), 0, none⟩))), (5, .nod [.val (.string (bs a2.fS)), .val (.string (bs a2.fRaw)), .val (.bool a2.fKept)]), (3, .nod [.sl 3 (List.map e_ref07_Cell a0.fCells), .val (.int .i64 a0.fEnd), .val (.bool a0.fHidden)]), (1, .val (.int .i64 a1))], [.var (blk p1) [.val (.slice none 0 0), .val (.int .i64 0), .val (.bool false)] 57], 26⟩) (fun _ h => h) ?_ ?_
 · refine T.region ?_
   refine TL.op1 (OpR.pure rfl) rfl ?_
   refine TL.op1 (OpR.pure rfl) rfl ?_
   refine TL.op1 (OpR.pure rfl) rfl ?_
   rcases ite_some ht2 with ⟨c3, ht2⟩ | ⟨c3, ht2⟩
   · refine TL.off rfl rfl rfl rfl (decide_eq_true c3) rfl rfl ?_
     refine TL.off rfl rfl rfl rfl (decide_eq_true c3) rfl rfl ?_
     refine TL.op1 (OpR.pickT rfl (decide_eq_true c3) rfl) rfl ?_
     refine TL.nil ?_
     obtain rfl := Option.some.inj ht2
     exact ⟨_, Gst.only [1, 3, 5, 6, 7, 14] rfl, rfl⟩
   refine TL.on rfl rfl rfl rfl (decide_eq_false c3) ?_
   refine TL.op1 (OpR.pure rfl) rfl ?_
   refine TL.on rfl rfl rfl rfl (decide_eq_false c3) ?_
   refine TL.op1 (OpR.pure rfl) rfl ?_
   refine TL.op1 (OpR.pickF rfl (decide_eq_false c3) rfl) rfl ?_
   refine TL.nil ?_
   obtain rfl := Option.some.inj ht2
   exact ⟨_, Gst.only [1, 3, 5, 6, 7, 14] rfl, rfl⟩
 rintro _ rfl
 show T X _ _ _
 rcases ite_some h0 with ⟨c4, h0⟩ | ⟨c4, h0⟩
 · refine T.condT rfl (c4) ?_
   refine T.seq ?_
   refine T.region ?_
   refine TL.op1 (OpR.build rfl rfl rfl rfl rfl) rfl ?_
   refine TL.op0 (OpR.store 0 rfl rfl rfl rfl rfl rfl rfl rfl) ?_
   refine TL.op1 (OpR.pure rfl) rfl ?_
   refine TL.nil ?_
   show T X _ _ _
   refine T.ret ?_
   obtain rfl := Option.some.inj h0
   exact PostG.retP (ks := []) (Gst.trans (Gst.only [6, 7] rfl) (Gst.denil (ReS.cons Re.refl (ReS.cons Re.refl ReS.nil)) (ReO.var (ReL.cons (Re.base .nil) (ReL.cons Re.refl (ReL.cons Re.refl ReL.nil))) ReO.nil))) undef (ResL.cons (ResV.var 0 rfl rfl rfl rfl) (ResL.cons (ResV.tmp rfl) ResL.nil)) rfl rfl rfl rfl
 refine T.condF rfl (eq_false_of_ne_true c4) ?_
 refine T.skip ?_
 show T X _ _ _
 refine T.seq ?_
 refine T.region ?_
 refine TL.op1 (OpR.pure rfl) rfl ?_
 refine TL.op1 (OpR.pure rfl) rfl ?_
 refine TL.op1 (OpR.pure rfl) rfl ?_
 obtain ⟨x5, hx5, h0⟩ := bnd_some h0
 refine TL.op (OpR.call [] fn77 (ref08_Pad_c hx5) rfl rfl rfl (fun _ => rfl)) rfl (fun w6 => ?_)
 refine TL.op (OpR.alloc rfl rfl (fun _ => rfl)) rfl (fun p7 => ?_)
 refine TL.op0 (OpR.store 2 rfl rfl rfl rfl rfl rfl rfl rfl) ?_
 refine TL.nil ?_
 show T X _ _ _
 refine T.seq ?_
 refine T.region ?_
 refine TL.op1 (OpR.pure rfl) rfl ?_
 refine TL.op1 (OpR.loadPtr 2 rfl rfl rfl rfl) rfl ?_
 refine TL.op1 (OpR.pure rfl) rfl ?_
 refine TL.op1 (OpR.pure rfl) rfl ?_
 obtain ⟨x8, hx8, h0⟩ := bnd_some h0
 refine TL.op1 (OpR.rowIndexM e_ref07_Cell 1 hx8 rfl rfl rfl rfl rfl rfl rfl) rfl ?_
 refine TL.op0 (OpR.rowStore0M (j := a1) e_ref07_Cell a2 1 hx8 rfl rfl rfl rfl rfl rfl rfl rfl rfl) ?_
 refine TL.nil ?_
 show T X _ _ _
 refine T.seq ?_
 refine T.region ?_
 refine TL.op1 (OpR.loadPtr 2 rfl rfl rfl rfl) rfl ?_
 refine TL.op0 (OpR.store 0 rfl rfl rfl rfl rfl rfl rfl rfl) ?_
 refine TL.op1 (OpR.pure rfl) rfl ?_
 refine TL.nil ?_
 show T X _ _ _
 refine T.ret ?_
 obtain rfl := Option.some.inj h0
 exact PostG.retP (ks := []) (Gst.trans (Gst.only [6, 7] rfl) (Gst.trans (Gst.freezeRow 1 rfl rfl (ReS.cons Re.refl (ReS.cons Re.refl ReS.nil)) (ReO.var (ReL.cons (Re.base .all) (ReL.cons Re.refl (ReL.cons Re.refl ReL.nil))) (ReO.same (ReO.var (ReL.cons (Re.base .all) (ReL.cons Re.refl (ReL.cons Re.refl ReL.nil))) ReO.nil)))) (Gst.pick [0] rfl rfl))) undef (ResL.cons (ResV.var 0 rfl rfl rfl rfl) (ResL.cons (ResV.tmp rfl) ResL.nil)) rfl rfl rfl rfl
noncomputable def ref08_Insert.l1 (a0 : ref08_Row) (a1 : Int) (a2 : ref07_Cell) (s10 : Int × (List ref07_Cell)) : Option (Lp (Int × (List ref07_Cell)) (List ref07_Cell)) :=
  if s10.1 ≤ (a0.fCells.length : Int) then
    bnd (if s10.1 = a1 then
      bnd (app 40 s10.2 [a2]) fun x22 =>
      some x22
    else
      some s10.2 : Option (List ref07_Cell)) fun t19 =>
    bnd (if s10.1 < (a0.fCells.length : Int) then
      bnd (idx a0.fCells s10.1) fun x28 =>
      bnd (app 40 t19 [x28]) fun x29 =>
      some x29
    else
      some t19 : Option (List ref07_Cell)) fun t24 =>
    some (Lp.next (w64 (s10.1 + 1), t24))
  else
    some (Lp.done s10.2)
noncomputable def ref08_Insert (a0 : ref08_Row) (a1 : Int) (a2 : ref07_Cell) : Option (ref08_Row × Int) :=
  bnd (if a1 < 0 then
    some true
  else
    some (decide (a1 > (a0.fCells.length : Int))) : Option Bool) fun t2 =>
  if t2 = true then
    some ((⟨[], 0, false⟩ : ref08_Row), 5)
  else
    if (a0.fCells.length : Int) > 39 then
      some ((⟨[], 0, false⟩ : ref08_Row), 6)
    else
      bnd (loop (ref08_Insert.l1 a0 a1 a2) (0, []) : Option (List ref07_Cell)) fun t7 =>
      some ((⟨t7, a0.fEnd, a0.fHidden⟩ : ref08_Row), 0)
set_option maxHeartbeats 4000000 in
theorem ref08_Insert_c {a0 : ref08_Row} {a1 : Int} {a2 : ref07_Cell} {res : ref08_Row × Int} (h0 : ref08_Insert a0 a1 a2 = some res) : CallF X 96 [.agg [.sl 3 (List.map e_ref07_Cell a0.fCells), .val (.int .i64 a0.fEnd), .val (.bool a0.fHidden)], .val (.int .i64 a1), .agg [.val (.string (bs a2.fS)), .val (.string (bs a2.fRaw)), .val (.bool a2.fKept)]] [] (fun x => .tup [.agg [.sl 3 (List.map e_ref07_Cell res.1.fCells), .val (.int .i64 res.1.fEnd), .val (.bool res.1.fHidden)], .val (.int .i64 res.2)]) (fun x => []) := by
 unfold ref08_Insert at h0
 refine CallF.mkG (X := X) Try.func96 rfl rfl Try.ntmps96 rfl rfl ?_
 refine T.seq ?_
 refine T.region ?_
 refine TL.op1 (OpR.boxImm rfl rfl) rfl ?_
 refine TL.op1 (OpR.boxImm rfl rfl) rfl ?_
 refine TL.op (OpR.alloc rfl rfl (fun _ => rfl)) rfl (fun p1 => ?_)
 refine TL.op1 (OpR.pure rfl) rfl ?_
 refine TL.nil ?_
 show T X _ _ _
 refine T.seq ?_
 refine T.seq ?_
 obtain ⟨t2, ht2, h0⟩ := bnd_some h0
 refine T.cutC (fun S' => S' = ⟨[(18, .val (.bool t2)), (7, .val (.int .i64 0)), (6, .val (.pointer (some ⟨(blk p1), 0, none⟩))), (5, .nod [.val (.string (bs a2.fS)), .val (.string (bs a2.fRaw)), .val (.bool a2.fKept)]), (3, .nod [.sl 3 (List.map e_ref07_Cell a0.fCells), .val (.int .i64 a0.fEnd), .val (.bool a0.fHidden)]), (1, .val (.int .i64 a1))], [.var (blk p1) [.val (.slice none 0 0), .val (.int .i64 0), .val (.bool false)] 57], 62⟩) (fun _ h => h) ?_ ?_
 · refine T.region ?_
   refine TL.op1 (OpR.pure rfl) rfl ?_
   refine TL.op1 (OpR.pure rfl) rfl ?_
   refine TL.op1 (OpR.pure rfl) rfl ?_
   rcases ite_some ht2 with ⟨c3, ht2⟩ | ⟨c3, ht2⟩
   · refine TL.off rfl rfl rfl rfl (decide_eq_true c3) rfl rfl ?_
     refine TL.off rfl rfl rfl rfl (decide_eq_true c3) rfl rfl ?_
     refine TL.off rfl rfl rfl rfl (decide_eq_true c3) rfl rfl ?_
     refine TL.off rfl rfl rfl rfl (decide_eq_true c3) rfl rfl ?_
     refine TL.off rfl rfl rfl rfl (decide_eq_true c3) rfl rfl ?_
     refine TL.op1 (OpR.pickT rfl (decide_eq_true c3) rfl) rfl ?_
     refine TL.nil ?_
     obtain rfl := Option.some.inj ht2
     exact ⟨_, Gst.only [1, 3, 5, 6, 7, 18] rfl, rfl⟩
   refine TL.on rfl rfl rfl rfl (decide_eq_false c3) ?_
   refine TL.op1 (OpR.pure rfl) rfl ?_
   refine TL.on rfl rfl rfl rfl (decide_eq_false c3) ?_
   refine TL.op1 (OpR.pure rfl) rfl ?_
   refine TL.on rfl rfl rfl rfl (decide_eq_false c3) ?_
   refine TL.op1 (OpR.pure rfl) rfl ?_
   refine TL.on rfl rfl rfl rfl (decide_eq_false c3) ?_
   refine TL.op1 (OpR.cast (OpR.pure rfl) (intE (lenM _ _))) rfl ?_
   refine TL.on rfl rfl rfl rfl (decide_eq_false c3) ?_
   refine TL.op1 (OpR.pure rfl) rfl ?_
   refine TL.op1 (OpR.pickF rfl (decide_eq_false c3) rfl) rfl ?_
   refine TL.nil ?_
   obtain rfl := Option.some.inj ht2
   exact ⟨_, Gst.only [1, 3, 5, 6, 7, 18] rfl, rfl⟩
 rintro _ rfl
 show T X _ _ _
 rcases ite_some h0 with ⟨c4, h0⟩ | ⟨c4, h0⟩
 · refine T.condT rfl (c4) ?_
   refine T.seq ?_
   refine T.region ?_
   refine TL.op1 (OpR.build rfl rfl rfl rfl rfl) rfl ?_
   refine TL.op0 (OpR.store 0 rfl rfl rfl rfl rfl rfl rfl rfl) ?_
   refine TL.op1 (OpR.pure rfl) rfl ?_
   refine TL.nil ?_
   show T X _ _ _
   refine T.ret ?_
   obtain rfl := Option.some.inj h0
   exact PostG.retP (ks := []) (Gst.trans (Gst.only [6, 7] rfl) (Gst.denil (ReS.cons Re.refl (ReS.cons Re.refl ReS.nil)) (ReO.var (ReL.cons (Re.base .nil) (ReL.cons Re.refl (ReL.cons Re.refl ReL.nil))) ReO.nil))) undef (ResL.cons (ResV.var 0 rfl rfl rfl rfl) (ResL.cons (ResV.tmp rfl) ResL.nil)) rfl rfl rfl rfl
 refine T.condF rfl (eq_false_of_ne_true c4) ?_
 refine T.skip ?_
 show T X _ _ _
 refine T.seq ?_
 refine T.seq ?_
 refine T.region ?_
 refine TL.op1 (OpR.pure rfl) rfl ?_
 refine TL.op1 (OpR.pure rfl) rfl ?_
 refine TL.op1 (OpR.cast (OpR.pure rfl) (intE (lenM _ _))) rfl ?_
 refine TL.op1 (OpR.pure rfl) rfl ?_
 refine TL.nil ?_
 show T X _ _ _
 rcases ite_some h0 with ⟨c5, h0⟩ | ⟨c5, h0⟩
 · refine T.condT rfl (decide_eq_true c5) ?_
   refine T.seq ?_
   refine T.region ?_
   refine TL.op1 (OpR.build rfl rfl rfl rfl rfl) rfl ?_
   refine TL.op0 (OpR.store 0 rfl rfl rfl rfl rfl rfl rfl rfl) ?_
   refine TL.op1 (OpR.pure rfl) rfl ?_
   refine TL.nil ?_
   show T X _ _ _
   refine T.ret ?_
   obtain rfl := Option.some.inj h0
   exact PostG.retP (ks := []) (Gst.trans (Gst.only [6, 7] rfl) (Gst.denil (ReS.cons Re.refl (ReS.cons Re.refl ReS.nil)) (ReO.var (ReL.cons (Re.base .nil) (ReL.cons Re.refl (ReL.cons Re.refl ReL.nil))) ReO.nil))) undef (ResL.cons (ResV.var 0 rfl rfl rfl rfl) (ResL.cons (ResV.tmp rfl) ResL.nil)) rfl rfl rfl rfl
 refine T.condF rfl (decide_eq_false c5) ?_
 refine T.skip ?_
 show T X _ _ _
 refine T.seq ?_
 refine T.region ?_
 refine TL.op1 (OpR.pure rfl) rfl ?_
 refine TL.op1 (OpR.pure rfl) rfl ?_
 refine TL.op1 (OpR.pure rfl) rfl ?_
 refine TL.op1 (OpR.pure rfl) rfl ?_
 refine TL.op1 (OpR.build rfl rfl rfl rfl rfl) rfl ?_
 refine TL.op (OpR.alloc rfl rfl (fun _ => rfl)) rfl (fun p6 => ?_)
 refine TL.op0 (OpR.store 1 rfl rfl rfl rfl rfl rfl rfl rfl) ?_
 refine TL.nil ?_
 show T X _ _ _
 refine T.seq ?_
 refine T.seq ?_
 refine T.region ?_
 refine TL.op1 (OpR.pure rfl) rfl ?_
 refine TL.nil ?_
 show T X _ _ _
 obtain ⟨t7, ht7, h0⟩ := bnd_some h0
 refine T.cutC (fun S' => ∃ y8 : Value, S' = ⟨[(8, .val (.pointer (some ⟨(blk p6), 0, none⟩))), (7, .val (.int .i64 0)), (6, .val (.pointer (some ⟨(blk p1), 0, none⟩)))], [.var (blk p1) [.val (.slice none 0 0), .val (.int .i64 0), .val (.bool false)] 57, .var (blk p6) [.val y8, .val (.int .i64 a0.fEnd), .val (.bool a0.fHidden)] 57, .row y8 (List.map e_ref07_Cell t7) 3 112], 62⟩) (fun _ h => h) ?_ ?_
 rotate_left
 · rintro _ ⟨y8, rfl⟩
   show T X _ _ _
   refine T.seq ?_
   refine T.region ?_
   refine TL.op1 (OpR.loadPtr 1 rfl rfl rfl rfl) rfl ?_
   refine TL.op0 (OpR.store 0 rfl rfl rfl rfl rfl rfl rfl rfl) ?_
   refine TL.op1 (OpR.pure rfl) rfl ?_
   refine TL.nil ?_
   show T X _ _ _
   refine T.ret ?_
   obtain rfl := Option.some.inj h0
   exact PostG.retP (ks := []) (Gst.trans (Gst.only [6, 7] rfl) (Gst.trans (Gst.freezeRow 2 rfl rfl (ReS.cons Re.refl (ReS.cons Re.refl ReS.nil)) (ReO.var (ReL.cons (Re.base .all) (ReL.cons Re.refl (ReL.cons Re.refl ReL.nil))) (ReO.var (ReL.cons (Re.base .all) (ReL.cons Re.refl (ReL.cons Re.refl ReL.nil))) (ReO.same ReO.nil)))) (Gst.pick [0] rfl rfl))) undef (ResL.cons (ResV.var 0 rfl rfl rfl rfl) (ResL.cons (ResV.tmp rfl) ResL.nil)) rfl rfl rfl rfl
 refine T.block ?_
 obtain ⟨n11, n16⟩ := loop_some ht7
 refine T.loop (fun n S' => ∃ S'', Gst S' S'' ∧ ∃ y9 : Value, ∃ s10 : Int × (List ref07_Cell), S'' = ⟨[(9, .val (.int .i64 s10.1)), (8, .val (.pointer (some ⟨(blk p6), 0, none⟩))), (7, .val (.int .i64 0)), (6, .val (.pointer (some ⟨(blk p1), 0, none⟩))), (5, .nod [.val (.string (bs a2.fS)), .val (.string (bs a2.fRaw)), .val (.bool a2.fKept)]), (3, .nod [.sl 3 (List.map e_ref07_Cell a0.fCells), .val (.int .i64 a0.fEnd), .val (.bool a0.fHidden)]), (1, .val (.int .i64 a1))], [.var (blk p1) [.val (.slice none 0 0), .val (.int .i64 0), .val (.bool false)] 57, .var (blk p6) [.val y9, .val (.int .i64 a0.fEnd), .val (.bool a0.fHidden)] 57, .row y9 (List.map e_ref07_Cell s10.2) 3 112], 62⟩ ∧ iter (ref08_Insert.l1 a0 a1 a2) n s10 = some t7) n11 ?_ ?_
 · exact ⟨_, Gst.trans (Gst.only [1, 3, 5, 6, 7, 8, 9] rfl) (Gst.nilRow (ow := [.var (blk p1) [.val (.slice none 0 0), .val (.int .i64 0), .val (.bool false)] 57, .var (blk p6) [.val (.slice none 0 0), .val (.int .i64 a0.fEnd), .val (.bool a0.fHidden)] 57]) 3 112 rfl), (.slice none 0 0), (0, []), rfl, n16⟩
 rintro n11 _ ⟨_, g, y9, s10, rfl, i15⟩
 refine T.ghost g ?_
 obtain ⟨m12, q13, rfl, q14, i15⟩ := iter_succ i15
 unfold ref08_Insert.l1 at q14
 refine T.seq ?_
 refine T.seq ?_
 refine T.region ?_
 refine TL.op1 (OpR.pure rfl) rfl ?_
 refine TL.op1 (OpR.pure rfl) rfl ?_
 refine TL.op1 (OpR.pure rfl) rfl ?_
 refine TL.op1 (OpR.cast (OpR.pure rfl) (intE (lenM _ _))) rfl ?_
 refine TL.op1 (OpR.pure rfl) rfl ?_
 refine TL.nil ?_
 show T X _ _ _
 rcases ite_some q14 with ⟨c18, q14⟩ | ⟨c18, q14⟩
 rotate_left
 · refine T.condF rfl (decide_eq_false c18) ?_
   refine T.exit ?_
   obtain rfl := Option.some.inj q14
   obtain rfl : _ = _ := i15
   exact ⟨_, Gst.only [6, 7, 8] rfl, y9, rfl⟩
 refine T.condT rfl (decide_eq_true c18) ?_
 refine T.skip ?_
 show T X _ _ _
 refine T.seq ?_
 refine T.block ?_
 refine T.seq ?_
 refine T.seq ?_
 refine T.region ?_
 refine TL.op1 (OpR.pure rfl) rfl ?_
 refine TL.op1 (OpR.pure rfl) rfl ?_
 refine TL.op1 (OpR.pure rfl) rfl ?_
 refine TL.nil ?_
 show T X _ _ _
 obtain ⟨t19, ht19, q14⟩ := bnd_some q14
 refine T.cutC (fun S' => ∃ y20 : Value, S' = ⟨[(9, .val (.int .i64 s10.1)), (8, .val (.pointer (some ⟨(blk p6), 0, none⟩))), (7, .val (.int .i64 0)), (6, .val (.pointer (some ⟨(blk p1), 0, none⟩))), (5, .nod [.val (.string (bs a2.fS)), .val (.string (bs a2.fRaw)), .val (.bool a2.fKept)]), (3, .nod [.sl 3 (List.map e_ref07_Cell a0.fCells), .val (.int .i64 a0.fEnd), .val (.bool a0.fHidden)]), (1, .val (.int .i64 a1))], [.var (blk p1) [.val (.slice none 0 0), .val (.int .i64 0), .val (.bool false)] 57, .var (blk p6) [.val y20, .val (.int .i64 a0.fEnd), .val (.bool a0.fHidden)] 57, .row y20 (List.map e_ref07_Cell t19) 3 112], 62⟩) (fun _ h => h) ?_ ?_
 · rcases ite_some ht19 with ⟨c21, ht19⟩ | ⟨c21, ht19⟩
   rotate_left
   · refine T.condF rfl (beq_eq_false_iff_ne.2 c21) ?_
     refine T.skip ?_
     obtain rfl := Option.some.inj ht19
     exact ⟨_, Gst.only [1, 3, 5, 6, 7, 8, 9] rfl, y9, rfl⟩
   refine T.condT rfl (beq_iff_eq.2 c21) ?_
   refine T.region ?_
   refine TL.op1 (OpR.pure rfl) rfl ?_
   refine TL.op1 (OpR.loadPtr 1 rfl rfl rfl rfl) rfl ?_
   refine TL.op1 (OpR.pure rfl) rfl ?_
   refine TL.op1 (OpR.lit rfl rfl rfl rfl rfl rfl rfl) rfl ?_
   obtain ⟨x22, hx22, ht19⟩ := bnd_some ht19
   refine TL.op (OpR.appendM (m := [a2]) e_ref07_Cell 2 hx22 rfl rfl rfl rfl rfl rfl rfl rfl rfl (fun _ => rfl)) rfl (fun v23 => ?_)
   refine TL.op1 (OpR.pure rfl) rfl ?_
   refine TL.op0 (OpR.store 1 rfl rfl rfl rfl rfl rfl rfl rfl) ?_
   refine TL.nil ?_
   obtain rfl := Option.some.inj ht19
   exact ⟨_, Gst.only [1, 3, 5, 6, 7, 8, 9] rfl, v23, rfl⟩
 rintro _ ⟨y20, rfl⟩
 show T X _ _ _
 refine T.seq ?_
 refine T.region ?_
 refine TL.op1 (OpR.pure rfl) rfl ?_
 refine TL.op1 (OpR.pure rfl) rfl ?_
 refine TL.op1 (OpR.pure rfl) rfl ?_
 refine TL.op1 (OpR.cast (OpR.pure rfl) (intE (lenM _ _))) rfl ?_
 refine TL.op1 (OpR.pure rfl) rfl ?_
 refine TL.nil ?_
 show T X _ _ _
 obtain ⟨t24, ht24, q14⟩ := bnd_some q14
 refine T.cutC (fun S' => ∃ y25 : Value, S' = ⟨[(9, .val (.int .i64 s10.1)), (8, .val (.pointer (some ⟨(blk p6), 0, none⟩))), (7, .val (.int .i64 0)), (6, .val (.pointer (some ⟨(blk p1), 0, none⟩))), (5, .nod [.val (.string (bs a2.fS)), .val (.string (bs a2.fRaw)), .val (.bool a2.fKept)]), (3, .nod [.sl 3 (List.map e_ref07_Cell a0.fCells), .val (.int .i64 a0.fEnd), .val (.bool a0.fHidden)]), (1, .val (.int .i64 a1))], [.var (blk p1) [.val (.slice none 0 0), .val (.int .i64 0), .val (.bool false)] 57, .var (blk p6) [.val y25, .val (.int .i64 a0.fEnd), .val (.bool a0.fHidden)] 57, .row y25 (List.map e_ref07_Cell t24) 3 112], 62⟩) (fun _ h => h) ?_ ?_
 rotate_left
 · rintro _ ⟨y25, rfl⟩
   show T X _ _ _
   refine T.region ?_
   refine TL.op1 (OpR.pure rfl) rfl ?_
   refine TL.op1 (OpR.pure rfl) rfl ?_
   refine TL.op1 (OpR.pure rfl) rfl ?_
   refine TL.nil ?_
   obtain rfl := Option.some.inj q14
   exact ⟨m12, Nat.lt_succ_self _, _, Gst.only [1, 3, 5, 6, 7, 8, 9] rfl, y25, (w64 (s10.1 + 1), t24), rfl, i15⟩
 rcases ite_some ht24 with ⟨c26, ht24⟩ | ⟨c26, ht24⟩
 rotate_left
 · refine T.condF rfl (decide_eq_false c26) ?_
   refine T.skip ?_
   obtain rfl := Option.some.inj ht24
   exact ⟨_, Gst.only [1, 3, 5, 6, 7, 8, 9] rfl, y20, rfl⟩
 refine T.condT rfl (decide_eq_true c26) ?_
 obtain ⟨x28, hx28, ht24⟩ := bnd_some ht24
 obtain ⟨x29, hx29, ht24⟩ := bnd_some ht24
 refine T.drawS drawsX (fun env27 => [.val (.pointer (some ⟨(blk p6), 0, none⟩)), .val y20, .nod [.sl 3 (List.map e_ref07_Cell a0.fCells), .val (.int .i64 a0.fEnd), .val (.bool a0.fHidden)], .sl 3 (List.map e_ref07_Cell a0.fCells), .val (.int .i64 s10.1), .nod [.val (.string (bs x28.fS)), .val (.string (bs x28.fRaw)), .val (.bool x28.fKept)], .agg [.val (.string (bs x28.fS)), .val (.string (bs x28.fRaw)), .val (.bool x28.fKept)], .sl 3 (List.map e_ref07_Cell [x28]), .val (env27 8), .val (.pointer (some ⟨(blk p6), 0, none⟩)), .dead]) (fun D env27 => [.var (blk p1) [.val (.slice none 0 0), .val (.int .i64 0), .val (.bool false)] 57, (bif D 10 then .var (blk p6) [.val (env27 8), .val (.int .i64 a0.fEnd), .val (.bool a0.fHidden)] 57 else .var (blk p6) [.val y20, .val (.int .i64 a0.fEnd), .val (.bool a0.fHidden)] 57), (bif D 8 then .row (env27 8) (List.map e_ref07_Cell x29) 3 112 else .row y20 (List.map e_ref07_Cell t19) 3 112)]) [0, 1, 0, 4, 0, 28, 60, 124, 255, 511, 1023] [1, 3, 5, 6, 7, 8, 9, 46, 47, 48, 49, 50, 51, 52, 53, 54, 55, 56, 57, 58, 59, 60] (fun env27 => [.var (blk p1) [.val (.slice none 0 0), .val (.int .i64 0), .val (.bool false)] 57, .var (blk p6) [.val (env27 8), .val (.int .i64 a0.fEnd), .val (.bool a0.fHidden)] 57, .row (env27 8) (List.map e_ref07_Cell x29) 3 112]) (by decide +kernel) (by decide +kernel) (fun _ => rfl) (fun _ => rfl) ?_ (fun _ => rfl) (fun _ => rfl) ?_
 rotate_left
 · intro env27
   obtain rfl := Option.some.inj ht24
   exact ⟨_, Gst.only [1, 3, 5, 6, 7, 8, 9] rfl, (env27 8), rfl⟩
 refine oS (d := .val (.pointer (some ⟨(blk p6), 0, none⟩))) (fun _ => Want.plain rfl) (fun _ => rfl) (fun _ _ _ => rfl) (fun _ _ => OpR.pure rfl) (fun _ _ _ _ _ _ _ => rfl) ?_
 refine OpsS.cons' true ?_ (fun _ _ _ _ _ _ _ => rfl) ?_
 · intro D env27 hA
   have e8 : D 8 = false := hA.no 8 _ rfl rfl
   have e10 : D 10 = false := hA.no 10 _ rfl rfl
   exact OpS.yes (o0 := [.var (blk p1) [.val (.slice none 0 0), .val (.int .i64 0), .val (.bool false)] 57, .var (blk p6) [.val y20, .val (.int .i64 a0.fEnd), .val (.bool a0.fHidden)] 57, .row y20 (List.map e_ref07_Cell t19) 3 112]) (o1 := fun x => [.var (blk p1) [.val (.slice none 0 0), .val (.int .i64 0), .val (.bool false)] 57, .var (blk p6) [.val y20, .val (.int .i64 a0.fEnd), .val (.bool a0.fHidden)] 57, .row y20 (List.map e_ref07_Cell t19) 3 112]) (d := fun x => .val y20) (Want.plain rfl) (by first | rfl | simp only [e8, e10, cond_true, cond_false, List.cons_append, List.nil_append, List.append_nil]) (fun x => by first | rfl | simp only [ins_self, ins_ne D (show 1 ≠ 8 by decide), ins_ne D (show 1 ≠ 10 by decide), upd_self, upd_ne env27 x (show 1 ≠ 8 by decide), e8, e10, cond_true, cond_false, List.cons_append, List.nil_append, List.append_nil]) (fun x => rfl) (OpR.loadPtr 1 rfl rfl rfl rfl)
 refine oS (d := .nod [.sl 3 (List.map e_ref07_Cell a0.fCells), .val (.int .i64 a0.fEnd), .val (.bool a0.fHidden)]) (fun _ => Want.plain rfl) (fun _ => rfl) (fun _ _ _ => rfl) (fun _ _ => OpR.pure rfl) (fun _ _ _ _ _ _ _ => rfl) ?_
 refine oS (d := .sl 3 (List.map e_ref07_Cell a0.fCells)) (fun _ => Want.plain rfl) (fun _ => rfl) (fun _ _ _ => rfl) (fun _ _ => OpR.pure rfl) (fun _ _ _ _ _ _ _ => rfl) ?_
 refine oS (d := .val (.int .i64 s10.1)) (fun _ => Want.plain rfl) (fun _ => rfl) (fun _ _ _ => rfl) (fun _ _ => OpR.pure rfl) (fun _ _ _ _ _ _ _ => rfl) ?_
 refine oS (d := .nod [.val (.string (bs x28.fS)), .val (.string (bs x28.fRaw)), .val (.bool x28.fKept)]) (fun _ => Want.plain rfl) (fun _ => rfl) (fun _ _ _ => rfl) (fun _ _ => OpR.indexM e_ref07_Cell hx28 rfl rfl rfl rfl rfl) (fun _ _ _ _ _ _ _ => rfl) ?_
 refine oS (d := .agg [.val (.string (bs x28.fS)), .val (.string (bs x28.fRaw)), .val (.bool x28.fKept)]) (fun _ => Want.plain rfl) (fun _ => rfl) (fun _ _ _ => rfl) (fun _ _ => OpR.pure rfl) (fun _ _ _ _ _ _ _ => rfl) ?_
 refine oS (d := .sl 3 (List.map e_ref07_Cell [x28])) (fun _ => Want.plain rfl) (fun _ => rfl) (fun _ _ _ => rfl) (fun _ _ => OpR.lit rfl rfl rfl rfl rfl rfl rfl) (fun _ _ _ _ _ _ _ => rfl) ?_
 refine OpsS.cons' true ?_ (fun D hA env27 x j hj hD => match j, hj, hD with | 0, _, _ => rfl | 1, _, _ => rfl | 2, _, _ => rfl | 3, _, _ => rfl | 4, _, _ => rfl | 5, _, _ => rfl | 6, _, _ => rfl | 7, _, _ => rfl | 8, hj, _ => absurd rfl hj | 9, _, _ => rfl | 10, _, _ => rfl | _ + 11, _, _ => rfl) ?_
 · intro D env27 hA
   have e10 : D 10 = false := hA.no 10 _ rfl rfl
   exact OpS.yes (o0 := [.var (blk p1) [.val (.slice none 0 0), .val (.int .i64 0), .val (.bool false)] 57, .var (blk p6) [.val y20, .val (.int .i64 a0.fEnd), .val (.bool a0.fHidden)] 57, .row y20 (List.map e_ref07_Cell t19) 3 112]) (o1 := fun x => [.var (blk p1) [.val (.slice none 0 0), .val (.int .i64 0), .val (.bool false)] 57, .var (blk p6) [.val y20, .val (.int .i64 a0.fEnd), .val (.bool a0.fHidden)] 57, .row x (List.map e_ref07_Cell x29) 3 112]) (d := fun x => .val x) (Want.plain rfl) (by first | rfl | simp only [e10, hA.me, cond_true, cond_false, List.cons_append, List.nil_append, List.append_nil]) (fun x => by first | rfl | simp only [ins_self, ins_ne D (show 8 ≠ 10 by decide), upd_self, e10, hA.me, cond_true, cond_false, List.cons_append, List.nil_append, List.append_nil]) (fun x => rfl) (OpR.appendM (m := [x28]) e_ref07_Cell 2 hx29 rfl rfl rfl rfl rfl rfl rfl rfl rfl (fun _ => rfl))
 refine oS (d := .val (.pointer (some ⟨(blk p6), 0, none⟩))) (fun _ => Want.plain rfl) (fun _ => rfl) (fun _ _ _ => rfl) (fun _ _ => OpR.pure rfl) (fun _ _ _ _ _ _ _ => rfl) ?_
 refine OpsS.cons' true ?_ (fun _ _ _ _ _ _ _ => rfl) ?_
 · intro D env27 hA
   have e8 : D 8 = true := hA.yes 8 _ rfl rfl
   exact OpS.yes (o0 := [.var (blk p1) [.val (.slice none 0 0), .val (.int .i64 0), .val (.bool false)] 57, .var (blk p6) [.val y20, .val (.int .i64 a0.fEnd), .val (.bool a0.fHidden)] 57, .row (env27 8) (List.map e_ref07_Cell x29) 3 112]) (o1 := fun x => [.var (blk p1) [.val (.slice none 0 0), .val (.int .i64 0), .val (.bool false)] 57, .var (blk p6) [.val (env27 8), .val (.int .i64 a0.fEnd), .val (.bool a0.fHidden)] 57, .row (env27 8) (List.map e_ref07_Cell x29) 3 112]) (d := fun x => .dead) (Want.plain rfl) (by first | rfl | simp only [e8, hA.me, cond_true, cond_false, List.cons_append, List.nil_append, List.append_nil]) (fun x => by first | rfl | simp only [ins_self, ins_ne D (show 10 ≠ 8 by decide), upd_self, upd_ne env27 x (show 10 ≠ 8 by decide), e8, hA.me, cond_true, cond_false, List.cons_append, List.nil_append, List.append_nil]) (fun x => rfl) (OpR.store 1 rfl rfl rfl rfl rfl rfl rfl rfl)
 exact trivial
noncomputable def ref08_without.l1 (a0 : List ref07_Cell) (a1 : Int) (s4 : Int × (List ref07_Cell)) : Option (Lp (Int × (List ref07_Cell)) (List ref07_Cell)) :=
  if s4.1 < (a0.length : Int) then
    bnd (idx a0 s4.1) fun x13 =>
    bnd (if s4.1 = a1 then
      some s4.2
    else
      bnd (app 40 s4.2 [x13]) fun x18 =>
      some x18 : Option (List ref07_Cell)) fun t15 =>
    some (Lp.next (w64 (s4.1 + 1), t15))
  else
    some (Lp.done s4.2)
noncomputable def ref08_without (a0 : List ref07_Cell) (a1 : Int) : Option (List ref07_Cell) :=
  bnd (loop (ref08_without.l1 a0 a1) (0, []) : Option (List ref07_Cell)) fun t1 =>
  some t1
set_option maxHeartbeats 4000000 in
theorem ref08_without_c {a0 : List ref07_Cell} {a1 : Int} {res : (List ref07_Cell)} (h0 : ref08_without a0 a1 = some res) : CallF X 150 [.sl 3 (List.map e_ref07_Cell a0), .val (.int .i64 a1)] [] (fun x => .sl 3 (List.map e_ref07_Cell res)) (fun x => []) := by
 unfold ref08_without at h0
 refine CallF.mkG (X := X) Try.func150 rfl rfl Try.ntmps150 rfl rfl ?_
 refine T.seq ?_
 refine T.region ?_
 refine TL.op1 (OpR.pure rfl) rfl ?_
 refine TL.nil ?_
 show T X _ _ _
 refine T.seq ?_
 refine T.region ?_
 refine TL.op1 (OpR.pure rfl) rfl ?_
 refine TL.nil ?_
 show T X _ _ _
 refine T.seq ?_
 refine T.seq ?_
 refine T.region ?_
 refine TL.op1 (OpR.pure rfl) rfl ?_
 refine TL.op1 (OpR.cast (OpR.pure rfl) (intE (lenM _ _))) rfl ?_
 refine TL.op1 (OpR.pure rfl) rfl ?_
 refine TL.nil ?_
 show T X _ _ _
 obtain ⟨t1, ht1, h0⟩ := bnd_some h0
 refine T.cutC (fun S' => ∃ y2 : Value, S' = ⟨[(5, .val y2), (4, .val (.slice none 0 0))], [.row y2 (List.map e_ref07_Cell t1) 3 112], 24⟩) (fun _ h => h) ?_ ?_
 rotate_left
 · rintro _ ⟨y2, rfl⟩
   show T X _ _ _
   refine T.seq ?_
   refine T.region ?_
   refine TL.op1 (OpR.pure rfl) rfl ?_
   refine TL.op1 (OpR.pure rfl) rfl ?_
   refine TL.nil ?_
   show T X _ _ _
   refine T.ret ?_
   obtain rfl := Option.some.inj h0
   exact PostG.retP (ks := []) (Gst.trans (Gst.only [4] rfl) (Gst.trans (Gst.freezeRow 0 rfl rfl (ReS.cons (Re.base .all) ReS.nil) (ReO.same ReO.nil)) (Gst.pick [] rfl rfl))) undef (ResL.cons (ResV.tmp rfl) ResL.nil) rfl rfl rfl rfl
 refine T.block ?_
 obtain ⟨n5, n10⟩ := loop_some ht1
 refine T.loop (fun n S' => ∃ S'', Gst S' S'' ∧ ∃ y3 : Value, ∃ s4 : Int × (List ref07_Cell), S'' = ⟨[(10, .val (.int .i64 s4.1)), (9, .val (.int .i64 (a0.length : Int))), (8, .sl 3 (List.map e_ref07_Cell a0)), (5, .val y3), (4, .val (.slice none 0 0)), (1, .val (.int .i64 a1))], [.row y3 (List.map e_ref07_Cell s4.2) 3 112], 24⟩ ∧ iter (ref08_without.l1 a0 a1) n s4 = some t1) n5 ?_ ?_
 · exact ⟨_, Gst.trans (Gst.only [1, 4, 5, 8, 9, 10] rfl) (Gst.nilRow (ow := []) 3 112 rfl), (.slice none 0 0), (0, []), rfl, n10⟩
 rintro n5 _ ⟨_, g, y3, s4, rfl, i9⟩
 refine T.ghost g ?_
 obtain ⟨m6, q7, rfl, q8, i9⟩ := iter_succ i9
 unfold ref08_without.l1 at q8
 refine T.seq ?_
 refine T.region ?_
 refine TL.op1 (OpR.pure rfl) rfl ?_
 refine TL.nil ?_
 show T X _ _ _
 refine T.seq ?_
 rcases ite_some q8 with ⟨c12, q8⟩ | ⟨c12, q8⟩
 rotate_left
 · refine T.condF rfl (decide_eq_false c12) ?_
   refine T.exit ?_
   obtain rfl := Option.some.inj q8
   obtain rfl : _ = _ := i9
   exact ⟨_, Gst.only [4, 5] rfl, y3, rfl⟩
 refine T.condT rfl (decide_eq_true c12) ?_
 refine T.skip ?_
 show T X _ _ _
 refine T.seq ?_
 refine T.block ?_
 refine T.seq ?_
 refine T.region ?_
 refine TL.op1 (OpR.pure rfl) rfl ?_
 obtain ⟨x13, hx13, q8⟩ := bnd_some q8
 refine TL.op1 (OpR.indexM e_ref07_Cell hx13 rfl rfl rfl rfl rfl) rfl ?_
 refine TL.op1 (OpR.pure rfl) rfl ?_
 refine TL.op (OpR.alloc rfl rfl (fun _ => rfl)) rfl (fun p14 => ?_)
 refine TL.op1 (OpR.pure rfl) rfl ?_
 refine TL.op0 (OpR.store 1 rfl rfl rfl rfl rfl rfl rfl rfl) ?_
 refine TL.nil ?_
 show T X _ _ _
 refine T.seq ?_
 refine T.region ?_
 refine TL.op1 (OpR.pure rfl) rfl ?_
 refine TL.op1 (OpR.pure rfl) rfl ?_
 refine TL.op1 (OpR.pure rfl) rfl ?_
 refine TL.nil ?_
 show T X _ _ _
 obtain ⟨t15, ht15, q8⟩ := bnd_some q8
 refine T.cutC (fun S' => ∃ y16 : Value, S' = ⟨[(10, .val (.int .i64 s4.1)), (9, .val (.int .i64 (a0.length : Int))), (8, .sl 3 (List.map e_ref07_Cell a0)), (5, .val y16), (4, .val (.slice none 0 0)), (1, .val (.int .i64 a1))], [.row y16 (List.map e_ref07_Cell t15) 3 112], 24⟩) (fun _ h => h) ?_ ?_
 rotate_left
 · rintro _ ⟨y16, rfl⟩
   show T X _ _ _
   refine T.region ?_
   refine TL.op1 (OpR.pure rfl) rfl ?_
   refine TL.op1 (OpR.pure rfl) rfl ?_
   refine TL.nil ?_
   obtain rfl := Option.some.inj q8
   exact ⟨m6, Nat.lt_succ_self _, _, Gst.only [1, 4, 5, 8, 9, 10] rfl, y16, (w64 (s4.1 + 1), t15), rfl, i9⟩
 rcases ite_some ht15 with ⟨c17, ht15⟩ | ⟨c17, ht15⟩
 · refine T.condF rfl (not_t (beq_iff_eq.2 c17)) ?_
   refine T.skip ?_
   obtain rfl := Option.some.inj ht15
   exact ⟨_, Gst.trans (Gst.only [1, 4, 5, 8, 9, 10] rfl) (Gst.pick [0] rfl rfl), y3, rfl⟩
 refine T.condT rfl (not_f (beq_eq_false_iff_ne.2 c17)) ?_
 refine T.region ?_
 refine TL.op1 (OpR.pure rfl) rfl ?_
 refine TL.op1 (OpR.loadPtr 1 rfl rfl rfl rfl) rfl ?_
 refine TL.op1 (OpR.lit rfl rfl rfl rfl rfl rfl rfl) rfl ?_
 obtain ⟨x18, hx18, ht15⟩ := bnd_some ht15
 refine TL.op (OpR.appendM (m := [x13]) e_ref07_Cell 0 hx18 rfl rfl rfl rfl rfl rfl rfl rfl rfl (fun _ => rfl)) rfl (fun v19 => ?_)
 refine TL.op1 (OpR.pure rfl) rfl ?_
 refine TL.nil ?_
 obtain rfl := Option.some.inj ht15
 exact ⟨_, Gst.trans (Gst.only [1, 4, 5, 8, 9, 10] rfl) (Gst.pick [0] rfl rfl), v19, rfl⟩
noncomputable def ref08_Delete (a0 : ref08_Row) (a1 : Int) : Option (ref08_Row × Int) :=
  bnd (if a1 < 0 then
    some true
  else
    some (decide (a1 ≥ (a0.fCells.length : Int))) : Option Bool) fun t2 =>
  if t2 = true then
    some ((⟨[], 0, false⟩ : ref08_Row), 5)
  else
    if (a0.fCells.length : Int) = 1 then
      some ((⟨[], 0, false⟩ : ref08_Row), 9)
    else
      bnd (ref08_without a0.fCells a1) fun x7 =>
      some ((⟨x7, a0.fEnd, a0.fHidden⟩ : ref08_Row), 0)
set_option maxHeartbeats 4000000 in
theorem ref08_Delete_c {a0 : ref08_Row} {a1 : Int} {res : ref08_Row × Int} (h0 : ref08_Delete a0 a1 = some res) : CallF X 97 [.agg [.sl 3 (List.map e_ref07_Cell a0.fCells), .val (.int .i64 a0.fEnd), .val (.bool a0.fHidden)], .val (.int .i64 a1)] [] (fun x => .tup [.agg [.sl 3 (List.map e_ref07_Cell res.1.fCells), .val (.int .i64 res.1.fEnd), .val (.bool res.1.fHidden)], .val (.int .i64 res.2)]) (fun x => []) := by
 unfold ref08_Delete at h0
 refine CallF.mkG (X := X) Try.func97 rfl rfl Try.ntmps97 rfl rfl ?_
 refine T.seq ?_
 refine T.region ?_
 refine TL.op1 (OpR.boxImm rfl rfl) rfl ?_
 refine TL.op (OpR.alloc rfl rfl (fun _ => rfl)) rfl (fun p1 => ?_)
 refine TL.op1 (OpR.pure rfl) rfl ?_
 refine TL.nil ?_
 show T X _ _ _
 refine T.seq ?_
 refine T.seq ?_
 obtain ⟨t2, ht2, h0⟩ := bnd_some h0
 refine T.cutC (fun S' => S' = ⟨[(14, .val (.bool t2)), (5, .val (.int .i64 0)), (4, .val (.pointer (some ⟨(blk p1), 0, none⟩))), (2, .nod [.sl 3 (List.map e_ref07_Cell a0.fCells), .val (.int .i64 a0.fEnd), .val (.bool a0.fHidden)]), (1, .val (.int .i64 a1))], [.var (blk p1) [.val (.slice none 0 0), .val (.int .i64 0), .val (.bool false)] 57], 30⟩) (fun _ h => h) ?_ ?_
 · refine T.region ?_
   refine TL.op1 (OpR.pure rfl) rfl ?_
   refine TL.op1 (OpR.pure rfl) rfl ?_
   refine TL.op1 (OpR.pure rfl) rfl ?_
   rcases ite_some ht2 with ⟨c3, ht2⟩ | ⟨c3, ht2⟩
   · refine TL.off rfl rfl rfl rfl (decide_eq_true c3) rfl rfl ?_
     refine TL.off rfl rfl rfl rfl (decide_eq_true c3) rfl rfl ?_
     refine TL.off rfl rfl rfl rfl (decide_eq_true c3) rfl rfl ?_
     refine TL.off rfl rfl rfl rfl (decide_eq_true c3) rfl rfl ?_
     refine TL.off rfl rfl rfl rfl (decide_eq_true c3) rfl rfl ?_
     refine TL.op1 (OpR.pickT rfl (decide_eq_true c3) rfl) rfl ?_
     refine TL.nil ?_
     obtain rfl := Option.some.inj ht2
     exact ⟨_, Gst.only [1, 2, 4, 5, 14] rfl, rfl⟩
   refine TL.on rfl rfl rfl rfl (decide_eq_false c3) ?_
   refine TL.op1 (OpR.pure rfl) rfl ?_
   refine TL.on rfl rfl rfl rfl (decide_eq_false c3) ?_
   refine TL.op1 (OpR.pure rfl) rfl ?_
   refine TL.on rfl rfl rfl rfl (decide_eq_false c3) ?_
   refine TL.op1 (OpR.pure rfl) rfl ?_
   refine TL.on rfl rfl rfl rfl (decide_eq_false c3) ?_
   refine TL.op1 (OpR.cast (OpR.pure rfl) (intE (lenM _ _))) rfl ?_
   refine TL.on rfl rfl rfl rfl (decide_eq_false c3) ?_
   refine TL.op1 (OpR.pure rfl) rfl ?_
   refine TL.op1 (OpR.pickF rfl (decide_eq_false c3) rfl) rfl ?_
   refine TL.nil ?_
   obtain rfl := Option.some.inj ht2
   exact ⟨_, Gst.only [1, 2, 4, 5, 14] rfl, rfl⟩
 rintro _ rfl
 show T X _ _ _
 rcases ite_some h0 with ⟨c4, h0⟩ | ⟨c4, h0⟩
 · refine T.condT rfl (c4) ?_
   refine T.seq ?_
   refine T.region ?_
   refine TL.op1 (OpR.build rfl rfl rfl rfl rfl) rfl ?_
   refine TL.op0 (OpR.store 0 rfl rfl rfl rfl rfl rfl rfl rfl) ?_
   refine TL.op1 (OpR.pure rfl) rfl ?_
   refine TL.nil ?_
   show T X _ _ _
   refine T.ret ?_
   obtain rfl := Option.some.inj h0
   exact PostG.retP (ks := []) (Gst.trans (Gst.only [4, 5] rfl) (Gst.denil (ReS.cons Re.refl (ReS.cons Re.refl ReS.nil)) (ReO.var (ReL.cons (Re.base .nil) (ReL.cons Re.refl (ReL.cons Re.refl ReL.nil))) ReO.nil))) undef (ResL.cons (ResV.var 0 rfl rfl rfl rfl) (ResL.cons (ResV.tmp rfl) ResL.nil)) rfl rfl rfl rfl
 refine T.condF rfl (eq_false_of_ne_true c4) ?_
 refine T.skip ?_
 show T X _ _ _
 refine T.seq ?_
 refine T.seq ?_
 refine T.region ?_
 refine TL.op1 (OpR.pure rfl) rfl ?_
 refine TL.op1 (OpR.pure rfl) rfl ?_
 refine TL.op1 (OpR.cast (OpR.pure rfl) (intE (lenM _ _))) rfl ?_
 refine TL.op1 (OpR.pure rfl) rfl ?_
 refine TL.nil ?_
 show T X _ _ _
 rcases ite_some h0 with ⟨c5, h0⟩ | ⟨c5, h0⟩
 · refine T.condT rfl (beq_iff_eq.2 c5) ?_
   refine T.seq ?_
   refine T.region ?_
   refine TL.op1 (OpR.build rfl rfl rfl rfl rfl) rfl ?_
   refine TL.op0 (OpR.store 0 rfl rfl rfl rfl rfl rfl rfl rfl) ?_
   refine TL.op1 (OpR.pure rfl) rfl ?_
   refine TL.nil ?_
   show T X _ _ _
   refine T.ret ?_
   obtain rfl := Option.some.inj h0
   exact PostG.retP (ks := []) (Gst.trans (Gst.only [4, 5] rfl) (Gst.denil (ReS.cons Re.refl (ReS.cons Re.refl ReS.nil)) (ReO.var (ReL.cons (Re.base .nil) (ReL.cons Re.refl (ReL.cons Re.refl ReL.nil))) ReO.nil))) undef (ResL.cons (ResV.var 0 rfl rfl rfl rfl) (ResL.cons (ResV.tmp rfl) ResL.nil)) rfl rfl rfl rfl
 refine T.condF rfl (beq_eq_false_iff_ne.2 c5) ?_
 refine T.skip ?_
 show T X _ _ _
 refine T.seq ?_
 obtain ⟨x7, hx7, h0⟩ := bnd_some h0
 refine T.drawS drawsX (fun env6 => [.nod [.sl 3 (List.map e_ref07_Cell a0.fCells), .val (.int .i64 a0.fEnd), .val (.bool a0.fHidden)], .sl 3 (List.map e_ref07_Cell a0.fCells), .val (.int .i64 a1), .sl 3 (List.map e_ref07_Cell x7), .nod [.val (.int .i64 a0.fEnd), .val (.bool a0.fHidden)], .val (.int .i64 a0.fEnd), .nod [.val (.bool a0.fHidden)], .val (.bool a0.fHidden), .agg [.sl 3 (List.map e_ref07_Cell x7), .val (.int .i64 a0.fEnd), .val (.bool a0.fHidden)], .dead, .val (.int .i64 0)]) (fun D env6 => [(bif D 9 then .var (blk p1) [.sl 3 (List.map e_ref07_Cell x7), .val (.int .i64 a0.fEnd), .val (.bool a0.fHidden)] 57 else .var (blk p1) [.val (.slice none 0 0), .val (.int .i64 0), .val (.bool false)] 57)]) [0, 1, 0, 7, 0, 16, 0, 64, 255, 511, 1023] [1, 2, 4, 5, 14, 16, 17, 18, 19, 21, 22, 23, 24, 25, 26, 27, 28, 29] (fun env6 => [.var (blk p1) [.sl 3 (List.map e_ref07_Cell x7), .val (.int .i64 a0.fEnd), .val (.bool a0.fHidden)] 57]) (by decide +kernel) (by decide +kernel) (fun _ => rfl) (fun _ => rfl) ?_ (fun _ => rfl) (fun _ => rfl) ?_
 rotate_left
 · intro env6
   show T X _ _ _
   refine T.ret ?_
   obtain rfl := Option.some.inj h0
   exact PostG.retP (ks := []) (Gst.only [4, 5] rfl) undef (ResL.cons (ResV.var 0 rfl rfl rfl rfl) (ResL.cons (ResV.tmp rfl) ResL.nil)) rfl rfl rfl rfl
 refine oS (d := .nod [.sl 3 (List.map e_ref07_Cell a0.fCells), .val (.int .i64 a0.fEnd), .val (.bool a0.fHidden)]) (fun _ => Want.plain rfl) (fun _ => rfl) (fun _ _ _ => rfl) (fun _ _ => OpR.pure rfl) (fun _ _ _ _ _ _ _ => rfl) ?_
 refine oS (d := .sl 3 (List.map e_ref07_Cell a0.fCells)) (fun _ => Want.plain rfl) (fun _ => rfl) (fun _ _ _ => rfl) (fun _ _ => OpR.pure rfl) (fun _ _ _ _ _ _ _ => rfl) ?_
 refine oS (d := .val (.int .i64 a1)) (fun _ => Want.plain rfl) (fun _ => rfl) (fun _ _ _ => rfl) (fun _ _ => OpR.pure rfl) (fun _ _ _ _ _ _ _ => rfl) ?_
 refine oS (d := .sl 3 (List.map e_ref07_Cell x7)) (fun _ => Want.plain rfl) (fun _ => rfl) (fun _ _ _ => rfl) (fun _ _ => OpR.call0 fn150 (ref08_without_c hx7) rfl) (fun _ _ _ _ _ _ _ => rfl) ?_
 refine oS (d := .nod [.val (.int .i64 a0.fEnd), .val (.bool a0.fHidden)]) (fun _ => Want.plain rfl) (fun _ => rfl) (fun _ _ _ => rfl) (fun _ _ => OpR.pure rfl) (fun _ _ _ _ _ _ _ => rfl) ?_
 refine oS (d := .val (.int .i64 a0.fEnd)) (fun _ => Want.plain rfl) (fun _ => rfl) (fun _ _ _ => rfl) (fun _ _ => OpR.pure rfl) (fun _ _ _ _ _ _ _ => rfl) ?_
 refine oS (d := .nod [.val (.bool a0.fHidden)]) (fun _ => Want.plain rfl) (fun _ => rfl) (fun _ _ _ => rfl) (fun _ _ => OpR.pure rfl) (fun _ _ _ _ _ _ _ => rfl) ?_
 refine oS (d := .val (.bool a0.fHidden)) (fun _ => Want.plain rfl) (fun _ => rfl) (fun _ _ _ => rfl) (fun _ _ => OpR.pure rfl) (fun _ _ _ _ _ _ _ => rfl) ?_
 refine oS (d := .agg [.sl 3 (List.map e_ref07_Cell x7), .val (.int .i64 a0.fEnd), .val (.bool a0.fHidden)]) (fun _ => Want.plain rfl) (fun _ => rfl) (fun _ _ _ => rfl) (fun _ _ => OpR.build rfl rfl rfl rfl rfl) (fun _ _ _ _ _ _ _ => rfl) ?_
 refine OpsS.cons' true ?_ (fun _ _ _ _ _ _ _ => rfl) ?_
 · intro D env6 hA
   exact OpS.yes (o0 := [.var (blk p1) [.val (.slice none 0 0), .val (.int .i64 0), .val (.bool false)] 57]) (o1 := fun x => [.var (blk p1) [.sl 3 (List.map e_ref07_Cell x7), .val (.int .i64 a0.fEnd), .val (.bool a0.fHidden)] 57]) (d := fun x => .dead) (Want.plain rfl) (by first | rfl | simp only [hA.me, cond_true, cond_false, List.cons_append, List.nil_append, List.append_nil]) (fun x => by first | rfl | simp only [ins_self, upd_self, hA.me, cond_true, cond_false, List.cons_append, List.nil_append, List.append_nil]) (fun x => rfl) (OpR.store 0 rfl rfl rfl rfl rfl rfl rfl rfl)
 refine oS (d := .val (.int .i64 0)) (fun _ => Want.plain rfl) (fun _ => rfl) (fun _ _ _ => rfl) (fun _ _ => OpR.pure rfl) (fun _ _ _ _ _ _ _ => rfl) ?_
 exact trivial
noncomputable def ref08_Move (a0 : ref08_Row) (a1 : Int) (a2 : Int) : Option (ref08_Row × Int) :=
  bnd (if a1 < 0 then
    some true
  else
    if a1 ≥ (a0.fCells.length : Int) then
      some true
    else
      if a2 < 0 then
        some true
      else
        some (decide (a2 ≥ (a0.fCells.length : Int))) : Option Bool) fun t2 =>
  if t2 = true then
    some ((⟨[], 0, false⟩ : ref08_Row), 5)
  else
    bnd (ref08_without a0.fCells a1) fun x8 =>
    bnd (idx a0.fCells a1) fun x10 =>
    bnd (ref08_Insert (⟨x8, a0.fEnd, a0.fHidden⟩ : ref08_Row) a2 x10) fun x11 =>
    some (x11.1, x11.2)
set_option maxHeartbeats 4000000 in
theorem ref08_Move_c {a0 : ref08_Row} {a1 : Int} {a2 : Int} {res : ref08_Row × Int} (h0 : ref08_Move a0 a1 a2 = some res) : CallF X 98 [.agg [.sl 3 (List.map e_ref07_Cell a0.fCells), .val (.int .i64 a0.fEnd), .val (.bool a0.fHidden)], .val (.int .i64 a1), .val (.int .i64 a2)] [] (fun x => .tup [.agg [.sl 3 (List.map e_ref07_Cell res.1.fCells), .val (.int .i64 res.1.fEnd), .val (.bool res.1.fHidden)], .val (.int .i64 res.2)]) (fun x => []) := by
 unfold ref08_Move at h0
 refine CallF.mkG (X := X) Try.func98 rfl rfl Try.ntmps98 rfl rfl ?_
 refine T.seq ?_
 refine T.region ?_
 refine TL.op1 (OpR.boxImm rfl rfl) rfl ?_
 refine TL.op (OpR.alloc rfl rfl (fun _ => rfl)) rfl (fun p1 => ?_)
 refine TL.op1 (OpR.pure rfl) rfl ?_
 refine TL.nil ?_
 show T X _ _ _
 refine T.seq ?_
 refine T.region ?_
 refine TL.op1 (OpR.pure rfl) rfl ?_
 refine TL.op1 (OpR.pure rfl) rfl ?_
 refine TL.op1 (OpR.cast (OpR.pure rfl) (intE (lenM _ _))) rfl ?_
 refine TL.op1 (OpR.pure rfl) rfl ?_
 refine TL.nil ?_
 show T X _ _ _
 refine T.seq ?_
 refine T.seq ?_
 obtain ⟨t2, ht2, h0⟩ := bnd_some h0
 refine T.cutC (fun S' => S' = ⟨[(28, .val (.bool t2)), (7, .val (.int .i64 0)), (6, .val (.pointer (some ⟨(blk p1), 0, none⟩))), (3, .nod [.sl 3 (List.map e_ref07_Cell a0.fCells), .val (.int .i64 a0.fEnd), .val (.bool a0.fHidden)]), (2, .val (.int .i64 a2)), (1, .val (.int .i64 a1))], [.var (blk p1) [.val (.slice none 0 0), .val (.int .i64 0), .val (.bool false)] 57], 49⟩) (fun _ h => h) ?_ ?_
 · refine T.region ?_
   refine TL.op1 (OpR.pure rfl) rfl ?_
   refine TL.op1 (OpR.pure rfl) rfl ?_
   refine TL.op1 (OpR.pure rfl) rfl ?_
   rcases ite_some ht2 with ⟨c3, ht2⟩ | ⟨c3, ht2⟩
   · refine TL.off rfl rfl rfl rfl (decide_eq_true c3) rfl rfl ?_
     refine TL.off rfl rfl rfl rfl (decide_eq_true c3) rfl rfl ?_
     refine TL.off rfl rfl rfl rfl (decide_eq_true c3) rfl rfl ?_
     refine TL.op1 (OpR.pickT rfl (decide_eq_true c3) rfl) rfl ?_
     refine TL.op1 (OpR.pure rfl) rfl ?_
     refine TL.off rfl rfl rfl rfl rfl rfl rfl ?_
     refine TL.off rfl rfl rfl rfl rfl rfl rfl ?_
     refine TL.op1 (OpR.pickT rfl rfl rfl) rfl ?_
     refine TL.op1 (OpR.pure rfl) rfl ?_
     refine TL.off rfl rfl rfl rfl rfl rfl rfl ?_
     refine TL.off rfl rfl rfl rfl rfl rfl rfl ?_
     refine TL.off rfl rfl rfl rfl rfl rfl rfl ?_
     refine TL.op1 (OpR.pickT rfl rfl rfl) rfl ?_
     refine TL.nil ?_
     obtain rfl := Option.some.inj ht2
     exact ⟨_, Gst.only [1, 2, 3, 6, 7, 28] rfl, rfl⟩
   refine TL.on rfl rfl rfl rfl (decide_eq_false c3) ?_
   refine TL.op1 (OpR.pure rfl) rfl ?_
   refine TL.on rfl rfl rfl rfl (decide_eq_false c3) ?_
   refine TL.op1 (OpR.pure rfl) rfl ?_
   refine TL.on rfl rfl rfl rfl (decide_eq_false c3) ?_
   refine TL.op1 (OpR.pure rfl) rfl ?_
   refine TL.op1 (OpR.pickF rfl (decide_eq_false c3) rfl) rfl ?_
   refine TL.op1 (OpR.pure rfl) rfl ?_
   rcases ite_some ht2 with ⟨c4, ht2⟩ | ⟨c4, ht2⟩
   · refine TL.off rfl rfl rfl rfl (decide_eq_true c4) rfl rfl ?_
     refine TL.off rfl rfl rfl rfl (decide_eq_true c4) rfl rfl ?_
     refine TL.op1 (OpR.pickT rfl (decide_eq_true c4) rfl) rfl ?_
     refine TL.op1 (OpR.pure rfl) rfl ?_
     refine TL.off rfl rfl rfl rfl rfl rfl rfl ?_
     refine TL.off rfl rfl rfl rfl rfl rfl rfl ?_
     refine TL.off rfl rfl rfl rfl rfl rfl rfl ?_
     refine TL.op1 (OpR.pickT rfl rfl rfl) rfl ?_
     refine TL.nil ?_
     obtain rfl := Option.some.inj ht2
     exact ⟨_, Gst.only [1, 2, 3, 6, 7, 28] rfl, rfl⟩
   refine TL.on rfl rfl rfl rfl (decide_eq_false c4) ?_
   refine TL.op1 (OpR.pure rfl) rfl ?_
   refine TL.on rfl rfl rfl rfl (decide_eq_false c4) ?_
   refine TL.op1 (OpR.pure rfl) rfl ?_
   refine TL.op1 (OpR.pickF rfl (decide_eq_false c4) rfl) rfl ?_
   refine TL.op1 (OpR.pure rfl) rfl ?_
   rcases ite_some ht2 with ⟨c5, ht2⟩ | ⟨c5, ht2⟩
   · refine TL.off rfl rfl rfl rfl (decide_eq_true c5) rfl rfl ?_
     refine TL.off rfl rfl rfl rfl (decide_eq_true c5) rfl rfl ?_
     refine TL.off rfl rfl rfl rfl (decide_eq_true c5) rfl rfl ?_
     refine TL.op1 (OpR.pickT rfl (decide_eq_true c5) rfl) rfl ?_
     refine TL.nil ?_
     obtain rfl := Option.some.inj ht2
     exact ⟨_, Gst.only [1, 2, 3, 6, 7, 28] rfl, rfl⟩
   refine TL.on rfl rfl rfl rfl (decide_eq_false c5) ?_
   refine TL.op1 (OpR.pure rfl) rfl ?_
   refine TL.on rfl rfl rfl rfl (decide_eq_false c5) ?_
   refine TL.op1 (OpR.pure rfl) rfl ?_
   refine TL.on rfl rfl rfl rfl (decide_eq_false c5) ?_
   refine TL.op1 (OpR.pure rfl) rfl ?_
   refine TL.op1 (OpR.pickF rfl (decide_eq_false c5) rfl) rfl ?_
   refine TL.nil ?_
   obtain rfl := Option.some.inj ht2
   exact ⟨_, Gst.only [1, 2, 3, 6, 7, 28] rfl, rfl⟩
 rintro _ rfl
 show T X _ _ _
 rcases ite_some h0 with ⟨c6, h0⟩ | ⟨c6, h0⟩
 · refine T.condT rfl (c6) ?_
   refine T.seq ?_
   refine T.region ?_
   refine TL.op1 (OpR.build rfl rfl rfl rfl rfl) rfl ?_
   refine TL.op0 (OpR.store 0 rfl rfl rfl rfl rfl rfl rfl rfl) ?_
   refine TL.op1 (OpR.pure rfl) rfl ?_
   refine TL.nil ?_
   show T X _ _ _
   refine T.ret ?_
   obtain rfl := Option.some.inj h0
   exact PostG.retP (ks := []) (Gst.trans (Gst.only [6, 7] rfl) (Gst.denil (ReS.cons Re.refl (ReS.cons Re.refl ReS.nil)) (ReO.var (ReL.cons (Re.base .nil) (ReL.cons Re.refl (ReL.cons Re.refl ReL.nil))) ReO.nil))) undef (ResL.cons (ResV.var 0 rfl rfl rfl rfl) (ResL.cons (ResV.tmp rfl) ResL.nil)) rfl rfl rfl rfl
 refine T.condF rfl (eq_false_of_ne_true c6) ?_
 refine T.skip ?_
 show T X _ _ _
 refine T.seq ?_
 obtain ⟨x8, hx8, h0⟩ := bnd_some h0
 refine T.drawS drawsX (fun env7 => [.nod [.sl 3 (List.map e_ref07_Cell a0.fCells), .val (.int .i64 a0.fEnd), .val (.bool a0.fHidden)], .sl 3 (List.map e_ref07_Cell a0.fCells), .val (.int .i64 a1), .sl 3 (List.map e_ref07_Cell x8), .nod [.val (.int .i64 a0.fEnd), .val (.bool a0.fHidden)], .val (.int .i64 a0.fEnd), .nod [.val (.bool a0.fHidden)], .val (.bool a0.fHidden), .agg [.sl 3 (List.map e_ref07_Cell x8), .val (.int .i64 a0.fEnd), .val (.bool a0.fHidden)], .val (.pointer (some ⟨(blk (env7 9)), 0, none⟩)), .dead]) (fun D env7 => [.var (blk p1) [.val (.slice none 0 0), .val (.int .i64 0), .val (.bool false)] 57] ++ (bif D 9 then [(bif D 10 then .var (blk (env7 9)) [.sl 3 (List.map e_ref07_Cell x8), .val (.int .i64 a0.fEnd), .val (.bool a0.fHidden)] 57 else .var (blk (env7 9)) [.val (.slice none 0 0), .val (.int .i64 0), .val (.bool false)] 57)] else [])) [0, 1, 0, 7, 0, 16, 0, 64, 255, 0, 1023] [1, 2, 3, 6, 7, 9, 28, 30, 31, 32, 33, 34, 35, 36, 37, 38] (fun env7 => [.var (blk p1) [.val (.slice none 0 0), .val (.int .i64 0), .val (.bool false)] 57, .var (blk (env7 9)) [.sl 3 (List.map e_ref07_Cell x8), .val (.int .i64 a0.fEnd), .val (.bool a0.fHidden)] 57]) (by decide +kernel) (by decide +kernel) (fun _ => rfl) (fun _ => rfl) ?_ (fun _ => rfl) (fun _ => rfl) ?_
 · refine oS (d := .nod [.sl 3 (List.map e_ref07_Cell a0.fCells), .val (.int .i64 a0.fEnd), .val (.bool a0.fHidden)]) (fun _ => Want.plain rfl) (fun _ => rfl) (fun _ _ _ => rfl) (fun _ _ => OpR.pure rfl) (fun _ _ _ _ _ _ _ => rfl) ?_
   refine oS (d := .sl 3 (List.map e_ref07_Cell a0.fCells)) (fun _ => Want.plain rfl) (fun _ => rfl) (fun _ _ _ => rfl) (fun _ _ => OpR.pure rfl) (fun _ _ _ _ _ _ _ => rfl) ?_
   refine oS (d := .val (.int .i64 a1)) (fun _ => Want.plain rfl) (fun _ => rfl) (fun _ _ _ => rfl) (fun _ _ => OpR.pure rfl) (fun _ _ _ _ _ _ _ => rfl) ?_
   refine oS (d := .sl 3 (List.map e_ref07_Cell x8)) (fun _ => Want.plain rfl) (fun _ => rfl) (fun _ _ _ => rfl) (fun _ _ => OpR.call0 fn150 (ref08_without_c hx8) rfl) (fun _ _ _ _ _ _ _ => rfl) ?_
   refine oS (d := .nod [.val (.int .i64 a0.fEnd), .val (.bool a0.fHidden)]) (fun _ => Want.plain rfl) (fun _ => rfl) (fun _ _ _ => rfl) (fun _ _ => OpR.pure rfl) (fun _ _ _ _ _ _ _ => rfl) ?_
   refine oS (d := .val (.int .i64 a0.fEnd)) (fun _ => Want.plain rfl) (fun _ => rfl) (fun _ _ _ => rfl) (fun _ _ => OpR.pure rfl) (fun _ _ _ _ _ _ _ => rfl) ?_
   refine oS (d := .nod [.val (.bool a0.fHidden)]) (fun _ => Want.plain rfl) (fun _ => rfl) (fun _ _ _ => rfl) (fun _ _ => OpR.pure rfl) (fun _ _ _ _ _ _ _ => rfl) ?_
   refine oS (d := .val (.bool a0.fHidden)) (fun _ => Want.plain rfl) (fun _ => rfl) (fun _ _ _ => rfl) (fun _ _ => OpR.pure rfl) (fun _ _ _ _ _ _ _ => rfl) ?_
   refine oS (d := .agg [.sl 3 (List.map e_ref07_Cell x8), .val (.int .i64 a0.fEnd), .val (.bool a0.fHidden)]) (fun _ => Want.plain rfl) (fun _ => rfl) (fun _ _ _ => rfl) (fun _ _ => OpR.build rfl rfl rfl rfl rfl) (fun _ _ _ _ _ _ _ => rfl) ?_
   refine OpsS.cons' true ?_ (fun D hA env7 x j hj hD => match j, hj, hD with | 0, _, _ => rfl | 1, _, _ => rfl | 2, _, _ => rfl | 3, _, _ => rfl | 4, _, _ => rfl | 5, _, _ => rfl | 6, _, _ => rfl | 7, _, _ => rfl | 8, _, _ => rfl | 9, hj, _ => absurd rfl hj | 10, _, _ => rfl | _ + 11, _, _ => rfl) ?_
   · intro D env7 hA
     have e10 : D 10 = false := hA.no 10 _ rfl rfl
     exact OpS.yes (o0 := [.var (blk p1) [.val (.slice none 0 0), .val (.int .i64 0), .val (.bool false)] 57]) (o1 := fun x => [.var (blk p1) [.val (.slice none 0 0), .val (.int .i64 0), .val (.bool false)] 57, .var (blk x) [.val (.slice none 0 0), .val (.int .i64 0), .val (.bool false)] 57]) (d := fun x => .val (.pointer (some ⟨(blk x), 0, none⟩))) (Want.plain rfl) (by first | rfl | simp only [e10, hA.me, cond_true, cond_false, List.cons_append, List.nil_append, List.append_nil]) (fun x => by first | rfl | simp only [ins_self, ins_ne D (show 9 ≠ 10 by decide), upd_self, e10, hA.me, cond_true, cond_false, List.cons_append, List.nil_append, List.append_nil]) (fun x => rfl) (OpR.alloc rfl rfl (fun _ => rfl))
   refine OpsS.cons' true ?_ (fun _ _ _ _ _ _ _ => rfl) ?_
   · intro D env7 hA
     have e9 : D 9 = true := hA.yes 9 _ rfl rfl
     exact OpS.yes (o0 := [.var (blk p1) [.val (.slice none 0 0), .val (.int .i64 0), .val (.bool false)] 57, .var (blk (env7 9)) [.val (.slice none 0 0), .val (.int .i64 0), .val (.bool false)] 57]) (o1 := fun x => [.var (blk p1) [.val (.slice none 0 0), .val (.int .i64 0), .val (.bool false)] 57, .var (blk (env7 9)) [.sl 3 (List.map e_ref07_Cell x8), .val (.int .i64 a0.fEnd), .val (.bool a0.fHidden)] 57]) (d := fun x => .dead) (Want.plain rfl) (by first | rfl | simp only [e9, hA.me, cond_true, cond_false, List.cons_append, List.nil_append, List.append_nil]) (fun x => by first | rfl | simp only [ins_self, ins_ne D (show 10 ≠ 9 by decide), upd_self, upd_ne env7 x (show 10 ≠ 9 by decide), e9, hA.me, cond_true, cond_false, List.cons_append, List.nil_append, List.append_nil]) (fun x => rfl) (OpR.store 1 rfl rfl rfl rfl rfl rfl rfl rfl)
   exact trivial
 intro env7
 show T X _ _ _
 refine T.seq ?_
 obtain ⟨x10, hx10, h0⟩ := bnd_some h0
 obtain ⟨x11, hx11, h0⟩ := bnd_some h0
 refine T.drawS drawsX (fun env9 => [.agg [.sl 3 (List.map e_ref07_Cell x8), .val (.int .i64 a0.fEnd), .val (.bool a0.fHidden)], .val (.int .i64 a2), .nod [.sl 3 (List.map e_ref07_Cell a0.fCells), .val (.int .i64 a0.fEnd), .val (.bool a0.fHidden)], .sl 3 (List.map e_ref07_Cell a0.fCells), .val (.int .i64 a1), .nod [.val (.string (bs x10.fS)), .val (.string (bs x10.fRaw)), .val (.bool x10.fKept)], .agg [.val (.string (bs x10.fS)), .val (.string (bs x10.fRaw)), .val (.bool x10.fKept)], .tup [.agg [.sl 3 (List.map e_ref07_Cell x11.1.fCells), .val (.int .i64 x11.1.fEnd), .val (.bool x11.1.fHidden)], .val (.int .i64 x11.2)], .agg [.sl 3 (List.map e_ref07_Cell x11.1.fCells), .val (.int .i64 x11.1.fEnd), .val (.bool x11.1.fHidden)], .val (.int .i64 x11.2), .dead, .val (.int .i64 x11.2)]) (fun D env9 => [(bif D 10 then .var (blk p1) [.sl 3 (List.map e_ref07_Cell x11.1.fCells), .val (.int .i64 x11.1.fEnd), .val (.bool x11.1.fHidden)] 57 else .var (blk p1) [.val (.slice none 0 0), .val (.int .i64 0), .val (.bool false)] 57), .var (blk (env7 9)) [.sl 3 (List.map e_ref07_Cell x8), .val (.int .i64 a0.fEnd), .val (.bool a0.fHidden)] 57]) [0, 0, 0, 4, 0, 28, 60, 127, 255, 255, 1023, 2047] [1, 2, 3, 6, 7, 9, 28, 30, 31, 32, 33, 34, 35, 36, 37, 38, 39, 40, 41, 42, 43, 44, 45, 46, 47, 48] (fun env9 => [.var (blk p1) [.sl 3 (List.map e_ref07_Cell x11.1.fCells), .val (.int .i64 x11.1.fEnd), .val (.bool x11.1.fHidden)] 57, .var (blk (env7 9)) [.sl 3 (List.map e_ref07_Cell x8), .val (.int .i64 a0.fEnd), .val (.bool a0.fHidden)] 57]) (by decide +kernel) (by decide +kernel) (fun _ => rfl) (fun _ => rfl) ?_ (fun _ => rfl) (fun _ => rfl) ?_
 rotate_left
 · intro env9
   show T X _ _ _
   refine T.ret ?_
   obtain rfl := Option.some.inj h0
   exact PostG.retP (ks := []) (Gst.trans (Gst.only [6, 7] rfl) (Gst.pick [0] rfl rfl)) undef (ResL.cons (ResV.var 0 rfl rfl rfl rfl) (ResL.cons (ResV.tmp rfl) ResL.nil)) rfl rfl rfl rfl
 refine oS (d := .agg [.sl 3 (List.map e_ref07_Cell x8), .val (.int .i64 a0.fEnd), .val (.bool a0.fHidden)]) (fun _ => Want.plain rfl) (fun _ => rfl) (fun _ _ _ => rfl) (fun _ _ => OpR.loadPtr 1 rfl rfl rfl rfl) (fun _ _ _ _ _ _ _ => rfl) ?_
 refine oS (d := .val (.int .i64 a2)) (fun _ => Want.plain rfl) (fun _ => rfl) (fun _ _ _ => rfl) (fun _ _ => OpR.pure rfl) (fun _ _ _ _ _ _ _ => rfl) ?_
 refine oS (d := .nod [.sl 3 (List.map e_ref07_Cell a0.fCells), .val (.int .i64 a0.fEnd), .val (.bool a0.fHidden)]) (fun _ => Want.plain rfl) (fun _ => rfl) (fun _ _ _ => rfl) (fun _ _ => OpR.pure rfl) (fun _ _ _ _ _ _ _ => rfl) ?_
 refine oS (d := .sl 3 (List.map e_ref07_Cell a0.fCells)) (fun _ => Want.plain rfl) (fun _ => rfl) (fun _ _ _ => rfl) (fun _ _ => OpR.pure rfl) (fun _ _ _ _ _ _ _ => rfl) ?_
 refine oS (d := .val (.int .i64 a1)) (fun _ => Want.plain rfl) (fun _ => rfl) (fun _ _ _ => rfl) (fun _ _ => OpR.pure rfl) (fun _ _ _ _ _ _ _ => rfl) ?_
 refine oS (d := .nod [.val (.string (bs x10.fS)), .val (.string (bs x10.fRaw)), .val (.bool x10.fKept)]) (fun _ => Want.plain rfl) (fun _ => rfl) (fun _ _ _ => rfl) (fun _ _ => OpR.indexM e_ref07_Cell hx10 rfl rfl rfl rfl rfl) (fun _ _ _ _ _ _ _ => rfl) ?_
 refine oS (d := .agg [.val (.string (bs x10.fS)), .val (.string (bs x10.fRaw)), .val (.bool x10.fKept)]) (fun _ => Want.plain rfl) (fun _ => rfl) (fun _ _ _ => rfl) (fun _ _ => OpR.pure rfl) (fun _ _ _ _ _ _ _ => rfl) ?_
 refine oS (d := .tup [.agg [.sl 3 (List.map e_ref07_Cell x11.1.fCells), .val (.int .i64 x11.1.fEnd), .val (.bool x11.1.fHidden)], .val (.int .i64 x11.2)]) (fun _ => Want.plain rfl) (fun _ => rfl) (fun _ _ _ => rfl) (fun _ _ => OpR.call0 fn96 (ref08_Insert_c hx11) rfl) (fun _ _ _ _ _ _ _ => rfl) ?_
 refine oS (d := .agg [.sl 3 (List.map e_ref07_Cell x11.1.fCells), .val (.int .i64 x11.1.fEnd), .val (.bool x11.1.fHidden)]) (fun _ => Want.plain rfl) (fun _ => rfl) (fun _ _ _ => rfl) (fun _ _ => OpR.pure rfl) (fun _ _ _ _ _ _ _ => rfl) ?_
 refine oS (d := .val (.int .i64 x11.2)) (fun _ => Want.plain rfl) (fun _ => rfl) (fun _ _ _ => rfl) (fun _ _ => OpR.pure rfl) (fun _ _ _ _ _ _ _ => rfl) ?_
 refine OpsS.cons' true ?_ (fun _ _ _ _ _ _ _ => rfl) ?_
 · intro D env9 hA
   exact OpS.yes (o0 := [.var (blk p1) [.val (.slice none 0 0), .val (.int .i64 0), .val (.bool false)] 57, .var (blk (env7 9)) [.sl 3 (List.map e_ref07_Cell x8), .val (.int .i64 a0.fEnd), .val (.bool a0.fHidden)] 57]) (o1 := fun x => [.var (blk p1) [.sl 3 (List.map e_ref07_Cell x11.1.fCells), .val (.int .i64 x11.1.fEnd), .val (.bool x11.1.fHidden)] 57, .var (blk (env7 9)) [.sl 3 (List.map e_ref07_Cell x8), .val (.int .i64 a0.fEnd), .val (.bool a0.fHidden)] 57]) (d := fun x => .dead) (Want.plain rfl) (by first | rfl | simp only [hA.me, cond_true, cond_false, List.cons_append, List.nil_append, List.append_nil]) (fun x => by first | rfl | simp only [ins_self, upd_self, hA.me, cond_true, cond_false, List.cons_append, List.nil_append, List.append_nil]) (fun x => rfl) (OpR.store 0 rfl rfl rfl rfl rfl rfl rfl rfl)
 refine oS (d := .val (.int .i64 x11.2)) (fun _ => Want.plain rfl) (fun _ => rfl) (fun _ _ _ => rfl) (fun _ _ => OpR.pure rfl) (fun _ _ _ _ _ _ _ => rfl) ?_
 exact trivial
noncomputable def law08_step (a0 : row_Row) (a1 : ref08_Row) (a2 : law08_Op) (a3 : List UInt8) : Option (row_Row × ref08_Row × Bool × (List UInt8)) :=
  bnd (law08_cut a2.fS 40) fun x3 =>
  bnd (cell_Put x3 a3) fun x4 =>
  bnd (law08_cut a2.fS 40) fun x7 =>
  if x4.2.1 = 0 then
    bnd (if a2.fKind = 0 then
      some (a2.fKind == 0)
    else
      some (a2.fKind == 1) : Option Bool) fun t11 =>
    bnd (if t11 = true then
      bnd (row_Row_Set a0 a2.fI x4.1) fun x15 =>
      bnd (ref08_Set a1 a2.fI (⟨x7, [], false⟩ : ref07_Cell)) fun x16 =>
      some (x15.2, x16.2, x15.1.fCells, x15.1.fEnd, x15.1.fHidden, x16.1.fCells, x16.1.fEnd, x16.1.fHidden)
    else
      bnd (if a2.fKind = 2 then
        some (a2.fKind == 2)
      else
        some (a2.fKind == 3) : Option Bool) fun t17 =>
      if t17 = true then
        bnd (row_Row_Insert a0 a2.fI x4.1) fun x20 =>
        bnd (ref08_Insert a1 a2.fI (⟨x7, [], false⟩ : ref07_Cell)) fun x21 =>
        some (x20.2, x21.2, x20.1.fCells, x20.1.fEnd, x20.1.fHidden, x21.1.fCells, x21.1.fEnd, x21.1.fHidden)
      else
        bnd (if a2.fKind = 4 then
          some (a2.fKind == 4)
        else
          some (a2.fKind == 5) : Option Bool) fun t22 =>
        if t22 = true then
          bnd (row_Row_Delete a0 a2.fI) fun x25 =>
          bnd (ref08_Delete a1 a2.fI) fun x26 =>
          some (x25.2, x26.2, x25.1.fCells, x25.1.fEnd, x25.1.fHidden, x26.1.fCells, x26.1.fEnd, x26.1.fHidden)
        else
          if a2.fKind = 6 then
            bnd (row_Row_Move a0 a2.fI a2.fJ) fun x28 =>
            bnd (ref08_Move a1 a2.fI a2.fJ) fun x29 =>
            some (x28.2, x29.2, x28.1.fCells, x28.1.fEnd, x28.1.fHidden, x29.1.fCells, x29.1.fEnd, x29.1.fHidden)
          else
            if a2.fKind = 7 then
              bnd (row_Row_Pad a0 a2.fI) fun x32 =>
              bnd (ref08_Pad a1 a2.fI) fun x33 =>
              some (x4.2.1, 0, x32.2.2, x32.1, x32.2.1, x33.2.2, x33.1, x33.2.1)
            else
              if a2.fKind = 8 then
                bnd (row_Row_Hide a0 a2.fOn) fun x35 =>
                some (x4.2.1, 0, x35.fCells, x35.fEnd, x35.fHidden, a1.fCells, a1.fEnd, a2.fOn)
              else
                some (x4.2.1, 0, a0.fCells, a0.fEnd, a0.fHidden, a1.fCells, a1.fEnd, a1.fHidden) : Option (Int × Int × (List cell_Cell) × Int × Bool × (List ref07_Cell) × Int × Bool)) fun t13 =>
    bnd (if t13.1 = t13.2.1 then
      bnd (law08_Plain a0 x4.2.2) fun x39 =>
      bnd (ref08_Same x39 a1) fun x40 =>
      some (!x40)
    else
      some true : Option Bool) fun t36 =>
    if t36 = true then
      some (a0, a1, false, x4.2.2)
    else
      if t13.1 = 0 then
        some ((⟨t13.2.2.1, t13.2.2.2.1, t13.2.2.2.2.1⟩ : row_Row), (⟨t13.2.2.2.2.2.1, t13.2.2.2.2.2.2.1, t13.2.2.2.2.2.2.2⟩ : ref08_Row), true, x4.2.2)
      else
        bnd (row_Row_Len (⟨t13.2.2.1, t13.2.2.2.1, t13.2.2.2.2.1⟩ : row_Row)) fun x46 =>
        some (a0, a1, (x46 == 0), x4.2.2)
  else
    some (a0, a1, false, x4.2.2)
set_option maxHeartbeats 4000000 in
theorem law08_step_c {a0 : row_Row} {a1 : ref08_Row} {a2 : law08_Op} {a3 : List UInt8} {b0 : Nat} {v1 : Value} {res : row_Row × ref08_Row × Bool × (List UInt8)} (h0 : law08_step a0 a1 a2 a3 = some res) : CallF X 50 [.val (.pointer (some ⟨b0, 0, none⟩)), .agg [.sl 5 (List.map e_cell_Cell a0.fCells), .val (.int .i64 a0.fEnd), .val (.bool a0.fHidden)], .agg [.sl 3 (List.map e_ref07_Cell a1.fCells), .val (.int .i64 a1.fEnd), .val (.bool a1.fHidden)], .agg [.val (.int .i64 a2.fKind), .val (.int .i64 a2.fI), .val (.int .i64 a2.fJ), .val (.string (bs a2.fS)), .val (.bool a2.fOn)]] [.var b0 [.val v1] 142, .row v1 (List.map byteD a3) 1 5] (fun x => .tup [.agg [.sl 5 (List.map e_cell_Cell res.1.fCells), .val (.int .i64 res.1.fEnd), .val (.bool res.1.fHidden)], .agg [.sl 3 (List.map e_ref07_Cell res.2.1.fCells), .val (.int .i64 res.2.1.fEnd), .val (.bool res.2.1.fHidden)], .val (.bool res.2.2.1)]) (fun x => [.var b0 [.val (vn x 0)] 142, .row (vn x 0) (List.map byteD res.2.2.2) 1 5]) := by
 unfold law08_step at h0
 refine CallF.mkG (X := X) Try.func50 rfl rfl Try.ntmps50 rfl rfl ?_
 refine T.seq ?_
 refine T.region ?_
 refine TL.op1 (OpR.boxImm rfl rfl) rfl ?_
 refine TL.op1 (OpR.boxImm rfl rfl) rfl ?_
 refine TL.op1 (OpR.boxImm rfl rfl) rfl ?_
 refine TL.op (OpR.alloc rfl rfl (fun _ => rfl)) rfl (fun p1 => ?_)
 refine TL.op (OpR.alloc rfl rfl (fun _ => rfl)) rfl (fun p2 => ?_)
 refine TL.op1 (OpR.pure rfl) rfl ?_
 refine TL.nil ?_
 show T X _ _ _
 refine T.seq ?_
 refine T.region ?_
 refine TL.op1 (OpR.pure rfl) rfl ?_
 refine TL.op1 (OpR.pure rfl) rfl ?_
 refine TL.op1 (OpR.pure rfl) rfl ?_
 obtain ⟨x3, hx3, h0⟩ := bnd_some h0
 refine TL.op1 (OpR.call0 fn24 (law08_cut_c hx3) rfl) rfl ?_
 refine TL.op1 (OpR.toBytesM rfl rfl rfl rfl rfl rfl rfl) rfl ?_
 obtain ⟨x4, hx4, h0⟩ := bnd_some h0
 refine TL.op (OpR.call [0, 1] fn73 (cell_Put_c hx4) rfl rfl rfl (fun _ => rfl)) rfl (fun w5 => ?_)
 refine TL.op1 (OpR.pure rfl) rfl ?_
 refine TL.op1 (OpR.pure rfl) rfl ?_
 refine TL.op1 (OpR.pure rfl) rfl ?_
 refine TL.op (OpR.alloc rfl rfl (fun _ => rfl)) rfl (fun p6 => ?_)
 refine TL.op0 (OpR.store 4 rfl rfl rfl rfl rfl rfl rfl rfl) ?_
 refine TL.op1 (OpR.pure rfl) rfl ?_
 refine TL.nil ?_
 show T X _ _ _
 refine T.seq ?_
 refine T.region ?_
 refine TL.op1 (OpR.pure rfl) rfl ?_
 refine TL.op1 (OpR.pure rfl) rfl ?_
 obtain ⟨x7, hx7, h0⟩ := bnd_some h0
 refine TL.op1 (OpR.call0 fn24 (law08_cut_c hx7) rfl) rfl ?_
 refine TL.op1 (OpR.build rfl rfl rfl rfl rfl) rfl ?_
 refine TL.op (OpR.alloc rfl rfl (fun _ => rfl)) rfl (fun p8 => ?_)
 refine TL.op0 (OpR.store 5 rfl rfl rfl rfl rfl rfl rfl rfl) ?_
 refine TL.nil ?_
 show T X _ _ _
 refine T.seq ?_
 refine T.seq ?_
 refine T.region ?_
 refine TL.op1 (OpR.pure rfl) rfl ?_
 refine TL.op1 (OpR.pure rfl) rfl ?_
 refine TL.nil ?_
 show T X _ _ _
 rcases ite_some h0 with ⟨c9, h0⟩ | ⟨c9, h0⟩
 rotate_left
 · refine T.condT rfl (not_f (beq_eq_false_iff_ne.2 c9)) ?_
   refine T.seq ?_
   refine T.drawS drawsX (fun env47 => [.agg [.sl 5 (List.map e_cell_Cell a0.fCells), .val (.int .i64 a0.fEnd), .val (.bool a0.fHidden)], .agg [.sl 3 (List.map e_ref07_Cell a1.fCells), .val (.int .i64 a1.fEnd), .val (.bool a1.fHidden)], .dead, .dead, .val (.bool false)]) (fun D env47 => [.var b0 [.val (vn w5 0)] 142, .row (vn w5 0) (List.map byteD x4.2.2) 1 5, (bif D 2 then .var (blk p1) [.sl 5 (List.map e_cell_Cell a0.fCells), .val (.int .i64 a0.fEnd), .val (.bool a0.fHidden)] 49 else .var (blk p1) [.val (.slice none 0 0), .val (.int .i64 0), .val (.bool false)] 49), (bif D 3 then .var (blk p2) [.sl 3 (List.map e_ref07_Cell a1.fCells), .val (.int .i64 a1.fEnd), .val (.bool a1.fHidden)] 57 else .var (blk p2) [.val (.slice none 0 0), .val (.int .i64 0), .val (.bool false)] 57), .var (blk p6) [.sl 2 (List.map e_arena_Span x4.1.fText.fL), .val (.int .i64 x4.1.fText.fN), .val (.int .i64 x4.1.fRaw.fAt), .val (.int .i64 x4.1.fRaw.fN), .val (.bool x4.1.fKept)] 108, .var (blk p8) [.val (.string (bs x7)), .val (.string (bs [])), .val (.bool false)] 112]) [0, 0, 1, 7, 15] [0, 1, 2, 3, 5, 6, 7, 8, 9, 10, 11, 12, 13, 17, 18, 19, 20, 21, 22, 23, 24, 25, 26, 27, 28, 29, 30, 31, 32, 33] (fun env47 => [.var b0 [.val (vn w5 0)] 142, .row (vn w5 0) (List.map byteD x4.2.2) 1 5, .var (blk p1) [.sl 5 (List.map e_cell_Cell a0.fCells), .val (.int .i64 a0.fEnd), .val (.bool a0.fHidden)] 49, .var (blk p2) [.sl 3 (List.map e_ref07_Cell a1.fCells), .val (.int .i64 a1.fEnd), .val (.bool a1.fHidden)] 57, .var (blk p6) [.sl 2 (List.map e_arena_Span x4.1.fText.fL), .val (.int .i64 x4.1.fText.fN), .val (.int .i64 x4.1.fRaw.fAt), .val (.int .i64 x4.1.fRaw.fN), .val (.bool x4.1.fKept)] 108, .var (blk p8) [.val (.string (bs x7)), .val (.string (bs [])), .val (.bool false)] 112]) (by decide +kernel) (by decide +kernel) (fun _ => rfl) (fun _ => rfl) ?_ (fun _ => rfl) (fun _ => rfl) ?_
   rotate_left
   · intro env47
     show T X _ _ _
     refine T.ret ?_
     obtain rfl := Option.some.inj h0
     exact PostG.retP (ks := [0, 1]) (Gst.trans (Gst.only [8, 9, 10] rfl) (Gst.pick [0, 1, 2, 3] rfl rfl)) (.tuple #[(vn w5 0)]) (ResL.cons (ResV.var 2 rfl rfl rfl rfl) (ResL.cons (ResV.var 3 rfl rfl rfl rfl) (ResL.cons (ResV.tmp rfl) ResL.nil))) rfl rfl rfl rfl
   refine oS (d := .agg [.sl 5 (List.map e_cell_Cell a0.fCells), .val (.int .i64 a0.fEnd), .val (.bool a0.fHidden)]) (fun _ => Want.plain rfl) (fun _ => rfl) (fun _ _ _ => rfl) (fun _ _ => OpR.pure rfl) (fun _ _ _ _ _ _ _ => rfl) ?_
   refine oS (d := .agg [.sl 3 (List.map e_ref07_Cell a1.fCells), .val (.int .i64 a1.fEnd), .val (.bool a1.fHidden)]) (fun _ => Want.plain rfl) (fun _ => rfl) (fun _ _ _ => rfl) (fun _ _ => OpR.pure rfl) (fun _ _ _ _ _ _ _ => rfl) ?_
   refine OpsS.cons' true ?_ (fun _ _ _ _ _ _ _ => rfl) ?_
   · intro D env47 hA
     have e3 : D 3 = false := hA.no 3 _ rfl rfl
     exact OpS.yes (o0 := [.var b0 [.val (vn w5 0)] 142, .row (vn w5 0) (List.map byteD x4.2.2) 1 5, .var (blk p1) [.val (.slice none 0 0), .val (.int .i64 0), .val (.bool false)] 49, .var (blk p2) [.val (.slice none 0 0), .val (.int .i64 0), .val (.bool false)] 57, .var (blk p6) [.sl 2 (List.map e_arena_Span x4.1.fText.fL), .val (.int .i64 x4.1.fText.fN), .val (.int .i64 x4.1.fRaw.fAt), .val (.int .i64 x4.1.fRaw.fN), .val (.bool x4.1.fKept)] 108, .var (blk p8) [.val (.string (bs x7)), .val (.string (bs [])), .val (.bool false)] 112]) (o1 := fun x => [.var b0 [.val (vn w5 0)] 142, .row (vn w5 0) (List.map byteD x4.2.2) 1 5, .var (blk p1) [.sl 5 (List.map e_cell_Cell a0.fCells), .val (.int .i64 a0.fEnd), .val (.bool a0.fHidden)] 49, .var (blk p2) [.val (.slice none 0 0), .val (.int .i64 0), .val (.bool false)] 57, .var (blk p6) [.sl 2 (List.map e_arena_Span x4.1.fText.fL), .val (.int .i64 x4.1.fText.fN), .val (.int .i64 x4.1.fRaw.fAt), .val (.int .i64 x4.1.fRaw.fN), .val (.bool x4.1.fKept)] 108, .var (blk p8) [.val (.string (bs x7)), .val (.string (bs [])), .val (.bool false)] 112]) (d := fun x => .dead) (Want.plain rfl) (by first | rfl | simp only [e3, hA.me, cond_true, cond_false, List.cons_append, List.nil_append, List.append_nil]) (fun x => by first | rfl | simp only [ins_self, ins_ne D (show 2 ≠ 3 by decide), upd_self, e3, hA.me, cond_true, cond_false, List.cons_append, List.nil_append, List.append_nil]) (fun x => rfl) (OpR.store 2 rfl rfl rfl rfl rfl rfl rfl rfl)
   refine OpsS.cons' true ?_ (fun _ _ _ _ _ _ _ => rfl) ?_
   · intro D env47 hA
     have e2 : D 2 = true := hA.yes 2 _ rfl rfl
     exact OpS.yes (o0 := [.var b0 [.val (vn w5 0)] 142, .row (vn w5 0) (List.map byteD x4.2.2) 1 5, .var (blk p1) [.sl 5 (List.map e_cell_Cell a0.fCells), .val (.int .i64 a0.fEnd), .val (.bool a0.fHidden)] 49, .var (blk p2) [.val (.slice none 0 0), .val (.int .i64 0), .val (.bool false)] 57, .var (blk p6) [.sl 2 (List.map e_arena_Span x4.1.fText.fL), .val (.int .i64 x4.1.fText.fN), .val (.int .i64 x4.1.fRaw.fAt), .val (.int .i64 x4.1.fRaw.fN), .val (.bool x4.1.fKept)] 108, .var (blk p8) [.val (.string (bs x7)), .val (.string (bs [])), .val (.bool false)] 112]) (o1 := fun x => [.var b0 [.val (vn w5 0)] 142, .row (vn w5 0) (List.map byteD x4.2.2) 1 5, .var (blk p1) [.sl 5 (List.map e_cell_Cell a0.fCells), .val (.int .i64 a0.fEnd), .val (.bool a0.fHidden)] 49, .var (blk p2) [.sl 3 (List.map e_ref07_Cell a1.fCells), .val (.int .i64 a1.fEnd), .val (.bool a1.fHidden)] 57, .var (blk p6) [.sl 2 (List.map e_arena_Span x4.1.fText.fL), .val (.int .i64 x4.1.fText.fN), .val (.int .i64 x4.1.fRaw.fAt), .val (.int .i64 x4.1.fRaw.fN), .val (.bool x4.1.fKept)] 108, .var (blk p8) [.val (.string (bs x7)), .val (.string (bs [])), .val (.bool false)] 112]) (d := fun x => .dead) (Want.plain rfl) (by first | rfl | simp only [e2, hA.me, cond_true, cond_false, List.cons_append, List.nil_append, List.append_nil]) (fun x => by first | rfl | simp only [ins_self, ins_ne D (show 3 ≠ 2 by decide), upd_self, e2, hA.me, cond_true, cond_false, List.cons_append, List.nil_append, List.append_nil]) (fun x => rfl) (OpR.store 3 rfl rfl rfl rfl rfl rfl rfl rfl)
   refine oS (d := .val (.bool false)) (fun _ => Want.plain rfl) (fun _ => rfl) (fun _ _ _ => rfl) (fun _ _ => OpR.pure rfl) (fun _ _ _ _ _ _ _ => rfl) ?_
   exact trivial
 refine T.condF rfl (not_t (beq_iff_eq.2 c9)) ?_
 refine T.skip ?_
 show T X _ _ _
 refine T.seq ?_
 refine T.drawS drawsX (fun env10 => [.agg [.sl 5 (List.map e_cell_Cell a0.fCells), .val (.int .i64 a0.fEnd), .val (.bool a0.fHidden)], .agg [.sl 3 (List.map e_ref07_Cell a1.fCells), .val (.int .i64 a1.fEnd), .val (.bool a1.fHidden)], .val (.pointer (some ⟨(blk (env10 2)), 0, none⟩)), .val (.pointer (some ⟨(blk (env10 3)), 0, none⟩)), .dead, .dead]) (fun D env10 => [.var b0 [.val (vn w5 0)] 142, .row (vn w5 0) (List.map byteD x4.2.2) 1 5, .var (blk p1) [.val (.slice none 0 0), .val (.int .i64 0), .val (.bool false)] 49, .var (blk p2) [.val (.slice none 0 0), .val (.int .i64 0), .val (.bool false)] 57, .var (blk p6) [.sl 2 (List.map e_arena_Span x4.1.fText.fL), .val (.int .i64 x4.1.fText.fN), .val (.int .i64 x4.1.fRaw.fAt), .val (.int .i64 x4.1.fRaw.fN), .val (.bool x4.1.fKept)] 108, .var (blk p8) [.val (.string (bs x7)), .val (.string (bs [])), .val (.bool false)] 112] ++ (bif D 2 then [(bif D 4 then .var (blk (env10 2)) [.sl 5 (List.map e_cell_Cell a0.fCells), .val (.int .i64 a0.fEnd), .val (.bool a0.fHidden)] 49 else .var (blk (env10 2)) [.val (.slice none 0 0), .val (.int .i64 0), .val (.bool false)] 49)] else []) ++ (bif D 3 then [(bif D 5 then .var (blk (env10 3)) [.sl 3 (List.map e_ref07_Cell a1.fCells), .val (.int .i64 a1.fEnd), .val (.bool a1.fHidden)] 57 else .var (blk (env10 3)) [.val (.slice none 0 0), .val (.int .i64 0), .val (.bool false)] 57)] else [])) [0, 0, 0, 0, 13, 31] [0, 1, 2, 3, 5, 6, 7, 8, 9, 10, 11, 12, 13, 14, 15, 17, 18, 19, 20, 21, 22, 23, 24, 25, 26, 27, 28, 29, 30, 31, 34, 35] (fun env10 => [.var b0 [.val (vn w5 0)] 142, .row (vn w5 0) (List.map byteD x4.2.2) 1 5, .var (blk p1) [.val (.slice none 0 0), .val (.int .i64 0), .val (.bool false)] 49, .var (blk p2) [.val (.slice none 0 0), .val (.int .i64 0), .val (.bool false)] 57, .var (blk p6) [.sl 2 (List.map e_arena_Span x4.1.fText.fL), .val (.int .i64 x4.1.fText.fN), .val (.int .i64 x4.1.fRaw.fAt), .val (.int .i64 x4.1.fRaw.fN), .val (.bool x4.1.fKept)] 108, .var (blk p8) [.val (.string (bs x7)), .val (.string (bs [])), .val (.bool false)] 112, .var (blk (env10 2)) [.sl 5 (List.map e_cell_Cell a0.fCells), .val (.int .i64 a0.fEnd), .val (.bool a0.fHidden)] 49, .var (blk (env10 3)) [.sl 3 (List.map e_ref07_Cell a1.fCells), .val (.int .i64 a1.fEnd), .val (.bool a1.fHidden)] 57]) (by decide +kernel) (by decide +kernel) (fun _ => rfl) (fun _ => rfl) ?_ (fun _ => rfl) (fun _ => rfl) ?_
 · refine oS (d := .agg [.sl 5 (List.map e_cell_Cell a0.fCells), .val (.int .i64 a0.fEnd), .val (.bool a0.fHidden)]) (fun _ => Want.plain rfl) (fun _ => rfl) (fun _ _ _ => rfl) (fun _ _ => OpR.pure rfl) (fun _ _ _ _ _ _ _ => rfl) ?_
   refine oS (d := .agg [.sl 3 (List.map e_ref07_Cell a1.fCells), .val (.int .i64 a1.fEnd), .val (.bool a1.fHidden)]) (fun _ => Want.plain rfl) (fun _ => rfl) (fun _ _ _ => rfl) (fun _ _ => OpR.pure rfl) (fun _ _ _ _ _ _ _ => rfl) ?_
   refine OpsS.cons' true ?_ (fun D hA env10 x j hj hD => match j, hj, hD with | 0, _, _ => rfl | 1, _, _ => rfl | 2, hj, _ => absurd rfl hj | 3, _, _ => rfl | 4, _, _ => rfl | 5, _, _ => rfl | _ + 6, _, _ => rfl) ?_
   · intro D env10 hA
     have e4 : D 4 = false := hA.no 4 _ rfl rfl
     have e5 : D 5 = false := hA.no 5 _ rfl rfl
     rcases Bool.eq_false_or_eq_true (D 3) with e3 | e3
     rotate_left
     · exact OpS.yes (o0 := [.var b0 [.val (vn w5 0)] 142, .row (vn w5 0) (List.map byteD x4.2.2) 1 5, .var (blk p1) [.val (.slice none 0 0), .val (.int .i64 0), .val (.bool false)] 49, .var (blk p2) [.val (.slice none 0 0), .val (.int .i64 0), .val (.bool false)] 57, .var (blk p6) [.sl 2 (List.map e_arena_Span x4.1.fText.fL), .val (.int .i64 x4.1.fText.fN), .val (.int .i64 x4.1.fRaw.fAt), .val (.int .i64 x4.1.fRaw.fN), .val (.bool x4.1.fKept)] 108, .var (blk p8) [.val (.string (bs x7)), .val (.string (bs [])), .val (.bool false)] 112]) (o1 := fun x => [.var b0 [.val (vn w5 0)] 142, .row (vn w5 0) (List.map byteD x4.2.2) 1 5, .var (blk p1) [.val (.slice none 0 0), .val (.int .i64 0), .val (.bool false)] 49, .var (blk p2) [.val (.slice none 0 0), .val (.int .i64 0), .val (.bool false)] 57, .var (blk p6) [.sl 2 (List.map e_arena_Span x4.1.fText.fL), .val (.int .i64 x4.1.fText.fN), .val (.int .i64 x4.1.fRaw.fAt), .val (.int .i64 x4.1.fRaw.fN), .val (.bool x4.1.fKept)] 108, .var (blk p8) [.val (.string (bs x7)), .val (.string (bs [])), .val (.bool false)] 112, .var (blk x) [.val (.slice none 0 0), .val (.int .i64 0), .val (.bool false)] 49]) (d := fun x => .val (.pointer (some ⟨(blk x), 0, none⟩))) (Want.plain rfl) (by first | rfl | simp only [e4, e5, e3, hA.me, cond_true, cond_false, List.cons_append, List.nil_append, List.append_nil]) (fun x => by first | rfl | simp only [ins_self, ins_ne D (show 2 ≠ 3 by decide), ins_ne D (show 2 ≠ 4 by decide), ins_ne D (show 2 ≠ 5 by decide), upd_self, upd_ne env10 x (show 2 ≠ 3 by decide), e4, e5, e3, hA.me, cond_true, cond_false, List.cons_append, List.nil_append, List.append_nil]) (fun x => rfl) (OpR.alloc rfl rfl (fun _ => rfl))
     exact OpS.yes (o0 := [.var b0 [.val (vn w5 0)] 142, .row (vn w5 0) (List.map byteD x4.2.2) 1 5, .var (blk p1) [.val (.slice none 0 0), .val (.int .i64 0), .val (.bool false)] 49, .var (blk p2) [.val (.slice none 0 0), .val (.int .i64 0), .val (.bool false)] 57, .var (blk p6) [.sl 2 (List.map e_arena_Span x4.1.fText.fL), .val (.int .i64 x4.1.fText.fN), .val (.int .i64 x4.1.fRaw.fAt), .val (.int .i64 x4.1.fRaw.fN), .val (.bool x4.1.fKept)] 108, .var (blk p8) [.val (.string (bs x7)), .val (.string (bs [])), .val (.bool false)] 112, .var (blk (env10 3)) [.val (.slice none 0 0), .val (.int .i64 0), .val (.bool false)] 57]) (o1 := fun x => [.var b0 [.val (vn w5 0)] 142, .row (vn w5 0) (List.map byteD x4.2.2) 1 5, .var (blk p1) [.val (.slice none 0 0), .val (.int .i64 0), .val (.bool false)] 49, .var (blk p2) [.val (.slice none 0 0), .val (.int .i64 0), .val (.bool false)] 57, .var (blk p6) [.sl 2 (List.map e_arena_Span x4.1.fText.fL), .val (.int .i64 x4.1.fText.fN), .val (.int .i64 x4.1.fRaw.fAt), .val (.int .i64 x4.1.fRaw.fN), .val (.bool x4.1.fKept)] 108, .var (blk p8) [.val (.string (bs x7)), .val (.string (bs [])), .val (.bool false)] 112, .var (blk x) [.val (.slice none 0 0), .val (.int .i64 0), .val (.bool false)] 49, .var (blk (env10 3)) [.val (.slice none 0 0), .val (.int .i64 0), .val (.bool false)] 57]) (d := fun x => .val (.pointer (some ⟨(blk x), 0, none⟩))) (Want.plain rfl) (by first | rfl | simp only [e4, e5, e3, hA.me, cond_true, cond_false, List.cons_append, List.nil_append, List.append_nil]) (fun x => by first | rfl | simp only [ins_self, ins_ne D (show 2 ≠ 3 by decide), ins_ne D (show 2 ≠ 4 by decide), ins_ne D (show 2 ≠ 5 by decide), upd_self, upd_ne env10 x (show 2 ≠ 3 by decide), e4, e5, e3, hA.me, cond_true, cond_false, List.cons_append, List.nil_append, List.append_nil]) (fun x => rfl) (OpR.pick [0, 1, 2, 3, 4, 5, 7, 6] (OpR.alloc rfl rfl (fun _ => rfl)) (fun _ => rfl) rfl)
   refine OpsS.cons' true ?_ (fun D hA env10 x j hj hD => match j, hj, hD with | 0, _, _ => rfl | 1, _, _ => rfl | 2, _, _ => rfl | 3, hj, _ => absurd rfl hj | 4, _, _ => rfl | 5, _, _ => rfl | _ + 6, _, _ => rfl) ?_
   · intro D env10 hA
     have e4 : D 4 = false := hA.no 4 _ rfl rfl
     have e5 : D 5 = false := hA.no 5 _ rfl rfl
     rcases Bool.eq_false_or_eq_true (D 2) with e2 | e2
     rotate_left
     · exact OpS.yes (o0 := [.var b0 [.val (vn w5 0)] 142, .row (vn w5 0) (List.map byteD x4.2.2) 1 5, .var (blk p1) [.val (.slice none 0 0), .val (.int .i64 0), .val (.bool false)] 49, .var (blk p2) [.val (.slice none 0 0), .val (.int .i64 0), .val (.bool false)] 57, .var (blk p6) [.sl 2 (List.map e_arena_Span x4.1.fText.fL), .val (.int .i64 x4.1.fText.fN), .val (.int .i64 x4.1.fRaw.fAt), .val (.int .i64 x4.1.fRaw.fN), .val (.bool x4.1.fKept)] 108, .var (blk p8) [.val (.string (bs x7)), .val (.string (bs [])), .val (.bool false)] 112]) (o1 := fun x => [.var b0 [.val (vn w5 0)] 142, .row (vn w5 0) (List.map byteD x4.2.2) 1 5, .var (blk p1) [.val (.slice none 0 0), .val (.int .i64 0), .val (.bool false)] 49, .var (blk p2) [.val (.slice none 0 0), .val (.int .i64 0), .val (.bool false)] 57, .var (blk p6) [.sl 2 (List.map e_arena_Span x4.1.fText.fL), .val (.int .i64 x4.1.fText.fN), .val (.int .i64 x4.1.fRaw.fAt), .val (.int .i64 x4.1.fRaw.fN), .val (.bool x4.1.fKept)] 108, .var (blk p8) [.val (.string (bs x7)), .val (.string (bs [])), .val (.bool false)] 112, .var (blk x) [.val (.slice none 0 0), .val (.int .i64 0), .val (.bool false)] 57]) (d := fun x => .val (.pointer (some ⟨(blk x), 0, none⟩))) (Want.plain rfl) (by first | rfl | simp only [e4, e5, e2, hA.me, cond_true, cond_false, List.cons_append, List.nil_append, List.append_nil]) (fun x => by first | rfl | simp only [ins_self, ins_ne D (show 3 ≠ 2 by decide), ins_ne D (show 3 ≠ 4 by decide), ins_ne D (show 3 ≠ 5 by decide), upd_self, upd_ne env10 x (show 3 ≠ 2 by decide), e4, e5, e2, hA.me, cond_true, cond_false, List.cons_append, List.nil_append, List.append_nil]) (fun x => rfl) (OpR.alloc rfl rfl (fun _ => rfl))
     exact OpS.yes (o0 := [.var b0 [.val (vn w5 0)] 142, .row (vn w5 0) (List.map byteD x4.2.2) 1 5, .var (blk p1) [.val (.slice none 0 0), .val (.int .i64 0), .val (.bool false)] 49, .var (blk p2) [.val (.slice none 0 0), .val (.int .i64 0), .val (.bool false)] 57, .var (blk p6) [.sl 2 (List.map e_arena_Span x4.1.fText.fL), .val (.int .i64 x4.1.fText.fN), .val (.int .i64 x4.1.fRaw.fAt), .val (.int .i64 x4.1.fRaw.fN), .val (.bool x4.1.fKept)] 108, .var (blk p8) [.val (.string (bs x7)), .val (.string (bs [])), .val (.bool false)] 112, .var (blk (env10 2)) [.val (.slice none 0 0), .val (.int .i64 0), .val (.bool false)] 49]) (o1 := fun x => [.var b0 [.val (vn w5 0)] 142, .row (vn w5 0) (List.map byteD x4.2.2) 1 5, .var (blk p1) [.val (.slice none 0 0), .val (.int .i64 0), .val (.bool false)] 49, .var (blk p2) [.val (.slice none 0 0), .val (.int .i64 0), .val (.bool false)] 57, .var (blk p6) [.sl 2 (List.map e_arena_Span x4.1.fText.fL), .val (.int .i64 x4.1.fText.fN), .val (.int .i64 x4.1.fRaw.fAt), .val (.int .i64 x4.1.fRaw.fN), .val (.bool x4.1.fKept)] 108, .var (blk p8) [.val (.string (bs x7)), .val (.string (bs [])), .val (.bool false)] 112, .var (blk (env10 2)) [.val (.slice none 0 0), .val (.int .i64 0), .val (.bool false)] 49, .var (blk x) [.val (.slice none 0 0), .val (.int .i64 0), .val (.bool false)] 57]) (d := fun x => .val (.pointer (some ⟨(blk x), 0, none⟩))) (Want.plain rfl) (by first | rfl | simp only [e4, e5, e2, hA.me, cond_true, cond_false, List.cons_append, List.nil_append, List.append_nil]) (fun x => by first | rfl | simp only [ins_self, ins_ne D (show 3 ≠ 2 by decide), ins_ne D (show 3 ≠ 4 by decide), ins_ne D (show 3 ≠ 5 by decide), upd_self, upd_ne env10 x (show 3 ≠ 2 by decide), e4, e5, e2, hA.me, cond_true, cond_false, List.cons_append, List.nil_append, List.append_nil]) (fun x => rfl) (OpR.alloc rfl rfl (fun _ => rfl))
   refine OpsS.cons' true ?_ (fun _ _ _ _ _ _ _ => rfl) ?_
   · intro D env10 hA
     have e2 : D 2 = true := hA.yes 2 _ rfl rfl
     have e3 : D 3 = true := hA.yes 3 _ rfl rfl
     have e5 : D 5 = false := hA.no 5 _ rfl rfl
     exact OpS.yes (o0 := [.var b0 [.val (vn w5 0)] 142, .row (vn w5 0) (List.map byteD x4.2.2) 1 5, .var (blk p1) [.val (.slice none 0 0), .val (.int .i64 0), .val (.bool false)] 49, .var (blk p2) [.val (.slice none 0 0), .val (.int .i64 0), .val (.bool false)] 57, .var (blk p6) [.sl 2 (List.map e_arena_Span x4.1.fText.fL), .val (.int .i64 x4.1.fText.fN), .val (.int .i64 x4.1.fRaw.fAt), .val (.int .i64 x4.1.fRaw.fN), .val (.bool x4.1.fKept)] 108, .var (blk p8) [.val (.string (bs x7)), .val (.string (bs [])), .val (.bool false)] 112, .var (blk (env10 2)) [.val (.slice none 0 0), .val (.int .i64 0), .val (.bool false)] 49, .var (blk (env10 3)) [.val (.slice none 0 0), .val (.int .i64 0), .val (.bool false)] 57]) (o1 := fun x => [.var b0 [.val (vn w5 0)] 142, .row (vn w5 0) (List.map byteD x4.2.2) 1 5, .var (blk p1) [.val (.slice none 0 0), .val (.int .i64 0), .val (.bool false)] 49, .var (blk p2) [.val (.slice none 0 0), .val (.int .i64 0), .val (.bool false)] 57, .var (blk p6) [.sl 2 (List.map e_arena_Span x4.1.fText.fL), .val (.int .i64 x4.1.fText.fN), .val (.int .i64 x4.1.fRaw.fAt), .val (.int .i64 x4.1.fRaw.fN), .val (.bool x4.1.fKept)] 108, .var (blk p8) [.val (.string (bs x7)), .val (.string (bs [])), .val (.bool false)] 112, .var (blk (env10 2)) [.sl 5 (List.map e_cell_Cell a0.fCells), .val (.int .i64 a0.fEnd), .val (.bool a0.fHidden)] 49, .var (blk (env10 3)) [.val (.slice none 0 0), .val (.int .i64 0), .val (.bool false)] 57]) (d := fun x => .dead) (Want.plain rfl) (by first | rfl | simp only [e2, e3, e5, hA.me, cond_true, cond_false, List.cons_append, List.nil_append, List.append_nil]) (fun x => by first | rfl | simp only [ins_self, ins_ne D (show 4 ≠ 2 by decide), ins_ne D (show 4 ≠ 3 by decide), ins_ne D (show 4 ≠ 5 by decide), upd_self, upd_ne env10 x (show 4 ≠ 2 by decide), upd_ne env10 x (show 4 ≠ 3 by decide), e2, e3, e5, hA.me, cond_true, cond_false, List.cons_append, List.nil_append, List.append_nil]) (fun x => rfl) (OpR.store 6 rfl rfl rfl rfl rfl rfl rfl rfl)
   refine OpsS.cons' true ?_ (fun _ _ _ _ _ _ _ => rfl) ?_
   · intro D env10 hA
     have e2 : D 2 = true := hA.yes 2 _ rfl rfl
     have e3 : D 3 = true := hA.yes 3 _ rfl rfl
     have e4 : D 4 = true := hA.yes 4 _ rfl rfl
     exact OpS.yes (o0 := [.var b0 [.val (vn w5 0)] 142, .row (vn w5 0) (List.map byteD x4.2.2) 1 5, .var (blk p1) [.val (.slice none 0 0), .val (.int .i64 0), .val (.bool false)] 49, .var (blk p2) [.val (.slice none 0 0), .val (.int .i64 0), .val (.bool false)] 57, .var (blk p6) [.sl 2 (List.map e_arena_Span x4.1.fText.fL), .val (.int .i64 x4.1.fText.fN), .val (.int .i64 x4.1.fRaw.fAt), .val (.int .i64 x4.1.fRaw.fN), .val (.bool x4.1.fKept)] 108, .var (blk p8) [.val (.string (bs x7)), .val (.string (bs [])), .val (.bool false)] 112, .var (blk (env10 2)) [.sl 5 (List.map e_cell_Cell a0.fCells), .val (.int .i64 a0.fEnd), .val (.bool a0.fHidden)] 49, .var (blk (env10 3)) [.val (.slice none 0 0), .val (.int .i64 0), .val (.bool false)] 57]) (o1 := fun x => [.var b0 [.val (vn w5 0)] 142, .row (vn w5 0) (List.map byteD x4.2.2) 1 5, .var (blk p1) [.val (.slice none 0 0), .val (.int .i64 0), .val (.bool false)] 49, .var (blk p2) [.val (.slice none 0 0), .val (.int .i64 0), .val (.bool false)] 57, .var (blk p6) [.sl 2 (List.map e_arena_Span x4.1.fText.fL), .val (.int .i64 x4.1.fText.fN), .val (.int .i64 x4.1.fRaw.fAt), .val (.int .i64 x4.1.fRaw.fN), .val (.bool x4.1.fKept)] 108, .var (blk p8) [.val (.string (bs x7)), .val (.string (bs [])), .val (.bool false)] 112, .var (blk (env10 2)) [.sl 5 (List.map e_cell_Cell a0.fCells), .val (.int .i64 a0.fEnd), .val (.bool a0.fHidden)] 49, .var (blk (env10 3)) [.sl 3 (List.map e_ref07_Cell a1.fCells), .val (.int .i64 a1.fEnd), .val (.bool a1.fHidden)] 57]) (d := fun x => .dead) (Want.plain rfl) (by first | rfl | simp only [e2, e3, e4, hA.me, cond_true, cond_false, List.cons_append, List.nil_append, List.append_nil]) (fun x => by first | rfl | simp only [ins_self, ins_ne D (show 5 ≠ 2 by decide), ins_ne D (show 5 ≠ 3 by decide), ins_ne D (show 5 ≠ 4 by decide), upd_self, upd_ne env10 x (show 5 ≠ 2 by decide), upd_ne env10 x (show 5 ≠ 3 by decide), e2, e3, e4, hA.me, cond_true, cond_false, List.cons_append, List.nil_append, List.append_nil]) (fun x => rfl) (OpR.store 7 rfl rfl rfl rfl rfl rfl rfl rfl)
   exact trivial
 intro env10
 show T X _ _ _
 refine T.seq ?_
 refine T.region ?_
 refine TL.op1 (OpR.pure rfl) rfl ?_
 refine TL.nil ?_
 show T X _ _ _
 refine T.seq ?_
 refine T.seq ?_
 refine T.region ?_
 refine TL.op1 (OpR.pure rfl) rfl ?_
 refine TL.op1 (OpR.pure rfl) rfl ?_
 refine TL.nil ?_
 show T X _ _ _
 refine T.block ?_
 refine T.seq ?_
 refine T.seq ?_
 refine T.region ?_
 refine TL.op1 (OpR.pure rfl) rfl ?_
 refine TL.op1 (OpR.pure rfl) rfl ?_
 refine TL.nil ?_
 show T X _ _ _
 obtain ⟨t11, ht11, h0⟩ := bnd_some h0
 refine T.cutC (fun S' => S' = ⟨[(38, .val (.bool t11)), (37, .val (.int .i64 a2.fKind)), (16, .val (.int .i64 0)), (15, .val (.pointer (some ⟨(blk (env10 3)), 0, none⟩))), (14, .val (.pointer (some ⟨(blk (env10 2)), 0, none⟩))), (13, .val (.pointer (some ⟨(blk p8), 0, none⟩))), (12, .val (.int .i64 x4.2.1)), (11, .val (.pointer (some ⟨(blk p6), 0, none⟩))), (10, .val (.bool false)), (9, .val (.pointer (some ⟨(blk p2), 0, none⟩))), (8, .val (.pointer (some ⟨(blk p1), 0, none⟩))), (7, .nod [.val (.int .i64 a2.fKind), .val (.int .i64 a2.fI), .val (.int .i64 a2.fJ), .val (.string (bs a2.fS)), .val (.bool a2.fOn)]), (6, .nod [.sl 3 (List.map e_ref07_Cell a1.fCells), .val (.int .i64 a1.fEnd), .val (.bool a1.fHidden)]), (5, .nod [.sl 5 (List.map e_cell_Cell a0.fCells), .val (.int .i64 a0.fEnd), .val (.bool a0.fHidden)]), (0, .val (.pointer (some ⟨b0, 0, none⟩)))], [.var b0 [.val (vn w5 0)] 142, .row (vn w5 0) (List.map byteD x4.2.2) 1 5, .var (blk p1) [.val (.slice none 0 0), .val (.int .i64 0), .val (.bool false)] 49, .var (blk p2) [.val (.slice none 0 0), .val (.int .i64 0), .val (.bool false)] 57, .var (blk p6) [.sl 2 (List.map e_arena_Span x4.1.fText.fL), .val (.int .i64 x4.1.fText.fN), .val (.int .i64 x4.1.fRaw.fAt), .val (.int .i64 x4.1.fRaw.fN), .val (.bool x4.1.fKept)] 108, .var (blk p8) [.val (.string (bs x7)), .val (.string (bs [])), .val (.bool false)] 112, .var (blk (env10 2)) [.sl 5 (List.map e_cell_Cell a0.fCells), .val (.int .i64 a0.fEnd), .val (.bool a0.fHidden)] 49, .var (blk (env10 3)) [.sl 3 (List.map e_ref07_Cell a1.fCells), .val (.int .i64 a1.fEnd), .val (.bool a1.fHidden)] 57], 154⟩) (fun _ h => h) ?_ ?_
 · rcases ite_some ht11 with ⟨c12, ht11⟩ | ⟨c12, ht11⟩
   · refine T.condT rfl (beq_iff_eq.2 c12) ?_
     refine T.skip ?_
     obtain rfl := Option.some.inj ht11
     exact ⟨_, Gst.only [0, 5, 6, 7, 8, 9, 10, 11, 12, 13, 14, 15, 16, 37, 38] rfl, rfl⟩
   refine T.condF rfl (beq_eq_false_iff_ne.2 c12) ?_
   refine T.region ?_
   refine TL.op1 (OpR.pure rfl) rfl ?_
   refine TL.op1 (OpR.pure rfl) rfl ?_
   refine TL.nil ?_
   obtain rfl := Option.some.inj ht11
   exact ⟨_, Gst.only [0, 5, 6, 7, 8, 9, 10, 11, 12, 13, 14, 15, 16, 37, 38] rfl, rfl⟩
 rintro _ rfl
 show T X _ _ _
 obtain ⟨t13, ht13, h0⟩ := bnd_some h0
 refine T.cutC (fun S' => S' = ⟨[(16, .val (.int .i64 t13.2.1)), (15, .val (.pointer (some ⟨(blk (env10 3)), 0, none⟩))), (14, .val (.pointer (some ⟨(blk (env10 2)), 0, none⟩))), (12, .val (.int .i64 t13.1)), (10, .val (.bool false)), (9, .val (.pointer (some ⟨(blk p2), 0, none⟩))), (8, .val (.pointer (some ⟨(blk p1), 0, none⟩))), (6, .nod [.sl 3 (List.map e_ref07_Cell a1.fCells), .val (.int .i64 a1.fEnd), .val (.bool a1.fHidden)]), (5, .nod [.sl 5 (List.map e_cell_Cell a0.fCells), .val (.int .i64 a0.fEnd), .val (.bool a0.fHidden)]), (0, .val (.pointer (some ⟨b0, 0, none⟩)))], [.var b0 [.val (vn w5 0)] 142, .row (vn w5 0) (List.map byteD x4.2.2) 1 5, .var (blk p1) [.val (.slice none 0 0), .val (.int .i64 0), .val (.bool false)] 49, .var (blk p2) [.val (.slice none 0 0), .val (.int .i64 0), .val (.bool false)] 57, .var (blk (env10 2)) [.sl 5 (List.map e_cell_Cell t13.2.2.1), .val (.int .i64 t13.2.2.2.1), .val (.bool t13.2.2.2.2.1)] 49, .var (blk (env10 3)) [.sl 3 (List.map e_ref07_Cell t13.2.2.2.2.2.1), .val (.int .i64 t13.2.2.2.2.2.2.1), .val (.bool t13.2.2.2.2.2.2.2)] 57], 154⟩) (fun _ h => h) ?_ ?_
 · rcases ite_some ht13 with ⟨c14, ht13⟩ | ⟨c14, ht13⟩
   · refine T.condT rfl (c14) ?_
     refine T.seq ?_
     refine T.region ?_
     refine TL.op1 (OpR.pure rfl) rfl ?_
     refine TL.op1 (OpR.pure rfl) rfl ?_
     refine TL.op1 (OpR.pure rfl) rfl ?_
     refine TL.op1 (OpR.loadPtr 4 rfl rfl rfl rfl) rfl ?_
     obtain ⟨x15, hx15, ht13⟩ := bnd_some ht13
     refine TL.op1 (OpR.call0 fn74 (row_Row_Set_c hx15) rfl) rfl ?_
     refine TL.op1 (OpR.pure rfl) rfl ?_
     refine TL.op1 (OpR.pure rfl) rfl ?_
     refine TL.op1 (OpR.pure rfl) rfl ?_
     refine TL.op0 (OpR.store 6 rfl rfl rfl rfl rfl rfl rfl rfl) ?_
     refine TL.op1 (OpR.pure rfl) rfl ?_
     refine TL.nil ?_
     show T X _ _ _
     refine T.region ?_
     refine TL.op1 (OpR.pure rfl) rfl ?_
     refine TL.op1 (OpR.pure rfl) rfl ?_
     refine TL.op1 (OpR.pure rfl) rfl ?_
     refine TL.op1 (OpR.loadPtr 5 rfl rfl rfl rfl) rfl ?_
     obtain ⟨x16, hx16, ht13⟩ := bnd_some ht13
     refine TL.op1 (OpR.call0 fn95 (ref08_Set_c hx16) rfl) rfl ?_
     refine TL.op1 (OpR.pure rfl) rfl ?_
     refine TL.op1 (OpR.pure rfl) rfl ?_
     refine TL.op1 (OpR.pure rfl) rfl ?_
     refine TL.op0 (OpR.store 7 rfl rfl rfl rfl rfl rfl rfl rfl) ?_
     refine TL.op1 (OpR.pure rfl) rfl ?_
     refine TL.nil ?_
     obtain rfl := Option.some.inj ht13
     exact ⟨_, Gst.trans (Gst.only [0, 5, 6, 8, 9, 10, 12, 14, 15, 16] rfl) (Gst.pick [0, 1, 2, 3, 6, 7] rfl rfl), rfl⟩
   refine T.condF rfl (eq_false_of_ne_true c14) ?_
   refine T.seq ?_
   refine T.seq ?_
   refine T.region ?_
   refine TL.op1 (OpR.pure rfl) rfl ?_
   refine TL.op1 (OpR.pure rfl) rfl ?_
   refine TL.nil ?_
   show T X _ _ _
   obtain ⟨t17, ht17, ht13⟩ := bnd_some ht13
   refine T.cutC (fun S' => S' = ⟨[(57, .val (.bool t17)), (37, .val (.int .i64 a2.fKind)), (16, .val (.int .i64 0)), (15, .val (.pointer (some ⟨(blk (env10 3)), 0, none⟩))), (14, .val (.pointer (some ⟨(blk (env10 2)), 0, none⟩))), (13, .val (.pointer (some ⟨(blk p8), 0, none⟩))), (12, .val (.int .i64 x4.2.1)), (11, .val (.pointer (some ⟨(blk p6), 0, none⟩))), (10, .val (.bool false)), (9, .val (.pointer (some ⟨(blk p2), 0, none⟩))), (8, .val (.pointer (some ⟨(blk p1), 0, none⟩))), (7, .nod [.val (.int .i64 a2.fKind), .val (.int .i64 a2.fI), .val (.int .i64 a2.fJ), .val (.string (bs a2.fS)), .val (.bool a2.fOn)]), (6, .nod [.sl 3 (List.map e_ref07_Cell a1.fCells), .val (.int .i64 a1.fEnd), .val (.bool a1.fHidden)]), (5, .nod [.sl 5 (List.map e_cell_Cell a0.fCells), .val (.int .i64 a0.fEnd), .val (.bool a0.fHidden)]), (0, .val (.pointer (some ⟨b0, 0, none⟩)))], [.var b0 [.val (vn w5 0)] 142, .row (vn w5 0) (List.map byteD x4.2.2) 1 5, .var (blk p1) [.val (.slice none 0 0), .val (.int .i64 0), .val (.bool false)] 49, .var (blk p2) [.val (.slice none 0 0), .val (.int .i64 0), .val (.bool false)] 57, .var (blk p6) [.sl 2 (List.map e_arena_Span x4.1.fText.fL), .val (.int .i64 x4.1.fText.fN), .val (.int .i64 x4.1.fRaw.fAt), .val (.int .i64 x4.1.fRaw.fN), .val (.bool x4.1.fKept)] 108, .var (blk p8) [.val (.string (bs x7)), .val (.string (bs [])), .val (.bool false)] 112, .var (blk (env10 2)) [.sl 5 (List.map e_cell_Cell a0.fCells), .val (.int .i64 a0.fEnd), .val (.bool a0.fHidden)] 49, .var (blk (env10 3)) [.sl 3 (List.map e_ref07_Cell a1.fCells), .val (.int .i64 a1.fEnd), .val (.bool a1.fHidden)] 57], 154⟩) (fun _ h => h) ?_ ?_
   · rcases ite_some ht17 with ⟨c18, ht17⟩ | ⟨c18, ht17⟩
     · refine T.condT rfl (beq_iff_eq.2 c18) ?_
       refine T.skip ?_
       obtain rfl := Option.some.inj ht17
       exact ⟨_, Gst.only [0, 5, 6, 7, 8, 9, 10, 11, 12, 13, 14, 15, 16, 37, 57] rfl, rfl⟩
     refine T.condF rfl (beq_eq_false_iff_ne.2 c18) ?_
     refine T.region ?_
     refine TL.op1 (OpR.pure rfl) rfl ?_
     refine TL.op1 (OpR.pure rfl) rfl ?_
     refine TL.nil ?_
     obtain rfl := Option.some.inj ht17
     exact ⟨_, Gst.only [0, 5, 6, 7, 8, 9, 10, 11, 12, 13, 14, 15, 16, 37, 57] rfl, rfl⟩
   rintro _ rfl
   show T X _ _ _
   rcases ite_some ht13 with ⟨c19, ht13⟩ | ⟨c19, ht13⟩
   · refine T.condT rfl (c19) ?_
     refine T.seq ?_
     refine T.region ?_
     refine TL.op1 (OpR.pure rfl) rfl ?_
     refine TL.op1 (OpR.pure rfl) rfl ?_
     refine TL.op1 (OpR.pure rfl) rfl ?_
     refine TL.op1 (OpR.loadPtr 4 rfl rfl rfl rfl) rfl ?_
     obtain ⟨x20, hx20, ht13⟩ := bnd_some ht13
     refine TL.op1 (OpR.call0 fn59 (row_Row_Insert_c hx20) rfl) rfl ?_
     refine TL.op1 (OpR.pure rfl) rfl ?_
     refine TL.op1 (OpR.pure rfl) rfl ?_
     refine TL.op1 (OpR.pure rfl) rfl ?_
     refine TL.op0 (OpR.store 6 rfl rfl rfl rfl rfl rfl rfl rfl) ?_
     refine TL.op1 (OpR.pure rfl) rfl ?_
     refine TL.nil ?_
     show T X _ _ _
     refine T.region ?_
     refine TL.op1 (OpR.pure rfl) rfl ?_
     refine TL.op1 (OpR.pure rfl) rfl ?_
     refine TL.op1 (OpR.pure rfl) rfl ?_
     refine TL.op1 (OpR.loadPtr 5 rfl rfl rfl rfl) rfl ?_
     obtain ⟨x21, hx21, ht13⟩ := bnd_some ht13
     refine TL.op1 (OpR.call0 fn96 (ref08_Insert_c hx21) rfl) rfl ?_
     refine TL.op1 (OpR.pure rfl) rfl ?_
     refine TL.op1 (OpR.pure rfl) rfl ?_
     refine TL.op1 (OpR.pure rfl) rfl ?_
     refine TL.op0 (OpR.store 7 rfl rfl rfl rfl rfl rfl rfl rfl) ?_
     refine TL.op1 (OpR.pure rfl) rfl ?_
     refine TL.nil ?_
     obtain rfl := Option.some.inj ht13
     exact ⟨_, Gst.trans (Gst.only [0, 5, 6, 8, 9, 10, 12, 14, 15, 16] rfl) (Gst.pick [0, 1, 2, 3, 6, 7] rfl rfl), rfl⟩
   refine T.condF rfl (eq_false_of_ne_true c19) ?_
   refine T.seq ?_
   refine T.seq ?_
   refine T.region ?_
   refine TL.op1 (OpR.pure rfl) rfl ?_
   refine TL.op1 (OpR.pure rfl) rfl ?_
   refine TL.nil ?_
   show T X _ _ _
   obtain ⟨t22, ht22, ht13⟩ := bnd_some ht13
   refine T.cutC (fun S' => S' = ⟨[(76, .val (.bool t22)), (37, .val (.int .i64 a2.fKind)), (16, .val (.int .i64 0)), (15, .val (.pointer (some ⟨(blk (env10 3)), 0, none⟩))), (14, .val (.pointer (some ⟨(blk (env10 2)), 0, none⟩))), (12, .val (.int .i64 x4.2.1)), (10, .val (.bool false)), (9, .val (.pointer (some ⟨(blk p2), 0, none⟩))), (8, .val (.pointer (some ⟨(blk p1), 0, none⟩))), (7, .nod [.val (.int .i64 a2.fKind), .val (.int .i64 a2.fI), .val (.int .i64 a2.fJ), .val (.string (bs a2.fS)), .val (.bool a2.fOn)]), (6, .nod [.sl 3 (List.map e_ref07_Cell a1.fCells), .val (.int .i64 a1.fEnd), .val (.bool a1.fHidden)]), (5, .nod [.sl 5 (List.map e_cell_Cell a0.fCells), .val (.int .i64 a0.fEnd), .val (.bool a0.fHidden)]), (0, .val (.pointer (some ⟨b0, 0, none⟩)))], [.var b0 [.val (vn w5 0)] 142, .row (vn w5 0) (List.map byteD x4.2.2) 1 5, .var (blk p1) [.val (.slice none 0 0), .val (.int .i64 0), .val (.bool false)] 49, .var (blk p2) [.val (.slice none 0 0), .val (.int .i64 0), .val (.bool false)] 57, .var (blk (env10 2)) [.sl 5 (List.map e_cell_Cell a0.fCells), .val (.int .i64 a0.fEnd), .val (.bool a0.fHidden)] 49, .var (blk (env10 3)) [.sl 3 (List.map e_ref07_Cell a1.fCells), .val (.int .i64 a1.fEnd), .val (.bool a1.fHidden)] 57], 154⟩) (fun _ h => h) ?_ ?_
   · rcases ite_some ht22 with ⟨c23, ht22⟩ | ⟨c23, ht22⟩
     · refine T.condT rfl (beq_iff_eq.2 c23) ?_
       refine T.skip ?_
       obtain rfl := Option.some.inj ht22
       exact ⟨_, Gst.trans (Gst.only [0, 5, 6, 7, 8, 9, 10, 12, 14, 15, 16, 37, 76] rfl) (Gst.pick [0, 1, 2, 3, 6, 7] rfl rfl), rfl⟩
     refine T.condF rfl (beq_eq_false_iff_ne.2 c23) ?_
     refine T.region ?_
     refine TL.op1 (OpR.pure rfl) rfl ?_
     refine TL.op1 (OpR.pure rfl) rfl ?_
     refine TL.nil ?_
     obtain rfl := Option.some.inj ht22
     exact ⟨_, Gst.trans (Gst.only [0, 5, 6, 7, 8, 9, 10, 12, 14, 15, 16, 37, 76] rfl) (Gst.pick [0, 1, 2, 3, 6, 7] rfl rfl), rfl⟩
   rintro _ rfl
   show T X _ _ _
   rcases ite_some ht13 with ⟨c24, ht13⟩ | ⟨c24, ht13⟩
   · refine T.condT rfl (c24) ?_
     refine T.seq ?_
     refine T.region ?_
     refine TL.op1 (OpR.pure rfl) rfl ?_
     refine TL.op1 (OpR.pure rfl) rfl ?_
     refine TL.op1 (OpR.pure rfl) rfl ?_
     obtain ⟨x25, hx25, ht13⟩ := bnd_some ht13
     refine TL.op1 (OpR.call0 fn60 (row_Row_Delete_c hx25) rfl) rfl ?_
     refine TL.op1 (OpR.pure rfl) rfl ?_
     refine TL.op1 (OpR.pure rfl) rfl ?_
     refine TL.op1 (OpR.pure rfl) rfl ?_
     refine TL.op0 (OpR.store 4 rfl rfl rfl rfl rfl rfl rfl rfl) ?_
     refine TL.op1 (OpR.pure rfl) rfl ?_
     refine TL.nil ?_
     show T X _ _ _
     refine T.region ?_
     refine TL.op1 (OpR.pure rfl) rfl ?_
     refine TL.op1 (OpR.pure rfl) rfl ?_
     refine TL.op1 (OpR.pure rfl) rfl ?_
     obtain ⟨x26, hx26, ht13⟩ := bnd_some ht13
     refine TL.op1 (OpR.call0 fn97 (ref08_Delete_c hx26) rfl) rfl ?_
     refine TL.op1 (OpR.pure rfl) rfl ?_
     refine TL.op1 (OpR.pure rfl) rfl ?_
     refine TL.op1 (OpR.pure rfl) rfl ?_
     refine TL.op0 (OpR.store 5 rfl rfl rfl rfl rfl rfl rfl rfl) ?_
     refine TL.op1 (OpR.pure rfl) rfl ?_
     refine TL.nil ?_
     obtain rfl := Option.some.inj ht13
     exact ⟨_, Gst.only [0, 5, 6, 8, 9, 10, 12, 14, 15, 16] rfl, rfl⟩
   refine T.condF rfl (eq_false_of_ne_true c24) ?_
   refine T.seq ?_
   refine T.region ?_
   refine TL.op1 (OpR.pure rfl) rfl ?_
   refine TL.op1 (OpR.pure rfl) rfl ?_
   refine TL.nil ?_
   show T X _ _ _
   rcases ite_some ht13 with ⟨c27, ht13⟩ | ⟨c27, ht13⟩
   · refine T.condT rfl (beq_iff_eq.2 c27) ?_
     refine T.seq ?_
     refine T.region ?_
     refine TL.op1 (OpR.pure rfl) rfl ?_
     refine TL.op1 (OpR.pure rfl) rfl ?_
     refine TL.op1 (OpR.pure rfl) rfl ?_
     refine TL.op1 (OpR.pure rfl) rfl ?_
     refine TL.op1 (OpR.pure rfl) rfl ?_
     obtain ⟨x28, hx28, ht13⟩ := bnd_some ht13
     refine TL.op1 (OpR.call0 fn61 (row_Row_Move_c hx28) rfl) rfl ?_
     refine TL.op1 (OpR.pure rfl) rfl ?_
     refine TL.op1 (OpR.pure rfl) rfl ?_
     refine TL.op1 (OpR.pure rfl) rfl ?_
     refine TL.op0 (OpR.store 4 rfl rfl rfl rfl rfl rfl rfl rfl) ?_
     refine TL.op1 (OpR.pure rfl) rfl ?_
     refine TL.nil ?_
     show T X _ _ _
     refine T.region ?_
     refine TL.op1 (OpR.pure rfl) rfl ?_
     refine TL.op1 (OpR.pure rfl) rfl ?_
     refine TL.op1 (OpR.pure rfl) rfl ?_
     refine TL.op1 (OpR.pure rfl) rfl ?_
     refine TL.op1 (OpR.pure rfl) rfl ?_
     obtain ⟨x29, hx29, ht13⟩ := bnd_some ht13
     refine TL.op1 (OpR.call0 fn98 (ref08_Move_c hx29) rfl) rfl ?_
     refine TL.op1 (OpR.pure rfl) rfl ?_
     refine TL.op1 (OpR.pure rfl) rfl ?_
     refine TL.op1 (OpR.pure rfl) rfl ?_
     refine TL.op0 (OpR.store 5 rfl rfl rfl rfl rfl rfl rfl rfl) ?_
     refine TL.op1 (OpR.pure rfl) rfl ?_
     refine TL.nil ?_
     obtain rfl := Option.some.inj ht13
     exact ⟨_, Gst.only [0, 5, 6, 8, 9, 10, 12, 14, 15, 16] rfl, rfl⟩
   refine T.condF rfl (beq_eq_false_iff_ne.2 c27) ?_
   refine T.seq ?_
   refine T.region ?_
   refine TL.op1 (OpR.pure rfl) rfl ?_
   refine TL.op1 (OpR.pure rfl) rfl ?_
   refine TL.nil ?_
   show T X _ _ _
   rcases ite_some ht13 with ⟨c30, ht13⟩ | ⟨c30, ht13⟩
   rotate_left
   · refine T.condF rfl (beq_eq_false_iff_ne.2 c30) ?_
     refine T.seq ?_
     refine T.region ?_
     refine TL.op1 (OpR.pure rfl) rfl ?_
     refine TL.op1 (OpR.pure rfl) rfl ?_
     refine TL.nil ?_
     show T X _ _ _
     rcases ite_some ht13 with ⟨c34, ht13⟩ | ⟨c34, ht13⟩
     rotate_left
     · refine T.condF rfl (beq_eq_false_iff_ne.2 c34) ?_
       refine T.skip ?_
       obtain rfl := Option.some.inj ht13
       exact ⟨_, Gst.only [0, 5, 6, 8, 9, 10, 12, 14, 15, 16] rfl, rfl⟩
     refine T.condT rfl (beq_iff_eq.2 c34) ?_
     refine T.seq ?_
     refine T.region ?_
     refine TL.op1 (OpR.pure rfl) rfl ?_
     refine TL.op1 (OpR.pure rfl) rfl ?_
     refine TL.op1 (OpR.pure rfl) rfl ?_
     obtain ⟨x35, hx35, ht13⟩ := bnd_some ht13
     refine TL.op1 (OpR.call0 fn37 (row_Row_Hide_c hx35) rfl) rfl ?_
     refine TL.op0 (OpR.store 4 rfl rfl rfl rfl rfl rfl rfl rfl) ?_
     refine TL.nil ?_
     show T X _ _ _
     refine T.region ?_
     refine TL.op1 (OpR.pure rfl) rfl ?_
     refine TL.op1 (OpR.pure rfl) rfl ?_
     refine TL.op1 (OpR.pure rfl) rfl ?_
     refine TL.op0 (OpR.store 5 rfl rfl rfl rfl rfl rfl rfl rfl) ?_
     refine TL.nil ?_
     obtain rfl := Option.some.inj ht13
     exact ⟨_, Gst.only [0, 5, 6, 8, 9, 10, 12, 14, 15, 16] rfl, rfl⟩
   refine T.condT rfl (beq_iff_eq.2 c30) ?_
   obtain ⟨x32, hx32, ht13⟩ := bnd_some ht13
   obtain ⟨x33, hx33, ht13⟩ := bnd_some ht13
   refine T.drawS drawsX (fun env31 => [.agg [.sl 5 (List.map e_cell_Cell a0.fCells), .val (.int .i64 a0.fEnd), .val (.bool a0.fHidden)], .nod [.val (.int .i64 a2.fI), .val (.int .i64 a2.fJ), .val (.string (bs a2.fS)), .val (.bool a2.fOn)], .val (.int .i64 a2.fI), .agg [.val (vn (env31 3) 0), .val (.int .i64 x32.1), .val (.bool x32.2.1)], .agg [.sl 3 (List.map e_ref07_Cell a1.fCells), .val (.int .i64 a1.fEnd), .val (.bool a1.fHidden)], .nod [.val (.int .i64 a2.fI), .val (.int .i64 a2.fJ), .val (.string (bs a2.fS)), .val (.bool a2.fOn)], .val (.int .i64 a2.fI), .agg [.val (vn (env31 7) 0), .val (.int .i64 x33.1), .val (.bool x33.2.1)], .dead, .dead]) (fun D env31 => [.var b0 [.val (vn w5 0)] 142, .row (vn w5 0) (List.map byteD x4.2.2) 1 5, .var (blk p1) [.val (.slice none 0 0), .val (.int .i64 0), .val (.bool false)] 49, .var (blk p2) [.val (.slice none 0 0), .val (.int .i64 0), .val (.bool false)] 57, (bif D 8 then .var (blk (env10 2)) [.val (vn (env31 3) 0), .val (.int .i64 x32.1), .val (.bool x32.2.1)] 49 else .var (blk (env10 2)) [.sl 5 (List.map e_cell_Cell a0.fCells), .val (.int .i64 a0.fEnd), .val (.bool a0.fHidden)] 49), (bif D 9 then .var (blk (env10 3)) [.val (vn (env31 7) 0), .val (.int .i64 x33.1), .val (.bool x33.2.1)] 57 else .var (blk (env10 3)) [.sl 3 (List.map e_ref07_Cell a1.fCells), .val (.int .i64 a1.fEnd), .val (.bool a1.fHidden)] 57)] ++ (bif D 3 then [.row (vn (env31 3) 0) (List.map e_cell_Cell x32.2.2) 5 108] else []) ++ (bif D 7 then [.row (vn (env31 7) 0) (List.map e_ref07_Cell x33.2.2) 3 112] else [])) [0, 0, 2, 7, 0, 0, 32, 127, 255, 511] [0, 5, 6, 7, 8, 9, 10, 12, 14, 15, 16, 37, 76, 93, 94, 113, 114, 115, 116, 117, 118, 119, 120, 121, 122] (fun env31 => [.var b0 [.val (vn w5 0)] 142, .row (vn w5 0) (List.map byteD x4.2.2) 1 5, .var (blk p1) [.val (.slice none 0 0), .val (.int .i64 0), .val (.bool false)] 49, .var (blk p2) [.val (.slice none 0 0), .val (.int .i64 0), .val (.bool false)] 57, .var (blk (env10 2)) [.val (vn (env31 3) 0), .val (.int .i64 x32.1), .val (.bool x32.2.1)] 49, .var (blk (env10 3)) [.val (vn (env31 7) 0), .val (.int .i64 x33.1), .val (.bool x33.2.1)] 57, .row (vn (env31 3) 0) (List.map e_cell_Cell x32.2.2) 5 108, .row (vn (env31 7) 0) (List.map e_ref07_Cell x33.2.2) 3 112]) (by decide +kernel) (by decide +kernel) (fun _ => rfl) (fun _ => rfl) ?_ (fun _ => rfl) (fun _ => rfl) ?_
   rotate_left
   · intro env31
     obtain rfl := Option.some.inj ht13
     exact ⟨_, Gst.trans (Gst.only [0, 5, 6, 8, 9, 10, 12, 14, 15, 16] rfl) (Gst.trans (Gst.freezeRow 6 rfl rfl (ReS.cons Re.refl (ReS.cons Re.refl (ReS.cons Re.refl (ReS.cons Re.refl (ReS.cons Re.refl (ReS.cons Re.refl (ReS.cons Re.refl (ReS.cons Re.refl (ReS.cons Re.refl (ReS.cons Re.refl ReS.nil)))))))))) (ReO.same (ReO.same (ReO.same (ReO.same (ReO.var (ReL.cons (Re.base .all) (ReL.cons Re.refl (ReL.cons Re.refl ReL.nil))) (ReO.same (ReO.same (ReO.same ReO.nil))))))))) (Gst.trans (Gst.freezeRow 7 rfl rfl (ReS.cons Re.refl (ReS.cons Re.refl (ReS.cons Re.refl (ReS.cons Re.refl (ReS.cons Re.refl (ReS.cons Re.refl (ReS.cons Re.refl (ReS.cons Re.refl (ReS.cons Re.refl (ReS.cons Re.refl ReS.nil)))))))))) (ReO.same (ReO.same (ReO.same (ReO.same (ReO.same (ReO.var (ReL.cons (Re.base .all) (ReL.cons Re.refl (ReL.cons Re.refl ReL.nil))) (ReO.same (ReO.same ReO.nil))))))))) (Gst.pick [0, 1, 2, 3, 4, 5] rfl rfl))), rfl⟩
   refine oS (d := .agg [.sl 5 (List.map e_cell_Cell a0.fCells), .val (.int .i64 a0.fEnd), .val (.bool a0.fHidden)]) (fun _ => Want.plain rfl) (fun _ => rfl) (fun _ _ _ => rfl) (fun _ _ => OpR.pure rfl) (fun _ _ _ _ _ _ _ => rfl) ?_
   refine oS (d := .nod [.val (.int .i64 a2.fI), .val (.int .i64 a2.fJ), .val (.string (bs a2.fS)), .val (.bool a2.fOn)]) (fun _ => Want.plain rfl) (fun _ => rfl) (fun _ _ _ => rfl) (fun _ _ => OpR.pure rfl) (fun _ _ _ _ _ _ _ => rfl) ?_
   refine oS (d := .val (.int .i64 a2.fI)) (fun _ => Want.plain rfl) (fun _ => rfl) (fun _ _ _ => rfl) (fun _ _ => OpR.pure rfl) (fun _ _ _ _ _ _ _ => rfl) ?_
   refine OpsS.cons' true ?_ (fun D hA env31 x j hj hD => match j, hj, hD with | 0, _, _ => rfl | 1, _, _ => rfl | 2, _, _ => rfl | 3, hj, _ => absurd rfl hj | 4, _, _ => rfl | 5, _, _ => rfl | 6, _, _ => rfl | 7, _, _ => rfl | 8, _, _ => rfl | 9, _, _ => rfl | _ + 10, _, _ => rfl) ?_
   · intro D env31 hA
     have e7 : D 7 = false := hA.no 7 _ rfl rfl
     have e8 : D 8 = false := hA.no 8 _ rfl rfl
     have e9 : D 9 = false := hA.no 9 _ rfl rfl
     exact OpS.yes (o0 := [.var b0 [.val (vn w5 0)] 142, .row (vn w5 0) (List.map byteD x4.2.2) 1 5, .var (blk p1) [.val (.slice none 0 0), .val (.int .i64 0), .val (.bool false)] 49, .var (blk p2) [.val (.slice none 0 0), .val (.int .i64 0), .val (.bool false)] 57, .var (blk (env10 2)) [.sl 5 (List.map e_cell_Cell a0.fCells), .val (.int .i64 a0.fEnd), .val (.bool a0.fHidden)] 49, .var (blk (env10 3)) [.sl 3 (List.map e_ref07_Cell a1.fCells), .val (.int .i64 a1.fEnd), .val (.bool a1.fHidden)] 57]) (o1 := fun x => [.var b0 [.val (vn w5 0)] 142, .row (vn w5 0) (List.map byteD x4.2.2) 1 5, .var (blk p1) [.val (.slice none 0 0), .val (.int .i64 0), .val (.bool false)] 49, .var (blk p2) [.val (.slice none 0 0), .val (.int .i64 0), .val (.bool false)] 57, .var (blk (env10 2)) [.sl 5 (List.map e_cell_Cell a0.fCells), .val (.int .i64 a0.fEnd), .val (.bool a0.fHidden)] 49, .var (blk (env10 3)) [.sl 3 (List.map e_ref07_Cell a1.fCells), .val (.int .i64 a1.fEnd), .val (.bool a1.fHidden)] 57, .row (vn x 0) (List.map e_cell_Cell x32.2.2) 5 108]) (d := fun x => .agg [.val (vn x 0), .val (.int .i64 x32.1), .val (.bool x32.2.1)]) (Want.plain rfl) (by first | rfl | simp only [e7, e8, e9, hA.me, cond_true, cond_false, List.cons_append, List.nil_append, List.append_nil]) (fun x => by first | rfl | simp only [ins_self, ins_ne D (show 3 ≠ 7 by decide), ins_ne D (show 3 ≠ 8 by decide), ins_ne D (show 3 ≠ 9 by decide), upd_self, upd_ne env31 x (show 3 ≠ 7 by decide), e7, e8, e9, hA.me, cond_true, cond_false, List.cons_append, List.nil_append, List.append_nil]) (fun x => rfl) (OpR.call [] fn99 (row_Row_Pad_c hx32) rfl rfl rfl (fun _ => rfl))
   refine oS (d := .agg [.sl 3 (List.map e_ref07_Cell a1.fCells), .val (.int .i64 a1.fEnd), .val (.bool a1.fHidden)]) (fun _ => Want.plain rfl) (fun _ => rfl) (fun _ _ _ => rfl) (fun _ _ => OpR.pure rfl) (fun _ _ _ _ _ _ _ => rfl) ?_
   refine oS (d := .nod [.val (.int .i64 a2.fI), .val (.int .i64 a2.fJ), .val (.string (bs a2.fS)), .val (.bool a2.fOn)]) (fun _ => Want.plain rfl) (fun _ => rfl) (fun _ _ _ => rfl) (fun _ _ => OpR.pure rfl) (fun _ _ _ _ _ _ _ => rfl) ?_
   refine oS (d := .val (.int .i64 a2.fI)) (fun _ => Want.plain rfl) (fun _ => rfl) (fun _ _ _ => rfl) (fun _ _ => OpR.pure rfl) (fun _ _ _ _ _ _ _ => rfl) ?_
   refine OpsS.cons' true ?_ (fun D hA env31 x j hj hD => match j, hj, hD with | 0, _, _ => rfl | 1, _, _ => rfl | 2, _, _ => rfl | 3, _, _ => rfl | 4, _, _ => rfl | 5, _, _ => rfl | 6, _, _ => rfl | 7, hj, _ => absurd rfl hj | 8, _, _ => rfl | 9, _, _ => rfl | _ + 10, _, _ => rfl) ?_
   · intro D env31 hA
     have e3 : D 3 = true := hA.yes 3 _ rfl rfl
     have e8 : D 8 = false := hA.no 8 _ rfl rfl
     have e9 : D 9 = false := hA.no 9 _ rfl rfl
     exact OpS.yes (o0 := [.var b0 [.val (vn w5 0)] 142, .row (vn w5 0) (List.map byteD x4.2.2) 1 5, .var (blk p1) [.val (.slice none 0 0), .val (.int .i64 0), .val (.bool false)] 49, .var (blk p2) [.val (.slice none 0 0), .val (.int .i64 0), .val (.bool false)] 57, .var (blk (env10 2)) [.sl 5 (List.map e_cell_Cell a0.fCells), .val (.int .i64 a0.fEnd), .val (.bool a0.fHidden)] 49, .var (blk (env10 3)) [.sl 3 (List.map e_ref07_Cell a1.fCells), .val (.int .i64 a1.fEnd), .val (.bool a1.fHidden)] 57, .row (vn (env31 3) 0) (List.map e_cell_Cell x32.2.2) 5 108]) (o1 := fun x => [.var b0 [.val (vn w5 0)] 142, .row (vn w5 0) (List.map byteD x4.2.2) 1 5, .var (blk p1) [.val (.slice none 0 0), .val (.int .i64 0), .val (.bool false)] 49, .var (blk p2) [.val (.slice none 0 0), .val (.int .i64 0), .val (.bool false)] 57, .var (blk (env10 2)) [.sl 5 (List.map e_cell_Cell a0.fCells), .val (.int .i64 a0.fEnd), .val (.bool a0.fHidden)] 49, .var (blk (env10 3)) [.sl 3 (List.map e_ref07_Cell a1.fCells), .val (.int .i64 a1.fEnd), .val (.bool a1.fHidden)] 57, .row (vn (env31 3) 0) (List.map e_cell_Cell x32.2.2) 5 108, .row (vn x 0) (List.map e_ref07_Cell x33.2.2) 3 112]) (d := fun x => .agg [.val (vn x 0), .val (.int .i64 x33.1), .val (.bool x33.2.1)]) (Want.plain rfl) (by first | rfl | simp only [e3, e8, e9, hA.me, cond_true, cond_false, List.cons_append, List.nil_append, List.append_nil]) (fun x => by first | rfl | simp only [ins_self, ins_ne D (show 7 ≠ 3 by decide), ins_ne D (show 7 ≠ 8 by decide), ins_ne D (show 7 ≠ 9 by decide), upd_self, upd_ne env31 x (show 7 ≠ 3 by decide), e3, e8, e9, hA.me, cond_true, cond_false, List.cons_append, List.nil_append, List.append_nil]) (fun x => rfl) (OpR.call [] fn77 (ref08_Pad_c hx33) rfl rfl rfl (fun _ => rfl))
   refine OpsS.cons' true ?_ (fun _ _ _ _ _ _ _ => rfl) ?_
   · intro D env31 hA
     have e3 : D 3 = true := hA.yes 3 _ rfl rfl
     have e7 : D 7 = true := hA.yes 7 _ rfl rfl
     have e9 : D 9 = false := hA.no 9 _ rfl rfl
     exact OpS.yes (o0 := [.var b0 [.val (vn w5 0)] 142, .row (vn w5 0) (List.map byteD x4.2.2) 1 5, .var (blk p1) [.val (.slice none 0 0), .val (.int .i64 0), .val (.bool false)] 49, .var (blk p2) [.val (.slice none 0 0), .val (.int .i64 0), .val (.bool false)] 57, .var (blk (env10 2)) [.sl 5 (List.map e_cell_Cell a0.fCells), .val (.int .i64 a0.fEnd), .val (.bool a0.fHidden)] 49, .var (blk (env10 3)) [.sl 3 (List.map e_ref07_Cell a1.fCells), .val (.int .i64 a1.fEnd), .val (.bool a1.fHidden)] 57, .row (vn (env31 3) 0) (List.map e_cell_Cell x32.2.2) 5 108, .row (vn (env31 7) 0) (List.map e_ref07_Cell x33.2.2) 3 112]) (o1 := fun x => [.var b0 [.val (vn w5 0)] 142, .row (vn w5 0) (List.map byteD x4.2.2) 1 5, .var (blk p1) [.val (.slice none 0 0), .val (.int .i64 0), .val (.bool false)] 49, .var (blk p2) [.val (.slice none 0 0), .val (.int .i64 0), .val (.bool false)] 57, .var (blk (env10 2)) [.val (vn (env31 3) 0), .val (.int .i64 x32.1), .val (.bool x32.2.1)] 49, .var (blk (env10 3)) [.sl 3 (List.map e_ref07_Cell a1.fCells), .val (.int .i64 a1.fEnd), .val (.bool a1.fHidden)] 57, .row (vn (env31 3) 0) (List.map e_cell_Cell x32.2.2) 5 108, .row (vn (env31 7) 0) (List.map e_ref07_Cell x33.2.2) 3 112]) (d := fun x => .dead) (Want.plain rfl) (by first | rfl | simp only [e3, e7, e9, hA.me, cond_true, cond_false, List.cons_append, List.nil_append, List.append_nil]) (fun x => by first | rfl | simp only [ins_self, ins_ne D (show 8 ≠ 3 by decide), ins_ne D (show 8 ≠ 7 by decide), ins_ne D (show 8 ≠ 9 by decide), upd_self, upd_ne env31 x (show 8 ≠ 3 by decide), upd_ne env31 x (show 8 ≠ 7 by decide), e3, e7, e9, hA.me, cond_true, cond_false, List.cons_append, List.nil_append, List.append_nil]) (fun x => rfl) (OpR.store 4 rfl rfl rfl rfl rfl rfl rfl rfl)
   refine OpsS.cons' true ?_ (fun _ _ _ _ _ _ _ => rfl) ?_
   · intro D env31 hA
     have e3 : D 3 = true := hA.yes 3 _ rfl rfl
     have e7 : D 7 = true := hA.yes 7 _ rfl rfl
     have e8 : D 8 = true := hA.yes 8 _ rfl rfl
     exact OpS.yes (o0 := [.var b0 [.val (vn w5 0)] 142, .row (vn w5 0) (List.map byteD x4.2.2) 1 5, .var (blk p1) [.val (.slice none 0 0), .val (.int .i64 0), .val (.bool false)] 49, .var (blk p2) [.val (.slice none 0 0), .val (.int .i64 0), .val (.bool false)] 57, .var (blk (env10 2)) [.val (vn (env31 3) 0), .val (.int .i64 x32.1), .val (.bool x32.2.1)] 49, .var (blk (env10 3)) [.sl 3 (List.map e_ref07_Cell a1.fCells), .val (.int .i64 a1.fEnd), .val (.bool a1.fHidden)] 57, .row (vn (env31 3) 0) (List.map e_cell_Cell x32.2.2) 5 108, .row (vn (env31 7) 0) (List.map e_ref07_Cell x33.2.2) 3 112]) (o1 := fun x => [.var b0 [.val (vn w5 0)] 142, .row (vn w5 0) (List.map byteD x4.2.2) 1 5, .var (blk p1) [.val (.slice none 0 0), .val (.int .i64 0), .val (.bool false)] 49, .var (blk p2) [.val (.slice none 0 0), .val (.int .i64 0), .val (.bool false)] 57, .var (blk (env10 2)) [.val (vn (env31 3) 0), .val (.int .i64 x32.1), .val (.bool x32.2.1)] 49, .var (blk (env10 3)) [.val (vn (env31 7) 0), .val (.int .i64 x33.1), .val (.bool x33.2.1)] 57, .row (vn (env31 3) 0) (List.map e_cell_Cell x32.2.2) 5 108, .row (vn (env31 7) 0) (List.map e_ref07_Cell x33.2.2) 3 112]) (d := fun x => .dead) (Want.plain rfl) (by first | rfl | simp only [e3, e7, e8, hA.me, cond_true, cond_false, List.cons_append, List.nil_append, List.append_nil]) (fun x => by first | rfl | simp only [ins_self, ins_ne D (show 9 ≠ 3 by decide), ins_ne D (show 9 ≠ 7 by decide), ins_ne D (show 9 ≠ 8 by decide), upd_self, upd_ne env31 x (show 9 ≠ 3 by decide), upd_ne env31 x (show 9 ≠ 7 by decide), e3, e7, e8, hA.me, cond_true, cond_false, List.cons_append, List.nil_append, List.append_nil]) (fun x => rfl) (OpR.store 5 rfl rfl rfl rfl rfl rfl rfl rfl)
   exact trivial
 rintro _ rfl
 show T X _ _ _
 refine T.seq ?_
 refine T.seq ?_
 obtain ⟨t36, ht36, h0⟩ := bnd_some h0
 refine T.cutC (fun S' => S' = ⟨[(142, .val (.bool t36)), (15, .val (.pointer (some ⟨(blk (env10 3)), 0, none⟩))), (14, .val (.pointer (some ⟨(blk (env10 2)), 0, none⟩))), (12, .val (.int .i64 t13.1)), (10, .val (.bool false)), (9, .val (.pointer (some ⟨(blk p2), 0, none⟩))), (8, .val (.pointer (some ⟨(blk p1), 0, none⟩))), (6, .nod [.sl 3 (List.map e_ref07_Cell a1.fCells), .val (.int .i64 a1.fEnd), .val (.bool a1.fHidden)]), (5, .nod [.sl 5 (List.map e_cell_Cell a0.fCells), .val (.int .i64 a0.fEnd), .val (.bool a0.fHidden)])], [.var b0 [.val (vn w5 0)] 142, .row (vn w5 0) (List.map byteD x4.2.2) 1 5, .var (blk p1) [.val (.slice none 0 0), .val (.int .i64 0), .val (.bool false)] 49, .var (blk p2) [.val (.slice none 0 0), .val (.int .i64 0), .val (.bool false)] 57, .var (blk (env10 2)) [.sl 5 (List.map e_cell_Cell t13.2.2.1), .val (.int .i64 t13.2.2.2.1), .val (.bool t13.2.2.2.2.1)] 49, .var (blk (env10 3)) [.sl 3 (List.map e_ref07_Cell t13.2.2.2.2.2.1), .val (.int .i64 t13.2.2.2.2.2.2.1), .val (.bool t13.2.2.2.2.2.2.2)] 57], 154⟩) (fun _ h => h) ?_ ?_
 · rcases ite_some ht36 with ⟨c38, ht36⟩ | ⟨c38, ht36⟩
   rotate_left
   · refine T.drawQ drawsX [.val (.int .i64 t13.1), .val (.int .i64 t13.2.1), .val (.bool (!(t13.1 == t13.2.1))), .val (.bool (!(t13.1 == t13.2.1))), .tup [], .tup [], .tup [], .tup [], .tup [], .tup [], .val (.bool true)] [0, 5, 6, 8, 9, 10, 12, 14, 15, 16, 132, 133, 134, 135, 136, 137, 138, 139, 140, 141, 142] (by decide +kernel) rfl ?_ rfl ?_
     rotate_left
     · obtain rfl := Option.some.inj ht36
       exact ⟨_, Gst.only [5, 6, 8, 9, 10, 12, 14, 15, 142] rfl, rfl⟩
     refine OpsQ.yes (Want.plain rfl) rfl (OpR.pure rfl) ?_
     refine OpsQ.yes (Want.plain rfl) rfl (OpR.pure rfl) ?_
     refine OpsQ.yes (Want.plain rfl) rfl (OpR.pure rfl) ?_
     refine OpsQ.yes (Want.plain rfl) rfl (OpR.pure rfl) ?_
     refine OpsQ.no (Want.bool rfl rfl rfl rfl (by rw [(not_f (beq_eq_false_iff_ne.2 c38))]; rfl)) rfl ?_
     refine OpsQ.no (Want.bool rfl rfl rfl rfl (by rw [(not_f (beq_eq_false_iff_ne.2 c38))]; rfl)) rfl ?_
     refine OpsQ.no (Want.bool rfl rfl rfl rfl (by rw [(not_f (beq_eq_false_iff_ne.2 c38))]; rfl)) rfl ?_
     refine OpsQ.no (Want.bool rfl rfl rfl rfl (by rw [(not_f (beq_eq_false_iff_ne.2 c38))]; rfl)) rfl ?_
     refine OpsQ.no (Want.bool rfl rfl rfl rfl (by rw [(not_f (beq_eq_false_iff_ne.2 c38))]; rfl)) rfl ?_
     refine OpsQ.no (Want.bool rfl rfl rfl rfl (by rw [(not_f (beq_eq_false_iff_ne.2 c38))]; rfl)) rfl ?_
     refine OpsQ.yes (Want.plain rfl) rfl (OpR.pickT rfl (not_f (beq_eq_false_iff_ne.2 c38)) rfl) ?_
     exact OpsQ.nil
   obtain ⟨x39, hx39, ht36⟩ := bnd_some ht36
   obtain ⟨x40, hx40, ht36⟩ := bnd_some ht36
   refine T.drawQ drawsX [.val (.int .i64 t13.1), .val (.int .i64 t13.2.1), .val (.bool (!(t13.1 == t13.2.1))), .val (.bool (!(t13.1 == t13.2.1))), .val (.pointer (some ⟨b0, 0, none⟩)), .agg [.sl 5 (List.map e_cell_Cell a0.fCells), .val (.int .i64 a0.fEnd), .val (.bool a0.fHidden)], .agg [.sl 3 (List.map e_ref07_Cell x39.fCells), .val (.int .i64 x39.fEnd), .val (.bool x39.fHidden)], .agg [.sl 3 (List.map e_ref07_Cell a1.fCells), .val (.int .i64 a1.fEnd), .val (.bool a1.fHidden)], .val (.bool x40), .val (.bool (!x40)), .val (.bool (!x40))] [0, 5, 6, 8, 9, 10, 12, 14, 15, 16, 132, 133, 134, 135, 136, 137, 138, 139, 140, 141, 142] (by decide +kernel) rfl ?_ rfl ?_
   rotate_left
   · obtain rfl := Option.some.inj ht36
     exact ⟨_, Gst.only [5, 6, 8, 9, 10, 12, 14, 15, 142] rfl, rfl⟩
   refine OpsQ.yes (Want.plain rfl) rfl (OpR.pure rfl) ?_
   refine OpsQ.yes (Want.plain rfl) rfl (OpR.pure rfl) ?_
   refine OpsQ.yes (Want.plain rfl) rfl (OpR.pure rfl) ?_
   refine OpsQ.yes (Want.plain rfl) rfl (OpR.pure rfl) ?_
   refine OpsQ.yes (Want.bool rfl rfl rfl rfl (by rw [(not_t (beq_iff_eq.2 c38))]; rfl)) rfl (OpR.pure rfl) ?_
   refine OpsQ.yes (Want.bool rfl rfl rfl rfl (by rw [(not_t (beq_iff_eq.2 c38))]; rfl)) rfl (OpR.pure rfl) ?_
   refine OpsQ.yes (Want.bool rfl rfl rfl rfl (by rw [(not_t (beq_iff_eq.2 c38))]; rfl)) rfl (OpR.call [0, 1] fn31 (law08_Plain_c hx39) rfl rfl rfl (fun _ => rfl)) ?_
   refine OpsQ.yes (Want.bool rfl rfl rfl rfl (by rw [(not_t (beq_iff_eq.2 c38))]; rfl)) rfl (OpR.pure rfl) ?_
   refine OpsQ.yes (Want.bool rfl rfl rfl rfl (by rw [(not_t (beq_iff_eq.2 c38))]; rfl)) rfl (OpR.call0 fn30 (ref08_Same_c hx40) rfl) ?_
   refine OpsQ.yes (Want.bool rfl rfl rfl rfl (by rw [(not_t (beq_iff_eq.2 c38))]; rfl)) rfl (OpR.pure rfl) ?_
   refine OpsQ.yes (Want.plain rfl) rfl (OpR.pickF rfl (not_t (beq_iff_eq.2 c38)) rfl) ?_
   exact OpsQ.nil
 rintro _ rfl
 show T X _ _ _
 rcases ite_some h0 with ⟨c41, h0⟩ | ⟨c41, h0⟩
 · refine T.condT rfl (c41) ?_
   refine T.seq ?_
   refine T.drawS drawsX (fun env42 => [.agg [.sl 5 (List.map e_cell_Cell a0.fCells), .val (.int .i64 a0.fEnd), .val (.bool a0.fHidden)], .agg [.sl 3 (List.map e_ref07_Cell a1.fCells), .val (.int .i64 a1.fEnd), .val (.bool a1.fHidden)], .dead, .dead, .val (.bool false)]) (fun D env42 => [.var b0 [.val (vn w5 0)] 142, .row (vn w5 0) (List.map byteD x4.2.2) 1 5, (bif D 2 then .var (blk p1) [.sl 5 (List.map e_cell_Cell a0.fCells), .val (.int .i64 a0.fEnd), .val (.bool a0.fHidden)] 49 else .var (blk p1) [.val (.slice none 0 0), .val (.int .i64 0), .val (.bool false)] 49), (bif D 3 then .var (blk p2) [.sl 3 (List.map e_ref07_Cell a1.fCells), .val (.int .i64 a1.fEnd), .val (.bool a1.fHidden)] 57 else .var (blk p2) [.val (.slice none 0 0), .val (.int .i64 0), .val (.bool false)] 57), .var (blk (env10 2)) [.sl 5 (List.map e_cell_Cell t13.2.2.1), .val (.int .i64 t13.2.2.2.1), .val (.bool t13.2.2.2.2.1)] 49, .var (blk (env10 3)) [.sl 3 (List.map e_ref07_Cell t13.2.2.2.2.2.1), .val (.int .i64 t13.2.2.2.2.2.2.1), .val (.bool t13.2.2.2.2.2.2.2)] 57]) [0, 0, 1, 7, 15] [5, 6, 8, 9, 10, 12, 14, 15, 142, 143, 144] (fun env42 => [.var b0 [.val (vn w5 0)] 142, .row (vn w5 0) (List.map byteD x4.2.2) 1 5, .var (blk p1) [.sl 5 (List.map e_cell_Cell a0.fCells), .val (.int .i64 a0.fEnd), .val (.bool a0.fHidden)] 49, .var (blk p2) [.sl 3 (List.map e_ref07_Cell a1.fCells), .val (.int .i64 a1.fEnd), .val (.bool a1.fHidden)] 57, .var (blk (env10 2)) [.sl 5 (List.map e_cell_Cell t13.2.2.1), .val (.int .i64 t13.2.2.2.1), .val (.bool t13.2.2.2.2.1)] 49, .var (blk (env10 3)) [.sl 3 (List.map e_ref07_Cell t13.2.2.2.2.2.1), .val (.int .i64 t13.2.2.2.2.2.2.1), .val (.bool t13.2.2.2.2.2.2.2)] 57]) (by decide +kernel) (by decide +kernel) (fun _ => rfl) (fun _ => rfl) ?_ (fun _ => rfl) (fun _ => rfl) ?_
   rotate_left
   · intro env42
     show T X _ _ _
     refine T.ret ?_
     obtain rfl := Option.some.inj h0
     exact PostG.retP (ks := [0, 1]) (Gst.trans (Gst.only [8, 9, 10] rfl) (Gst.pick [0, 1, 2, 3] rfl rfl)) (.tuple #[(vn w5 0)]) (ResL.cons (ResV.var 2 rfl rfl rfl rfl) (ResL.cons (ResV.var 3 rfl rfl rfl rfl) (ResL.cons (ResV.tmp rfl) ResL.nil))) rfl rfl rfl rfl
   refine oS (d := .agg [.sl 5 (List.map e_cell_Cell a0.fCells), .val (.int .i64 a0.fEnd), .val (.bool a0.fHidden)]) (fun _ => Want.plain rfl) (fun _ => rfl) (fun _ _ _ => rfl) (fun _ _ => OpR.pure rfl) (fun _ _ _ _ _ _ _ => rfl) ?_
   refine oS (d := .agg [.sl 3 (List.map e_ref07_Cell a1.fCells), .val (.int .i64 a1.fEnd), .val (.bool a1.fHidden)]) (fun _ => Want.plain rfl) (fun _ => rfl) (fun _ _ _ => rfl) (fun _ _ => OpR.pure rfl) (fun _ _ _ _ _ _ _ => rfl) ?_
   refine OpsS.cons' true ?_ (fun _ _ _ _ _ _ _ => rfl) ?_
   · intro D env42 hA
     have e3 : D 3 = false := hA.no 3 _ rfl rfl
     exact OpS.yes (o0 := [.var b0 [.val (vn w5 0)] 142, .row (vn w5 0) (List.map byteD x4.2.2) 1 5, .var (blk p1) [.val (.slice none 0 0), .val (.int .i64 0), .val (.bool false)] 49, .var (blk p2) [.val (.slice none 0 0), .val (.int .i64 0), .val (.bool false)] 57, .var (blk (env10 2)) [.sl 5 (List.map e_cell_Cell t13.2.2.1), .val (.int .i64 t13.2.2.2.1), .val (.bool t13.2.2.2.2.1)] 49, .var (blk (env10 3)) [.sl 3 (List.map e_ref07_Cell t13.2.2.2.2.2.1), .val (.int .i64 t13.2.2.2.2.2.2.1), .val (.bool t13.2.2.2.2.2.2.2)] 57]) (o1 := fun x => [.var b0 [.val (vn w5 0)] 142, .row (vn w5 0) (List.map byteD x4.2.2) 1 5, .var (blk p1) [.sl 5 (List.map e_cell_Cell a0.fCells), .val (.int .i64 a0.fEnd), .val (.bool a0.fHidden)] 49, .var (blk p2) [.val (.slice none 0 0), .val (.int .i64 0), .val (.bool false)] 57, .var (blk (env10 2)) [.sl 5 (List.map e_cell_Cell t13.2.2.1), .val (.int .i64 t13.2.2.2.1), .val (.bool t13.2.2.2.2.1)] 49, .var (blk (env10 3)) [.sl 3 (List.map e_ref07_Cell t13.2.2.2.2.2.1), .val (.int .i64 t13.2.2.2.2.2.2.1), .val (.bool t13.2.2.2.2.2.2.2)] 57]) (d := fun x => .dead) (Want.plain rfl) (by first | rfl | simp only [e3, hA.me, cond_true, cond_false, List.cons_append, List.nil_append, List.append_nil]) (fun x => by first | rfl | simp only [ins_self, ins_ne D (show 2 ≠ 3 by decide), upd_self, e3, hA.me, cond_true, cond_false, List.cons_append, List.nil_append, List.append_nil]) (fun x => rfl) (OpR.store 2 rfl rfl rfl rfl rfl rfl rfl rfl)
   refine OpsS.cons' true ?_ (fun _ _ _ _ _ _ _ => rfl) ?_
   · intro D env42 hA
     have e2 : D 2 = true := hA.yes 2 _ rfl rfl
     exact OpS.yes (o0 := [.var b0 [.val (vn w5 0)] 142, .row (vn w5 0) (List.map byteD x4.2.2) 1 5, .var (blk p1) [.sl 5 (List.map e_cell_Cell a0.fCells), .val (.int .i64 a0.fEnd), .val (.bool a0.fHidden)] 49, .var (blk p2) [.val (.slice none 0 0), .val (.int .i64 0), .val (.bool false)] 57, .var (blk (env10 2)) [.sl 5 (List.map e_cell_Cell t13.2.2.1), .val (.int .i64 t13.2.2.2.1), .val (.bool t13.2.2.2.2.1)] 49, .var (blk (env10 3)) [.sl 3 (List.map e_ref07_Cell t13.2.2.2.2.2.1), .val (.int .i64 t13.2.2.2.2.2.2.1), .val (.bool t13.2.2.2.2.2.2.2)] 57]) (o1 := fun x => [.var b0 [.val (vn w5 0)] 142, .row (vn w5 0) (List.map byteD x4.2.2) 1 5, .var (blk p1) [.sl 5 (List.map e_cell_Cell a0.fCells), .val (.int .i64 a0.fEnd), .val (.bool a0.fHidden)] 49, .var (blk p2) [.sl 3 (List.map e_ref07_Cell a1.fCells), .val (.int .i64 a1.fEnd), .val (.bool a1.fHidden)] 57, .var (blk (env10 2)) [.sl 5 (List.map e_cell_Cell t13.2.2.1), .val (.int .i64 t13.2.2.2.1), .val (.bool t13.2.2.2.2.1)] 49, .var (blk (env10 3)) [.sl 3 (List.map e_ref07_Cell t13.2.2.2.2.2.1), .val (.int .i64 t13.2.2.2.2.2.2.1), .val (.bool t13.2.2.2.2.2.2.2)] 57]) (d := fun x => .dead) (Want.plain rfl) (by first | rfl | simp only [e2, hA.me, cond_true, cond_false, List.cons_append, List.nil_append, List.append_nil]) (fun x => by first | rfl | simp only [ins_self, ins_ne D (show 3 ≠ 2 by decide), upd_self, e2, hA.me, cond_true, cond_false, List.cons_append, List.nil_append, List.append_nil]) (fun x => rfl) (OpR.store 3 rfl rfl rfl rfl rfl rfl rfl rfl)
   refine oS (d := .val (.bool false)) (fun _ => Want.plain rfl) (fun _ => rfl) (fun _ _ _ => rfl) (fun _ _ => OpR.pure rfl) (fun _ _ _ _ _ _ _ => rfl) ?_
   exact trivial
 refine T.condF rfl (eq_false_of_ne_true c41) ?_
 refine T.skip ?_
 show T X _ _ _
 refine T.seq ?_
 refine T.seq ?_
 refine T.region ?_
 refine TL.op1 (OpR.pure rfl) rfl ?_
 refine TL.op1 (OpR.pure rfl) rfl ?_
 refine TL.nil ?_
 show T X _ _ _
 rcases ite_some h0 with ⟨c43, h0⟩ | ⟨c43, h0⟩
 · refine T.condF rfl (not_t (beq_iff_eq.2 c43)) ?_
   refine T.skip ?_
   show T X _ _ _
   refine T.seq ?_
   refine T.drawS drawsX (fun env44 => [.agg [.sl 5 (List.map e_cell_Cell t13.2.2.1), .val (.int .i64 t13.2.2.2.1), .val (.bool t13.2.2.2.2.1)], .agg [.sl 3 (List.map e_ref07_Cell t13.2.2.2.2.2.1), .val (.int .i64 t13.2.2.2.2.2.2.1), .val (.bool t13.2.2.2.2.2.2.2)], .dead, .dead, .val (.bool true)]) (fun D env44 => [.var b0 [.val (vn w5 0)] 142, .row (vn w5 0) (List.map byteD x4.2.2) 1 5, (bif D 2 then .var (blk p1) [.sl 5 (List.map e_cell_Cell t13.2.2.1), .val (.int .i64 t13.2.2.2.1), .val (.bool t13.2.2.2.2.1)] 49 else .var (blk p1) [.val (.slice none 0 0), .val (.int .i64 0), .val (.bool false)] 49), (bif D 3 then .var (blk p2) [.sl 3 (List.map e_ref07_Cell t13.2.2.2.2.2.1), .val (.int .i64 t13.2.2.2.2.2.2.1), .val (.bool t13.2.2.2.2.2.2.2)] 57 else .var (blk p2) [.val (.slice none 0 0), .val (.int .i64 0), .val (.bool false)] 57), .var (blk (env10 2)) [.sl 5 (List.map e_cell_Cell t13.2.2.1), .val (.int .i64 t13.2.2.2.1), .val (.bool t13.2.2.2.2.1)] 49, .var (blk (env10 3)) [.sl 3 (List.map e_ref07_Cell t13.2.2.2.2.2.1), .val (.int .i64 t13.2.2.2.2.2.2.1), .val (.bool t13.2.2.2.2.2.2.2)] 57]) [0, 0, 1, 7, 15] [5, 6, 8, 9, 10, 12, 14, 15, 142, 145, 146, 152, 153] (fun env44 => [.var b0 [.val (vn w5 0)] 142, .row (vn w5 0) (List.map byteD x4.2.2) 1 5, .var (blk p1) [.sl 5 (List.map e_cell_Cell t13.2.2.1), .val (.int .i64 t13.2.2.2.1), .val (.bool t13.2.2.2.2.1)] 49, .var (blk p2) [.sl 3 (List.map e_ref07_Cell t13.2.2.2.2.2.1), .val (.int .i64 t13.2.2.2.2.2.2.1), .val (.bool t13.2.2.2.2.2.2.2)] 57, .var (blk (env10 2)) [.sl 5 (List.map e_cell_Cell t13.2.2.1), .val (.int .i64 t13.2.2.2.1), .val (.bool t13.2.2.2.2.1)] 49, .var (blk (env10 3)) [.sl 3 (List.map e_ref07_Cell t13.2.2.2.2.2.1), .val (.int .i64 t13.2.2.2.2.2.2.1), .val (.bool t13.2.2.2.2.2.2.2)] 57]) (by decide +kernel) (by decide +kernel) (fun _ => rfl) (fun _ => rfl) ?_ (fun _ => rfl) (fun _ => rfl) ?_
   rotate_left
   · intro env44
     show T X _ _ _
     refine T.ret ?_
     obtain rfl := Option.some.inj h0
     exact PostG.retP (ks := [0, 1]) (Gst.trans (Gst.only [8, 9, 10] rfl) (Gst.pick [0, 1, 2, 3] rfl rfl)) (.tuple #[(vn w5 0)]) (ResL.cons (ResV.var 2 rfl rfl rfl rfl) (ResL.cons (ResV.var 3 rfl rfl rfl rfl) (ResL.cons (ResV.tmp rfl) ResL.nil))) rfl rfl rfl rfl
   refine oS (d := .agg [.sl 5 (List.map e_cell_Cell t13.2.2.1), .val (.int .i64 t13.2.2.2.1), .val (.bool t13.2.2.2.2.1)]) (fun _ => Want.plain rfl) (fun _ => rfl) (fun _ _ _ => rfl) (fun _ _ => OpR.loadPtr 4 rfl rfl rfl rfl) (fun _ _ _ _ _ _ _ => rfl) ?_
   refine oS (d := .agg [.sl 3 (List.map e_ref07_Cell t13.2.2.2.2.2.1), .val (.int .i64 t13.2.2.2.2.2.2.1), .val (.bool t13.2.2.2.2.2.2.2)]) (fun _ => Want.plain rfl) (fun _ => rfl) (fun _ _ _ => rfl) (fun _ _ => OpR.loadPtr 5 rfl rfl rfl rfl) (fun _ _ _ _ _ _ _ => rfl) ?_
   refine OpsS.cons' true ?_ (fun _ _ _ _ _ _ _ => rfl) ?_
   · intro D env44 hA
     have e3 : D 3 = false := hA.no 3 _ rfl rfl
     exact OpS.yes (o0 := [.var b0 [.val (vn w5 0)] 142, .row (vn w5 0) (List.map byteD x4.2.2) 1 5, .var (blk p1) [.val (.slice none 0 0), .val (.int .i64 0), .val (.bool false)] 49, .var (blk p2) [.val (.slice none 0 0), .val (.int .i64 0), .val (.bool false)] 57, .var (blk (env10 2)) [.sl 5 (List.map e_cell_Cell t13.2.2.1), .val (.int .i64 t13.2.2.2.1), .val (.bool t13.2.2.2.2.1)] 49, .var (blk (env10 3)) [.sl 3 (List.map e_ref07_Cell t13.2.2.2.2.2.1), .val (.int .i64 t13.2.2.2.2.2.2.1), .val (.bool t13.2.2.2.2.2.2.2)] 57]) (o1 := fun x => [.var b0 [.val (vn w5 0)] 142, .row (vn w5 0) (List.map byteD x4.2.2) 1 5, .var (blk p1) [.sl 5 (List.map e_cell_Cell t13.2.2.1), .val (.int .i64 t13.2.2.2.1), .val (.bool t13.2.2.2.2.1)] 49, .var (blk p2) [.val (.slice none 0 0), .val (.int .i64 0), .val (.bool false)] 57, .var (blk (env10 2)) [.sl 5 (List.map e_cell_Cell t13.2.2.1), .val (.int .i64 t13.2.2.2.1), .val (.bool t13.2.2.2.2.1)] 49, .var (blk (env10 3)) [.sl 3 (List.map e_ref07_Cell t13.2.2.2.2.2.1), .val (.int .i64 t13.2.2.2.2.2.2.1), .val (.bool t13.2.2.2.2.2.2.2)] 57]) (d := fun x => .dead) (Want.plain rfl) (by first | rfl | simp only [e3, hA.me, cond_true, cond_false, List.cons_append, List.nil_append, List.append_nil]) (fun x => by first | rfl | simp only [ins_self, ins_ne D (show 2 ≠ 3 by decide), upd_self, e3, hA.me, cond_true, cond_false, List.cons_append, List.nil_append, List.append_nil]) (fun x => rfl) (OpR.store 2 rfl rfl rfl rfl rfl rfl rfl rfl)
   refine OpsS.cons' true ?_ (fun _ _ _ _ _ _ _ => rfl) ?_
   · intro D env44 hA
     have e2 : D 2 = true := hA.yes 2 _ rfl rfl
     exact OpS.yes (o0 := [.var b0 [.val (vn w5 0)] 142, .row (vn w5 0) (List.map byteD x4.2.2) 1 5, .var (blk p1) [.sl 5 (List.map e_cell_Cell t13.2.2.1), .val (.int .i64 t13.2.2.2.1), .val (.bool t13.2.2.2.2.1)] 49, .var (blk p2) [.val (.slice none 0 0), .val (.int .i64 0), .val (.bool false)] 57, .var (blk (env10 2)) [.sl 5 (List.map e_cell_Cell t13.2.2.1), .val (.int .i64 t13.2.2.2.1), .val (.bool t13.2.2.2.2.1)] 49, .var (blk (env10 3)) [.sl 3 (List.map e_ref07_Cell t13.2.2.2.2.2.1), .val (.int .i64 t13.2.2.2.2.2.2.1), .val (.bool t13.2.2.2.2.2.2.2)] 57]) (o1 := fun x => [.var b0 [.val (vn w5 0)] 142, .row (vn w5 0) (List.map byteD x4.2.2) 1 5, .var (blk p1) [.sl 5 (List.map e_cell_Cell t13.2.2.1), .val (.int .i64 t13.2.2.2.1), .val (.bool t13.2.2.2.2.1)] 49, .var (blk p2) [.sl 3 (List.map e_ref07_Cell t13.2.2.2.2.2.1), .val (.int .i64 t13.2.2.2.2.2.2.1), .val (.bool t13.2.2.2.2.2.2.2)] 57, .var (blk (env10 2)) [.sl 5 (List.map e_cell_Cell t13.2.2.1), .val (.int .i64 t13.2.2.2.1), .val (.bool t13.2.2.2.2.1)] 49, .var (blk (env10 3)) [.sl 3 (List.map e_ref07_Cell t13.2.2.2.2.2.1), .val (.int .i64 t13.2.2.2.2.2.2.1), .val (.bool t13.2.2.2.2.2.2.2)] 57]) (d := fun x => .dead) (Want.plain rfl) (by first | rfl | simp only [e2, hA.me, cond_true, cond_false, List.cons_append, List.nil_append, List.append_nil]) (fun x => by first | rfl | simp only [ins_self, ins_ne D (show 3 ≠ 2 by decide), upd_self, e2, hA.me, cond_true, cond_false, List.cons_append, List.nil_append, List.append_nil]) (fun x => rfl) (OpR.store 3 rfl rfl rfl rfl rfl rfl rfl rfl)
   refine oS (d := .val (.bool true)) (fun _ => Want.plain rfl) (fun _ => rfl) (fun _ _ _ => rfl) (fun _ _ => OpR.pure rfl) (fun _ _ _ _ _ _ _ => rfl) ?_
   exact trivial
 refine T.condT rfl (not_f (beq_eq_false_iff_ne.2 c43)) ?_
 refine T.seq ?_
 obtain ⟨x46, hx46, h0⟩ := bnd_some h0
 refine T.drawS drawsX (fun env45 => [.agg [.sl 5 (List.map e_cell_Cell a0.fCells), .val (.int .i64 a0.fEnd), .val (.bool a0.fHidden)], .agg [.sl 3 (List.map e_ref07_Cell a1.fCells), .val (.int .i64 a1.fEnd), .val (.bool a1.fHidden)], .agg [.sl 5 (List.map e_cell_Cell t13.2.2.1), .val (.int .i64 t13.2.2.2.1), .val (.bool t13.2.2.2.2.1)], .val (.int .i64 x46), .val (.bool (x46 == 0)), .dead, .dead, .val (.bool (x46 == 0))]) (fun D env45 => [.var b0 [.val (vn w5 0)] 142, .row (vn w5 0) (List.map byteD x4.2.2) 1 5, (bif D 5 then .var (blk p1) [.sl 5 (List.map e_cell_Cell a0.fCells), .val (.int .i64 a0.fEnd), .val (.bool a0.fHidden)] 49 else .var (blk p1) [.val (.slice none 0 0), .val (.int .i64 0), .val (.bool false)] 49), (bif D 6 then .var (blk p2) [.sl 3 (List.map e_ref07_Cell a1.fCells), .val (.int .i64 a1.fEnd), .val (.bool a1.fHidden)] 57 else .var (blk p2) [.val (.slice none 0 0), .val (.int .i64 0), .val (.bool false)] 57), .var (blk (env10 2)) [.sl 5 (List.map e_cell_Cell t13.2.2.1), .val (.int .i64 t13.2.2.2.1), .val (.bool t13.2.2.2.2.1)] 49, .var (blk (env10 3)) [.sl 3 (List.map e_ref07_Cell t13.2.2.2.2.2.1), .val (.int .i64 t13.2.2.2.2.2.2.1), .val (.bool t13.2.2.2.2.2.2.2)] 57]) [0, 0, 0, 4, 12, 13, 47, 127] [5, 6, 8, 9, 10, 12, 14, 15, 142, 145, 146, 147, 148, 149, 150, 151] (fun env45 => [.var b0 [.val (vn w5 0)] 142, .row (vn w5 0) (List.map byteD x4.2.2) 1 5, .var (blk p1) [.sl 5 (List.map e_cell_Cell a0.fCells), .val (.int .i64 a0.fEnd), .val (.bool a0.fHidden)] 49, .var (blk p2) [.sl 3 (List.map e_ref07_Cell a1.fCells), .val (.int .i64 a1.fEnd), .val (.bool a1.fHidden)] 57, .var (blk (env10 2)) [.sl 5 (List.map e_cell_Cell t13.2.2.1), .val (.int .i64 t13.2.2.2.1), .val (.bool t13.2.2.2.2.1)] 49, .var (blk (env10 3)) [.sl 3 (List.map e_ref07_Cell t13.2.2.2.2.2.1), .val (.int .i64 t13.2.2.2.2.2.2.1), .val (.bool t13.2.2.2.2.2.2.2)] 57]) (by decide +kernel) (by decide +kernel) (fun _ => rfl) (fun _ => rfl) ?_ (fun _ => rfl) (fun _ => rfl) ?_
 rotate_left
 · intro env45
   show T X _ _ _
   refine T.ret ?_
   obtain rfl := Option.some.inj h0
   exact PostG.retP (ks := [0, 1]) (Gst.trans (Gst.only [8, 9, 10] rfl) (Gst.pick [0, 1, 2, 3] rfl rfl)) (.tuple #[(vn w5 0)]) (ResL.cons (ResV.var 2 rfl rfl rfl rfl) (ResL.cons (ResV.var 3 rfl rfl rfl rfl) (ResL.cons (ResV.tmp rfl) ResL.nil))) rfl rfl rfl rfl
 refine oS (d := .agg [.sl 5 (List.map e_cell_Cell a0.fCells), .val (.int .i64 a0.fEnd), .val (.bool a0.fHidden)]) (fun _ => Want.plain rfl) (fun _ => rfl) (fun _ _ _ => rfl) (fun _ _ => OpR.pure rfl) (fun _ _ _ _ _ _ _ => rfl) ?_
 refine oS (d := .agg [.sl 3 (List.map e_ref07_Cell a1.fCells), .val (.int .i64 a1.fEnd), .val (.bool a1.fHidden)]) (fun _ => Want.plain rfl) (fun _ => rfl) (fun _ _ _ => rfl) (fun _ _ => OpR.pure rfl) (fun _ _ _ _ _ _ _ => rfl) ?_
 refine oS (d := .agg [.sl 5 (List.map e_cell_Cell t13.2.2.1), .val (.int .i64 t13.2.2.2.1), .val (.bool t13.2.2.2.2.1)]) (fun _ => Want.plain rfl) (fun _ => rfl) (fun _ _ _ => rfl) (fun _ _ => OpR.loadPtr 4 rfl rfl rfl rfl) (fun _ _ _ _ _ _ _ => rfl) ?_
 refine oS (d := .val (.int .i64 x46)) (fun _ => Want.plain rfl) (fun _ => rfl) (fun _ _ _ => rfl) (fun _ _ => OpR.call0 fn52 (row_Row_Len_c hx46) rfl) (fun _ _ _ _ _ _ _ => rfl) ?_
 refine oS (d := .val (.bool (x46 == 0))) (fun _ => Want.plain rfl) (fun _ => rfl) (fun _ _ _ => rfl) (fun _ _ => OpR.pure rfl) (fun _ _ _ _ _ _ _ => rfl) ?_
 refine OpsS.cons' true ?_ (fun _ _ _ _ _ _ _ => rfl) ?_
 · intro D env45 hA
   have e6 : D 6 = false := hA.no 6 _ rfl rfl
   exact OpS.yes (o0 := [.var b0 [.val (vn w5 0)] 142, .row (vn w5 0) (List.map byteD x4.2.2) 1 5, .var (blk p1) [.val (.slice none 0 0), .val (.int .i64 0), .val (.bool false)] 49, .var (blk p2) [.val (.slice none 0 0), .val (.int .i64 0), .val (.bool false)] 57, .var (blk (env10 2)) [.sl 5 (List.map e_cell_Cell t13.2.2.1), .val (.int .i64 t13.2.2.2.1), .val (.bool t13.2.2.2.2.1)] 49, .var (blk (env10 3)) [.sl 3 (List.map e_ref07_Cell t13.2.2.2.2.2.1), .val (.int .i64 t13.2.2.2.2.2.2.1), .val (.bool t13.2.2.2.2.2.2.2)] 57]) (o1 := fun x => [.var b0 [.val (vn w5 0)] 142, .row (vn w5 0) (List.map byteD x4.2.2) 1 5, .var (blk p1) [.sl 5 (List.map e_cell_Cell a0.fCells), .val (.int .i64 a0.fEnd), .val (.bool a0.fHidden)] 49, .var (blk p2) [.val (.slice none 0 0), .val (.int .i64 0), .val (.bool false)] 57, .var (blk (env10 2)) [.sl 5 (List.map e_cell_Cell t13.2.2.1), .val (.int .i64 t13.2.2.2.1), .val (.bool t13.2.2.2.2.1)] 49, .var (blk (env10 3)) [.sl 3 (List.map e_ref07_Cell t13.2.2.2.2.2.1), .val (.int .i64 t13.2.2.2.2.2.2.1), .val (.bool t13.2.2.2.2.2.2.2)] 57]) (d := fun x => .dead) (Want.plain rfl) (by first | rfl | simp only [e6, hA.me, cond_true, cond_false, List.cons_append, List.nil_append, List.append_nil]) (fun x => by first | rfl | simp only [ins_self, ins_ne D (show 5 ≠ 6 by decide), upd_self, e6, hA.me, cond_true, cond_false, List.cons_append, List.nil_append, List.append_nil]) (fun x => rfl) (OpR.store 2 rfl rfl rfl rfl rfl rfl rfl rfl)
 refine OpsS.cons' true ?_ (fun _ _ _ _ _ _ _ => rfl) ?_
 · intro D env45 hA
   have e5 : D 5 = true := hA.yes 5 _ rfl rfl
   exact OpS.yes (o0 := [.var b0 [.val (vn w5 0)] 142, .row (vn w5 0) (List.map byteD x4.2.2) 1 5, .var (blk p1) [.sl 5 (List.map e_cell_Cell a0.fCells), .val (.int .i64 a0.fEnd), .val (.bool a0.fHidden)] 49, .var (blk p2) [.val (.slice none 0 0), .val (.int .i64 0), .val (.bool false)] 57, .var (blk (env10 2)) [.sl 5 (List.map e_cell_Cell t13.2.2.1), .val (.int .i64 t13.2.2.2.1), .val (.bool t13.2.2.2.2.1)] 49, .var (blk (env10 3)) [.sl 3 (List.map e_ref07_Cell t13.2.2.2.2.2.1), .val (.int .i64 t13.2.2.2.2.2.2.1), .val (.bool t13.2.2.2.2.2.2.2)] 57]) (o1 := fun x => [.var b0 [.val (vn w5 0)] 142, .row (vn w5 0) (List.map byteD x4.2.2) 1 5, .var (blk p1) [.sl 5 (List.map e_cell_Cell a0.fCells), .val (.int .i64 a0.fEnd), .val (.bool a0.fHidden)] 49, .var (blk p2) [.sl 3 (List.map e_ref07_Cell a1.fCells), .val (.int .i64 a1.fEnd), .val (.bool a1.fHidden)] 57, .var (blk (env10 2)) [.sl 5 (List.map e_cell_Cell t13.2.2.1), .val (.int .i64 t13.2.2.2.1), .val (.bool t13.2.2.2.2.1)] 49, .var (blk (env10 3)) [.sl 3 (List.map e_ref07_Cell t13.2.2.2.2.2.1), .val (.int .i64 t13.2.2.2.2.2.2.1), .val (.bool t13.2.2.2.2.2.2.2)] 57]) (d := fun x => .dead) (Want.plain rfl) (by first | rfl | simp only [e5, hA.me, cond_true, cond_false, List.cons_append, List.nil_append, List.append_nil]) (fun x => by first | rfl | simp only [ins_self, ins_ne D (show 6 ≠ 5 by decide), upd_self, e5, hA.me, cond_true, cond_false, List.cons_append, List.nil_append, List.append_nil]) (fun x => rfl) (OpR.store 3 rfl rfl rfl rfl rfl rfl rfl rfl)
 refine oS (d := .val (.bool (x46 == 0))) (fun _ => Want.plain rfl) (fun _ => rfl) (fun _ _ _ => rfl) (fun _ _ => OpR.pure rfl) (fun _ _ _ _ _ _ _ => rfl) ?_
 exact trivial
noncomputable def ref06_Needs.l1 (a0 : List UInt8) (s3 : Int) : Option (Lp Int (Ex Unit Bool)) :=
  if s3 < (a0.length : Int) then
    bnd (bnd (idx a0 s3) fun x13 =>
    if (x13.toNat : Int) = 44 then
      some true
    else
      if (x13.toNat : Int) = 34 then
        some true
      else
        if (x13.toNat : Int) = 13 then
          some true
        else
          some ((x13.toNat : Int) == 10) : Option Bool) fun t12 =>
    if t12 = true then
      some (Lp.done (Ex.ret true))
    else
      some (Lp.next (w64 (s3 + 1)))
  else
    some (Lp.done (Ex.brk ()))
noncomputable def ref06_Needs (a0 : List UInt8) : Option Bool :=
  bnd (loop (ref06_Needs.l1 a0) 0 : Option (Ex Unit Bool)) fun t1 => match t1 with
    | .brk u2 =>
      some false
    | .ret u2 => some u2
set_option maxHeartbeats 4000000 in
theorem ref06_Needs_c {a0 : List UInt8} {res : Bool} (h0 : ref06_Needs a0 = some res) : CallF X 188 [.val (.string (bs a0))] [] (fun x => .val (.bool res)) (fun x => []) := by
 unfold ref06_Needs at h0
 refine CallF.mkG (X := X) Try.func188 rfl rfl Try.ntmps188 rfl rfl ?_
 refine T.seq ?_
 refine T.region ?_
 refine TL.op1 (OpR.pure rfl) rfl ?_
 refine TL.nil ?_
 show T X _ _ _
 refine T.seq ?_
 refine T.seq ?_
 refine T.region ?_
 refine TL.op1 (OpR.pure rfl) rfl ?_
 refine TL.nil ?_
 show T X _ _ _
 obtain ⟨t1, ht1, h0⟩ := bnd_some h0
 refine T.cutC (fun S' => ∃ u2, t1 = Ex.brk u2 ∧ S' = ⟨[(2, .val (.bool false))], [], 32⟩) (fun _ h => h) ?_ ?_
 rotate_left
 · rintro _ ⟨u2, rfl, rfl⟩
   show T X _ _ _
   refine T.seq ?_
   refine T.region ?_
   refine TL.op1 (OpR.pure rfl) rfl ?_
   refine TL.nil ?_
   show T X _ _ _
   refine T.ret ?_
   obtain rfl := Option.some.inj h0
   exact PostG.retP (ks := []) (Gst.only [2] rfl) undef (ResL.cons (ResV.tmp rfl) ResL.nil) rfl rfl rfl rfl
 refine T.block ?_
 obtain ⟨n4, n9⟩ := loop_some ht1
 refine T.loop (fun n S' => ∃ S'', Gst S' S'' ∧ ∃ s3 : Int, S'' = ⟨[(3, .val (.int .i64 s3)), (2, .val (.bool false)), (0, .val (.string (bs a0)))], [], 32⟩ ∧ iter (ref06_Needs.l1 a0) n s3 = some t1) n4 ?_ ?_
 · exact ⟨_, Gst.only [0, 2, 3] rfl, 0, rfl, n9⟩
 rintro n4 _ ⟨_, g, s3, rfl, i8⟩
 refine T.ghost g ?_
 obtain ⟨m5, q6, rfl, q7, i8⟩ := iter_succ i8
 unfold ref06_Needs.l1 at q7
 refine T.seq ?_
 refine T.seq ?_
 refine T.region ?_
 refine TL.op1 (OpR.pure rfl) rfl ?_
 refine TL.op1 (OpR.pure rfl) rfl ?_
 refine TL.op1 (OpR.cast (OpR.pure rfl) (intE (lenS _))) rfl ?_
 refine TL.op1 (OpR.pure rfl) rfl ?_
 refine TL.nil ?_
 show T X _ _ _
 rcases ite_some q7 with ⟨c11, q7⟩ | ⟨c11, q7⟩
 rotate_left
 · refine T.condF rfl (decide_eq_false c11) ?_
   refine T.exit ?_
   obtain rfl := Option.some.inj q7
   obtain rfl : _ = _ := i8
   exact ⟨_, Gst.only [2] rfl, _, rfl, rfl⟩
 refine T.condT rfl (decide_eq_true c11) ?_
 refine T.skip ?_
 show T X _ _ _
 refine T.seq ?_
 refine T.block ?_
 refine T.seq ?_
 obtain ⟨t12, ht12, q7⟩ := bnd_some q7
 refine T.cutC (fun S' => S' = ⟨[(31, .val (.bool t12)), (3, .val (.int .i64 s3)), (2, .val (.bool false)), (0, .val (.string (bs a0)))], [], 32⟩) (fun _ h => h) ?_ ?_
 rotate_left
 · rintro _ rfl
   show T X _ _ _
   rcases ite_some q7 with ⟨c17, q7⟩ | ⟨c17, q7⟩
   rotate_left
   · refine T.condF rfl (eq_false_of_ne_true c17) ?_
     refine T.skip ?_
     show T X _ _ _
     refine T.region ?_
     refine TL.op1 (OpR.pure rfl) rfl ?_
     refine TL.op1 (OpR.pure rfl) rfl ?_
     refine TL.op1 (OpR.pure rfl) rfl ?_
     refine TL.nil ?_
     obtain rfl := Option.some.inj q7
     exact ⟨m5, Nat.lt_succ_self _, _, Gst.only [0, 2, 3] rfl, w64 (s3 + 1), rfl, i8⟩
   refine T.condT rfl (c17) ?_
   refine T.seq ?_
   refine T.region ?_
   refine TL.op1 (OpR.pure rfl) rfl ?_
   refine TL.nil ?_
   show T X _ _ _
   refine T.ret ?_
   obtain rfl := Option.some.inj q7
   obtain rfl : _ = _ := i8
   obtain rfl := Option.some.inj h0
   exact PostG.retP (ks := []) (Gst.only [2] rfl) undef (ResL.cons (ResV.tmp rfl) ResL.nil) rfl rfl rfl rfl
 refine T.region ?_
 refine TL.op1 (OpR.pure rfl) rfl ?_
 refine TL.op1 (OpR.pure rfl) rfl ?_
 obtain ⟨x13, hx13, ht12⟩ := bnd_some ht12
 refine TL.op1 (OpR.indexS hx13 rfl rfl rfl rfl) rfl ?_
 refine TL.op1 (OpR.pure rfl) rfl ?_
 refine TL.op1 (OpR.pure rfl) rfl ?_
 rcases ite_some ht12 with ⟨c14, ht12⟩ | ⟨c14, ht12⟩
 · refine TL.off rfl rfl rfl rfl (beq_iff_eq.2 c14) rfl rfl ?_
   refine TL.off rfl rfl rfl rfl (beq_iff_eq.2 c14) rfl rfl ?_
   refine TL.off rfl rfl rfl rfl (beq_iff_eq.2 c14) rfl rfl ?_
   refine TL.off rfl rfl rfl rfl (beq_iff_eq.2 c14) rfl rfl ?_
   refine TL.op1 (OpR.pickT rfl (beq_iff_eq.2 c14) rfl) rfl ?_
   refine TL.op1 (OpR.pure rfl) rfl ?_
   refine TL.off rfl rfl rfl rfl rfl rfl rfl ?_
   refine TL.off rfl rfl rfl rfl rfl rfl rfl ?_
   refine TL.off rfl rfl rfl rfl rfl rfl rfl ?_
   refine TL.off rfl rfl rfl rfl rfl rfl rfl ?_
   refine TL.op1 (OpR.pickT rfl rfl rfl) rfl ?_
   refine TL.op1 (OpR.pure rfl) rfl ?_
   refine TL.off rfl rfl rfl rfl rfl rfl rfl ?_
   refine TL.off rfl rfl rfl rfl rfl rfl rfl ?_
   refine TL.off rfl rfl rfl rfl rfl rfl rfl ?_
   refine TL.off rfl rfl rfl rfl rfl rfl rfl ?_
   refine TL.op1 (OpR.pickT rfl rfl rfl) rfl ?_
   refine TL.nil ?_
   obtain rfl := Option.some.inj ht12
   exact ⟨_, Gst.only [0, 2, 3, 31] rfl, rfl⟩
 refine TL.on rfl rfl rfl rfl (beq_eq_false_iff_ne.2 c14) ?_
 refine TL.op1 (OpR.pure rfl) rfl ?_
 refine TL.on rfl rfl rfl rfl (beq_eq_false_iff_ne.2 c14) ?_
 refine TL.op1 (OpR.pure rfl) rfl ?_
 refine TL.on rfl rfl rfl rfl (beq_eq_false_iff_ne.2 c14) ?_
 refine TL.op1 (OpR.indexS hx13 rfl rfl rfl rfl) rfl ?_
 refine TL.on rfl rfl rfl rfl (beq_eq_false_iff_ne.2 c14) ?_
 refine TL.op1 (OpR.pure rfl) rfl ?_
 refine TL.op1 (OpR.pickF rfl (beq_eq_false_iff_ne.2 c14) rfl) rfl ?_
 refine TL.op1 (OpR.pure rfl) rfl ?_
 rcases ite_some ht12 with ⟨c15, ht12⟩ | ⟨c15, ht12⟩
 · refine TL.off rfl rfl rfl rfl (beq_iff_eq.2 c15) rfl rfl ?_
   refine TL.off rfl rfl rfl rfl (beq_iff_eq.2 c15) rfl rfl ?_
   refine TL.off rfl rfl rfl rfl (beq_iff_eq.2 c15) rfl rfl ?_
   refine TL.off rfl rfl rfl rfl (beq_iff_eq.2 c15) rfl rfl ?_
   refine TL.op1 (OpR.pickT rfl (beq_iff_eq.2 c15) rfl) rfl ?_
   refine TL.op1 (OpR.pure rfl) rfl ?_
   refine TL.off rfl rfl rfl rfl rfl rfl rfl ?_
   refine TL.off rfl rfl rfl rfl rfl rfl rfl ?_
   refine TL.off rfl rfl rfl rfl rfl rfl rfl ?_
   refine TL.off rfl rfl rfl rfl rfl rfl rfl ?_
   refine TL.op1 (OpR.pickT rfl rfl rfl) rfl ?_
   refine TL.nil ?_
   obtain rfl := Option.some.inj ht12
   exact ⟨_, Gst.only [0, 2, 3, 31] rfl, rfl⟩
 refine TL.on rfl rfl rfl rfl (beq_eq_false_iff_ne.2 c15) ?_
 refine TL.op1 (OpR.pure rfl) rfl ?_
 refine TL.on rfl rfl rfl rfl (beq_eq_false_iff_ne.2 c15) ?_
 refine TL.op1 (OpR.pure rfl) rfl ?_
 refine TL.on rfl rfl rfl rfl (beq_eq_false_iff_ne.2 c15) ?_
 refine TL.op1 (OpR.indexS hx13 rfl rfl rfl rfl) rfl ?_
 refine TL.on rfl rfl rfl rfl (beq_eq_false_iff_ne.2 c15) ?_
 refine TL.op1 (OpR.pure rfl) rfl ?_
 refine TL.op1 (OpR.pickF rfl (beq_eq_false_iff_ne.2 c15) rfl) rfl ?_
 refine TL.op1 (OpR.pure rfl) rfl ?_
 rcases ite_some ht12 with ⟨c16, ht12⟩ | ⟨c16, ht12⟩
 · refine TL.off rfl rfl rfl rfl (beq_iff_eq.2 c16) rfl rfl ?_
   refine TL.off rfl rfl rfl rfl (beq_iff_eq.2 c16) rfl rfl ?_
   refine TL.off rfl rfl rfl rfl (beq_iff_eq.2 c16) rfl rfl ?_
   refine TL.off rfl rfl rfl rfl (beq_iff_eq.2 c16) rfl rfl ?_
   refine TL.op1 (OpR.pickT rfl (beq_iff_eq.2 c16) rfl) rfl ?_
   refine TL.nil ?_
   obtain rfl := Option.some.inj ht12
   exact ⟨_, Gst.only [0, 2, 3, 31] rfl, rfl⟩
 refine TL.on rfl rfl rfl rfl (beq_eq_false_iff_ne.2 c16) ?_
 refine TL.op1 (OpR.pure rfl) rfl ?_
 refine TL.on rfl rfl rfl rfl (beq_eq_false_iff_ne.2 c16) ?_
 refine TL.op1 (OpR.pure rfl) rfl ?_
 refine TL.on rfl rfl rfl rfl (beq_eq_false_iff_ne.2 c16) ?_
 refine TL.op1 (OpR.indexS hx13 rfl rfl rfl rfl) rfl ?_
 refine TL.on rfl rfl rfl rfl (beq_eq_false_iff_ne.2 c16) ?_
 refine TL.op1 (OpR.pure rfl) rfl ?_
 refine TL.op1 (OpR.pickF rfl (beq_eq_false_iff_ne.2 c16) rfl) rfl ?_
 refine TL.nil ?_
 obtain rfl := Option.some.inj ht12
 exact ⟨_, Gst.only [0, 2, 3, 31] rfl, rfl⟩
noncomputable def ref06_Put.l1 (a0 : List UInt8) (s4 : (List UInt8) × Int) : Option (Lp ((List UInt8) × Int) (List UInt8)) :=
  if s4.2 < (a0.length : Int) then
    bnd (cut a0 s4.2 (w64 (s4.2 + 1))) fun x13 =>
    bnd (catS s4.1 x13) fun x14 =>
    bnd (idx a0 s4.2) fun x15 =>
    bnd (if (x15.toNat : Int) = 34 then
      bnd (catS x14 [34]) fun x18 =>
      some x18
    else
      some x14 : Option (List UInt8)) fun t16 =>
    some (Lp.next (t16, w64 (s4.2 + 1)))
  else
    some (Lp.done s4.1)
noncomputable def ref06_Put (a0 : List UInt8) : Option (List UInt8) :=
  bnd (ref06_Needs a0) fun x1 =>
  if x1 = true then
    bnd (loop (ref06_Put.l1 a0) ([34], 0) : Option (List UInt8)) fun t3 =>
    bnd (catS t3 [34]) fun x19 =>
    some x19
  else
    some a0
set_option maxHeartbeats 4000000 in
theorem ref06_Put_c {a0 : List UInt8} {res : (List UInt8)} (h0 : ref06_Put a0 = some res) : CallF X 151 [.val (.string (bs a0))] [] (fun x => .val (.string (bs res))) (fun x => []) := by
 unfold ref06_Put at h0
 refine CallF.mkG (X := X) Try.func151 rfl rfl Try.ntmps151 rfl rfl ?_
 refine T.seq ?_
 refine T.region ?_
 refine TL.op1 (OpR.pure rfl) rfl ?_
 refine TL.nil ?_
 show T X _ _ _
 refine T.seq ?_
 refine T.seq ?_
 refine T.region ?_
 refine TL.op1 (OpR.pure rfl) rfl ?_
 obtain ⟨x1, hx1, h0⟩ := bnd_some h0
 refine TL.op1 (OpR.call0 fn188 (ref06_Needs_c hx1) rfl) rfl ?_
 refine TL.op1 (OpR.pure rfl) rfl ?_
 refine TL.nil ?_
 show T X _ _ _
 rcases ite_some h0 with ⟨c2, h0⟩ | ⟨c2, h0⟩
 rotate_left
 · refine T.condT rfl (not_f (eq_false_of_ne_true c2)) ?_
   refine T.seq ?_
   refine T.region ?_
   refine TL.op1 (OpR.pure rfl) rfl ?_
   refine TL.op1 (OpR.pure rfl) rfl ?_
   refine TL.nil ?_
   show T X _ _ _
   refine T.ret ?_
   obtain rfl := Option.some.inj h0
   exact PostG.retP (ks := []) (Gst.only [2] rfl) undef (ResL.cons (ResV.tmp rfl) ResL.nil) rfl rfl rfl rfl
 refine T.condF rfl (not_t (c2)) ?_
 refine T.skip ?_
 show T X _ _ _
 refine T.seq ?_
 refine T.region ?_
 refine TL.op1 (OpR.pure rfl) rfl ?_
 refine TL.nil ?_
 show T X _ _ _
 refine T.seq ?_
 refine T.seq ?_
 refine T.region ?_
 refine TL.op1 (OpR.pure rfl) rfl ?_
 refine TL.nil ?_
 show T X _ _ _
 obtain ⟨t3, ht3, h0⟩ := bnd_some h0
 refine T.cutC (fun S' => S' = ⟨[(3, .val (.string (bs t3))), (2, .val (.string (bs [])))], [], 30⟩) (fun _ h => h) ?_ ?_
 rotate_left
 · rintro _ rfl
   show T X _ _ _
   refine T.seq ?_
   refine T.region ?_
   refine TL.op1 (OpR.pure rfl) rfl ?_
   obtain ⟨x19, hx19, h0⟩ := bnd_some h0
   refine TL.op1 (OpR.concatM hx19 rfl rfl) rfl ?_
   refine TL.op1 (OpR.pure rfl) rfl ?_
   refine TL.nil ?_
   show T X _ _ _
   refine T.ret ?_
   obtain rfl := Option.some.inj h0
   exact PostG.retP (ks := []) (Gst.only [2] rfl) undef (ResL.cons (ResV.tmp rfl) ResL.nil) rfl rfl rfl rfl
 refine T.block ?_
 obtain ⟨n5, n10⟩ := loop_some ht3
 refine T.loop (fun n S' => ∃ S'', Gst S' S'' ∧ ∃ s4 : (List UInt8) × Int, S'' = ⟨[(4, .val (.int .i64 s4.2)), (3, .val (.string (bs s4.1))), (2, .val (.string (bs []))), (0, .val (.string (bs a0)))], [], 30⟩ ∧ iter (ref06_Put.l1 a0) n s4 = some t3) n5 ?_ ?_
 · exact ⟨_, Gst.only [0, 2, 3, 4] rfl, ([34], 0), rfl, n10⟩
 rintro n5 _ ⟨_, g, s4, rfl, i9⟩
 refine T.ghost g ?_
 obtain ⟨m6, q7, rfl, q8, i9⟩ := iter_succ i9
 unfold ref06_Put.l1 at q8
 refine T.seq ?_
 refine T.seq ?_
 refine T.region ?_
 refine TL.op1 (OpR.pure rfl) rfl ?_
 refine TL.op1 (OpR.pure rfl) rfl ?_
 refine TL.op1 (OpR.cast (OpR.pure rfl) (intE (lenS _))) rfl ?_
 refine TL.op1 (OpR.pure rfl) rfl ?_
 refine TL.nil ?_
 show T X _ _ _
 rcases ite_some q8 with ⟨c12, q8⟩ | ⟨c12, q8⟩
 rotate_left
 · refine T.condF rfl (decide_eq_false c12) ?_
   refine T.exit ?_
   obtain rfl := Option.some.inj q8
   obtain rfl : _ = _ := i9
   exact ⟨_, Gst.only [2, 3] rfl, rfl⟩
 refine T.condT rfl (decide_eq_true c12) ?_
 refine T.skip ?_
 show T X _ _ _
 refine T.seq ?_
 refine T.block ?_
 refine T.seq ?_
 refine T.region ?_
 refine TL.op1 (OpR.pure rfl) rfl ?_
 refine TL.op1 (OpR.pure rfl) rfl ?_
 refine TL.op1 (OpR.pure rfl) rfl ?_
 refine TL.op1 (OpR.pure rfl) rfl ?_
 refine TL.op1 (OpR.pure rfl) rfl ?_
 obtain ⟨x13, hx13, q8⟩ := bnd_some q8
 refine TL.op1 (OpR.sliceS hx13 rfl rfl rfl (BdM.some rfl) (BdM.some rfl)) rfl ?_
 obtain ⟨x14, hx14, q8⟩ := bnd_some q8
 refine TL.op1 (OpR.concatM hx14 rfl rfl) rfl ?_
 refine TL.op1 (OpR.pure rfl) rfl ?_
 refine TL.nil ?_
 show T X _ _ _
 refine T.seq ?_
 refine T.region ?_
 refine TL.op1 (OpR.pure rfl) rfl ?_
 refine TL.op1 (OpR.pure rfl) rfl ?_
 obtain ⟨x15, hx15, q8⟩ := bnd_some q8
 refine TL.op1 (OpR.indexS hx15 rfl rfl rfl rfl) rfl ?_
 refine TL.op1 (OpR.pure rfl) rfl ?_
 refine TL.nil ?_
 show T X _ _ _
 obtain ⟨t16, ht16, q8⟩ := bnd_some q8
 refine T.cutC (fun S' => S' = ⟨[(4, .val (.int .i64 s4.2)), (3, .val (.string (bs t16))), (2, .val (.string (bs []))), (0, .val (.string (bs a0)))], [], 30⟩) (fun _ h => h) ?_ ?_
 rotate_left
 · rintro _ rfl
   show T X _ _ _
   refine T.region ?_
   refine TL.op1 (OpR.pure rfl) rfl ?_
   refine TL.op1 (OpR.pure rfl) rfl ?_
   refine TL.op1 (OpR.pure rfl) rfl ?_
   refine TL.nil ?_
   obtain rfl := Option.some.inj q8
   exact ⟨m6, Nat.lt_succ_self _, _, Gst.only [0, 2, 3, 4] rfl, (t16, w64 (s4.2 + 1)), rfl, i9⟩
 rcases ite_some ht16 with ⟨c17, ht16⟩ | ⟨c17, ht16⟩
 rotate_left
 · refine T.condF rfl (beq_eq_false_iff_ne.2 c17) ?_
   refine T.skip ?_
   obtain rfl := Option.some.inj ht16
   exact ⟨_, Gst.only [0, 2, 3, 4] rfl, rfl⟩
 refine T.condT rfl (beq_iff_eq.2 c17) ?_
 refine T.region ?_
 refine TL.op1 (OpR.pure rfl) rfl ?_
 obtain ⟨x18, hx18, ht16⟩ := bnd_some ht16
 refine TL.op1 (OpR.concatM hx18 rfl rfl) rfl ?_
 refine TL.op1 (OpR.pure rfl) rfl ?_
 refine TL.nil ?_
 obtain rfl := Option.some.inj ht16
 exact ⟨_, Gst.only [0, 2, 3, 4] rfl, rfl⟩
noncomputable def ref07_Print (a0 : ref07_Cell) : Option (List UInt8) :=
  if a0.fKept = true then
    some a0.fRaw
  else
    bnd (ref06_Put a0.fS) fun x2 =>
    some x2
set_option maxHeartbeats 4000000 in
theorem ref07_Print_c {a0 : ref07_Cell} {res : (List UInt8)} (h0 : ref07_Print a0 = some res) : CallF X 100 [.agg [.val (.string (bs a0.fS)), .val (.string (bs a0.fRaw)), .val (.bool a0.fKept)]] [] (fun x => .val (.string (bs res))) (fun x => []) := by
 unfold ref07_Print at h0
 refine CallF.mkG (X := X) Try.func100 rfl rfl Try.ntmps100 rfl rfl ?_
 refine T.seq ?_
 refine T.region ?_
 refine TL.op1 (OpR.boxImm rfl rfl) rfl ?_
 refine TL.op1 (OpR.pure rfl) rfl ?_
 refine TL.nil ?_
 show T X _ _ _
 refine T.seq ?_
 refine T.seq ?_
 refine T.region ?_
 refine TL.op1 (OpR.pure rfl) rfl ?_
 refine TL.op1 (OpR.pure rfl) rfl ?_
 refine TL.nil ?_
 show T X _ _ _
 rcases ite_some h0 with ⟨c1, h0⟩ | ⟨c1, h0⟩
 · refine T.condT rfl (c1) ?_
   refine T.seq ?_
   refine T.region ?_
   refine TL.op1 (OpR.pure rfl) rfl ?_
   refine TL.op1 (OpR.pure rfl) rfl ?_
   refine TL.op1 (OpR.pure rfl) rfl ?_
   refine TL.nil ?_
   show T X _ _ _
   refine T.ret ?_
   obtain rfl := Option.some.inj h0
   exact PostG.retP (ks := []) (Gst.only [2] rfl) undef (ResL.cons (ResV.tmp rfl) ResL.nil) rfl rfl rfl rfl
 refine T.condF rfl (eq_false_of_ne_true c1) ?_
 refine T.skip ?_
 show T X _ _ _
 refine T.seq ?_
 refine T.region ?_
 refine TL.op1 (OpR.pure rfl) rfl ?_
 refine TL.op1 (OpR.pure rfl) rfl ?_
 obtain ⟨x2, hx2, h0⟩ := bnd_some h0
 refine TL.op1 (OpR.call0 fn151 (ref06_Put_c hx2) rfl) rfl ?_
 refine TL.op1 (OpR.pure rfl) rfl ?_
 refine TL.nil ?_
 show T X _ _ _
 refine T.ret ?_
 obtain rfl := Option.some.inj h0
 exact PostG.retP (ks := []) (Gst.only [2] rfl) undef (ResL.cons (ResV.tmp rfl) ResL.nil) rfl rfl rfl rfl
noncomputable def ref08_Print.l1 (a0 : ref08_Row) (s2 : (List UInt8) × Int) : Option (Lp ((List UInt8) × Int) (List UInt8)) :=
  if s2.2 < (a0.fCells.length : Int) then
    bnd (idx a0.fCells s2.2) fun x11 =>
    bnd (if s2.2 > 0 then
      bnd (catS s2.1 [44]) fun x15 =>
      some x15
    else
      some s2.1 : Option (List UInt8)) fun t13 =>
    bnd (ref07_Print x11) fun x16 =>
    bnd (catS t13 x16) fun x17 =>
    some (Lp.next (x17, w64 (s2.2 + 1)))
  else
    some (Lp.done s2.1)
noncomputable def ref08_Print (a0 : ref08_Row) : Option (List UInt8) :=
  bnd (loop (ref08_Print.l1 a0) ([], 0) : Option (List UInt8)) fun t1 =>
  some t1
set_option maxHeartbeats 4000000 in
theorem ref08_Print_c {a0 : ref08_Row} {res : (List UInt8)} (h0 : ref08_Print a0 = some res) : CallF X 51 [.agg [.sl 3 (List.map e_ref07_Cell a0.fCells), .val (.int .i64 a0.fEnd), .val (.bool a0.fHidden)]] [] (fun x => .val (.string (bs res))) (fun x => []) := by
 unfold ref08_Print at h0
 refine CallF.mkG (X := X) Try.func51 rfl rfl Try.ntmps51 rfl rfl ?_
 refine T.seq ?_
 refine T.region ?_
 refine TL.op1 (OpR.boxImm rfl rfl) rfl ?_
 refine TL.op1 (OpR.pure rfl) rfl ?_
 refine TL.nil ?_
 show T X _ _ _
 refine T.seq ?_
 refine T.region ?_
 refine TL.op1 (OpR.pure rfl) rfl ?_
 refine TL.nil ?_
 show T X _ _ _
 refine T.seq ?_
 refine T.seq ?_
 refine T.region ?_
 refine TL.op1 (OpR.pure rfl) rfl ?_
 refine TL.op1 (OpR.pure rfl) rfl ?_
 refine TL.op1 (OpR.cast (OpR.pure rfl) (intE (lenM _ _))) rfl ?_
 refine TL.op1 (OpR.pure rfl) rfl ?_
 refine TL.nil ?_
 show T X _ _ _
 obtain ⟨t1, ht1, h0⟩ := bnd_some h0
 refine T.cutC (fun S' => S' = ⟨[(3, .val (.string (bs t1))), (2, .val (.string (bs [])))], [], 24⟩) (fun _ h => h) ?_ ?_
 rotate_left
 · rintro _ rfl
   show T X _ _ _
   refine T.seq ?_
   refine T.region ?_
   refine TL.op1 (OpR.pure rfl) rfl ?_
   refine TL.op1 (OpR.pure rfl) rfl ?_
   refine TL.nil ?_
   show T X _ _ _
   refine T.ret ?_
   obtain rfl := Option.some.inj h0
   exact PostG.retP (ks := []) (Gst.only [2] rfl) undef (ResL.cons (ResV.tmp rfl) ResL.nil) rfl rfl rfl rfl
 refine T.block ?_
 obtain ⟨n3, n8⟩ := loop_some ht1
 refine T.loop (fun n S' => ∃ S'', Gst S' S'' ∧ ∃ s2 : (List UInt8) × Int, S'' = ⟨[(9, .val (.int .i64 s2.2)), (8, .val (.int .i64 (a0.fCells.length : Int))), (7, .sl 3 (List.map e_ref07_Cell a0.fCells)), (3, .val (.string (bs s2.1))), (2, .val (.string (bs [])))], [], 24⟩ ∧ iter (ref08_Print.l1 a0) n s2 = some t1) n3 ?_ ?_
 · exact ⟨_, Gst.only [2, 3, 7, 8, 9] rfl, ([], 0), rfl, n8⟩
 rintro n3 _ ⟨_, g, s2, rfl, i7⟩
 refine T.ghost g ?_
 obtain ⟨m4, q5, rfl, q6, i7⟩ := iter_succ i7
 unfold ref08_Print.l1 at q6
 refine T.seq ?_
 refine T.region ?_
 refine TL.op1 (OpR.pure rfl) rfl ?_
 refine TL.nil ?_
 show T X _ _ _
 refine T.seq ?_
 rcases ite_some q6 with ⟨c10, q6⟩ | ⟨c10, q6⟩
 rotate_left
 · refine T.condF rfl (decide_eq_false c10) ?_
   refine T.exit ?_
   obtain rfl := Option.some.inj q6
   obtain rfl : _ = _ := i7
   exact ⟨_, Gst.only [2, 3] rfl, rfl⟩
 refine T.condT rfl (decide_eq_true c10) ?_
 refine T.skip ?_
 show T X _ _ _
 refine T.seq ?_
 refine T.block ?_
 refine T.seq ?_
 refine T.region ?_
 refine TL.op1 (OpR.pure rfl) rfl ?_
 obtain ⟨x11, hx11, q6⟩ := bnd_some q6
 refine TL.op1 (OpR.indexM e_ref07_Cell hx11 rfl rfl rfl rfl rfl) rfl ?_
 refine TL.op1 (OpR.pure rfl) rfl ?_
 refine TL.op (OpR.alloc rfl rfl (fun _ => rfl)) rfl (fun p12 => ?_)
 refine TL.op1 (OpR.pure rfl) rfl ?_
 refine TL.op0 (OpR.store 0 rfl rfl rfl rfl rfl rfl rfl rfl) ?_
 refine TL.nil ?_
 show T X _ _ _
 refine T.seq ?_
 refine T.seq ?_
 refine T.region ?_
 refine TL.op1 (OpR.pure rfl) rfl ?_
 refine TL.op1 (OpR.pure rfl) rfl ?_
 refine TL.nil ?_
 show T X _ _ _
 obtain ⟨t13, ht13, q6⟩ := bnd_some q6
 refine T.cutC (fun S' => S' = ⟨[(9, .val (.int .i64 s2.2)), (8, .val (.int .i64 (a0.fCells.length : Int))), (7, .sl 3 (List.map e_ref07_Cell a0.fCells)), (5, .val (.pointer (some ⟨(blk p12), 0, none⟩))), (3, .val (.string (bs t13))), (2, .val (.string (bs [])))], [.var (blk p12) [.val (.string (bs x11.fS)), .val (.string (bs x11.fRaw)), .val (.bool x11.fKept)] 112], 24⟩) (fun _ h => h) ?_ ?_
 · rcases ite_some ht13 with ⟨c14, ht13⟩ | ⟨c14, ht13⟩
   rotate_left
   · refine T.condF rfl (decide_eq_false c14) ?_
     refine T.skip ?_
     obtain rfl := Option.some.inj ht13
     exact ⟨_, Gst.only [2, 3, 5, 7, 8, 9] rfl, rfl⟩
   refine T.condT rfl (decide_eq_true c14) ?_
   refine T.region ?_
   refine TL.op1 (OpR.pure rfl) rfl ?_
   obtain ⟨x15, hx15, ht13⟩ := bnd_some ht13
   refine TL.op1 (OpR.concatM hx15 rfl rfl) rfl ?_
   refine TL.op1 (OpR.pure rfl) rfl ?_
   refine TL.nil ?_
   obtain rfl := Option.some.inj ht13
   exact ⟨_, Gst.only [2, 3, 5, 7, 8, 9] rfl, rfl⟩
 rintro _ rfl
 show T X _ _ _
 refine T.region ?_
 refine TL.op1 (OpR.pure rfl) rfl ?_
 refine TL.op1 (OpR.loadPtr 0 rfl rfl rfl rfl) rfl ?_
 obtain ⟨x16, hx16, q6⟩ := bnd_some q6
 refine TL.op1 (OpR.call0 fn100 (ref07_Print_c hx16) rfl) rfl ?_
 obtain ⟨x17, hx17, q6⟩ := bnd_some q6
 refine TL.op1 (OpR.concatM hx17 rfl rfl) rfl ?_
 refine TL.op1 (OpR.pure rfl) rfl ?_
 refine TL.nil ?_
 show T X _ _ _
 refine T.region ?_
 refine TL.op1 (OpR.pure rfl) rfl ?_
 refine TL.op1 (OpR.pure rfl) rfl ?_
 refine TL.nil ?_
 obtain rfl := Option.some.inj q6
 exact ⟨m4, Nat.lt_succ_self _, _, Gst.trans (Gst.only [2, 3, 7, 8, 9] rfl) (Gst.pick [] rfl rfl), (x17, w64 (s2.2 + 1)), rfl, i7⟩
end Go.Proofs.Ytbcbggdgkdfciaa.S
