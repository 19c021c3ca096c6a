/- Printed by a program of this session's own (gen.py): Lean functions for Go functions, and the proofs that the Go code comes to their answers. -/
import Derived.Test.YtbcbggdgkdfciaaG1xa
import Derived.Test.YtbcbggdgkdfciaaG1xc
set_option maxHeartbeats 4000000
set_option linter.unusedVariables false
set_option linter.unusedSimpArgs false
set_option maxRecDepth 20000
namespace Go.Proofs.Ytbcbggdgkdfciaa.S
open Go Go.Sm
attribute [local irreducible] T TL OpR CallT iter loop
noncomputable def ref17_Every.l1 (a0 : List UInt8) (a1 : List UInt8) (s4 : Int × (List Int)) : Option (Lp (Int × (List Int)) (List Int)) :=
  if s4.1 < (a0.length : Int) then
    bnd (ref17_at a0 a1 s4.1) fun x13 =>
    bnd (if x13 = true then
      bnd (app 8 s4.2 [s4.1]) fun x17 =>
      some x17
    else
      some s4.2 : Option (List Int)) fun t14 =>
    some (Lp.next (w64 (s4.1 + 1), t14))
  else
    some (Lp.done s4.2)
noncomputable def ref17_Every (a0 : List UInt8) (a1 : List UInt8) : Option (List Int) :=
  bnd (loop (ref17_Every.l1 a0 a1) (0, []) : Option (List Int)) fun t1 =>
  some t1
theorem ref17_Every_c {a0 : List UInt8} {a1 : List UInt8} {res : (List Int)} (h0 : ref17_Every a0 a1 = some res) : CallF X 17 [.val (.string (bs a0)), .val (.string (bs a1))] [] (fun x => .sl 1 (List.map (eI .i64) res)) (fun x => []) := by
 unfold ref17_Every at h0
 refine CallF.mkG (X := X) rfl Try.func17 rfl rfl Try.ntmps17 rfl rfl ?_
 refine aS ?_
 refine aA rfl rfl ?_
 refine aN rfl ?_
 refine aS ?_
 refine aA rfl rfl ?_
 refine aN rfl ?_
 refine T.seq ?_
 refine aS ?_
 refine aA rfl rfl ?_
 refine TL.op1 (OpR.cast (OpR.pure rfl) (intE (lenS _))) rfl ?_
 refine aA rfl rfl ?_
 refine aN rfl ?_
 obtain ⟨t1, ht1, h0⟩ := bS h0
 refine T.cutC (fun S' => ∃ y2 : Value, S' = ⟨[(5, .val y2), (4, .val (.slice none 0 0))], [.row y2 (List.map (eI .i64) t1) 1 3], 22⟩) (fun _ h => h) ?_ ?_
 rotate_left
 · rintro _ ⟨y2, rfl⟩
   show T X _ _ _
   refine aS ?_
   iterate 2 refine aA rfl rfl ?_
   refine aN rfl ?_
   refine T.ret ?_
   obtain rfl := Option.some.inj h0
   exact PostG.retP (ks := []) (Gst.trans (Gst.only [4] rfl) (Gst.trans (Gst.freezeRow 0 rfl rfl (ReS.cons (Re.base .all) ReS.nil) (ReO.same ReO.nil)) (Gst.pick [] rfl rfl))) undef (cT rfl ResL.nil) rfl rfl rfl rfl
 refine T.block ?_
 obtain ⟨n5, n10⟩ := loop_some ht1
 refine T.loop (fun n S' => ∃ S'', Gst S' S'' ∧ ∃ y3 : Value, ∃ s4 : Int × (List Int), S'' = ⟨[(9, (dN s4.1)), (8, (dN (a0.length : Int))), (5, .val y3), (4, .val (.slice none 0 0)), (1, .val (.string (bs a1))), (0, .val (.string (bs a0)))], [.row y3 (List.map (eI .i64) s4.2) 1 3], 22⟩ ∧ iter (ref17_Every.l1 a0 a1) n s4 = some t1) n5 ?_ ?_
 · exact ⟨_, Gst.trans (Gst.only [0, 1, 4, 5, 8, 9] rfl) (Gst.nilRow (ow := []) 1 3 rfl), (.slice none 0 0), (0, []), rfl, n10⟩
 rintro n5 _ ⟨_, g, y3, s4, rfl, i9⟩
 refine T.ghost g ?_
 obtain ⟨m6, q7, rfl, q8, i9⟩ := iter_succ i9
 unfold ref17_Every.l1 at q8
 refine aS ?_
 refine aA rfl rfl ?_
 refine aN rfl ?_
 refine T.seq ?_
 rcases ite_some q8 with ⟨c12, q8⟩ | ⟨c12, q8⟩
 rotate_left
 · refine T.condF rfl (decide_eq_false c12) ?_
   refine T.exit ?_
   obtain rfl := Option.some.inj q8
   obtain rfl : _ = _ := i9
   exact ⟨_, Gst.only [4, 5] rfl, y3, rfl⟩
 refine T.condT rfl (decide_eq_true c12) ?_
 refine aK rfl ?_
 refine T.seq ?_
 refine T.block ?_
 refine aS ?_
 iterate 2 refine aA rfl rfl ?_
 refine aN rfl ?_
 refine aS ?_
 iterate 3 refine aA rfl rfl ?_
 obtain ⟨x13, hx13, q8⟩ := bS q8
 refine TL.op1 (OpR.call0 fn62 (ref17_at_c hx13) rfl) rfl ?_
 refine aN rfl ?_
 obtain ⟨t14, ht14, q8⟩ := bS q8
 refine T.cutC (fun S' => ∃ y15 : Value, S' = ⟨[(9, (dN s4.1)), (8, (dN (a0.length : Int))), (5, .val y15), (4, .val (.slice none 0 0)), (1, .val (.string (bs a1))), (0, .val (.string (bs a0)))], [.row y15 (List.map (eI .i64) t14) 1 3], 22⟩) (fun _ h => h) ?_ ?_
 rotate_left
 · rintro _ ⟨y15, rfl⟩
   show T X _ _ _
   refine T.region ?_
   iterate 2 refine aA rfl rfl ?_
   refine TL.nil ?_
   obtain rfl := Option.some.inj q8
   exact ⟨m6, Nat.lt_succ_self _, _, Gst.only [0, 1, 4, 5, 8, 9] rfl, y15, (w64 (s4.1 + 1), t14), rfl, i9⟩
 rcases ite_some ht14 with ⟨c16, ht14⟩ | ⟨c16, ht14⟩
 rotate_left
 · refine T.condF rfl (eq_false_of_ne_true c16) ?_
   refine T.skip ?_
   obtain rfl := Option.some.inj ht14
   exact ⟨_, Gst.only [0, 1, 4, 5, 8, 9] rfl, y3, rfl⟩
 refine T.condT rfl (c16) ?_
 refine T.region ?_
 iterate 2 refine aA rfl rfl ?_
 refine TL.op1 (OpR.lit rfl rfl rfl rfl rfl rfl rfl) rfl ?_
 obtain ⟨x17, hx17, ht14⟩ := bS ht14
 refine TL.op (OpR.appendM (m := [s4.1]) (eI .i64) 0 hx17 rfl rfl rfl rfl rfl rfl rfl rfl rfl (fun _ => rfl)) rfl (fun v18 => ?_)
 refine aA rfl rfl ?_
 refine TL.nil ?_
 obtain rfl := Option.some.inj ht14
 exact ⟨_, Gst.only [0, 1, 4, 5, 8, 9] rfl, v18, rfl⟩
noncomputable def ref17_Apart.l1 (a0 : List UInt8) (a1 : List UInt8) (s4 : Int × (List Int)) : Option (Lp (Int × (List Int)) (List Int)) :=
  if s4.1 < (a0.length : Int) then
    bnd (ref17_at a0 a1 s4.1) fun x13 =>
    bnd (if x13 = true then
      bnd (app 8 s4.2 [s4.1]) fun x17 =>
      some (w64 ((w64 (s4.1 + (a1.length : Int))) - 1), x17)
    else
      some (s4.1, s4.2) : Option (Int × (List Int))) fun t14 =>
    some (Lp.next (w64 (t14.1 + 1), t14.2))
  else
    some (Lp.done s4.2)
noncomputable def ref17_Apart (a0 : List UInt8) (a1 : List UInt8) : Option (List Int) :=
  bnd (loop (ref17_Apart.l1 a0 a1) (0, []) : Option (List Int)) fun t1 =>
  some t1
theorem ref17_Apart_c {a0 : List UInt8} {a1 : List UInt8} {res : (List Int)} (h0 : ref17_Apart a0 a1 = some res) : CallF X 19 [.val (.string (bs a0)), .val (.string (bs a1))] [] (fun x => .sl 1 (List.map (eI .i64) res)) (fun x => []) := by
 unfold ref17_Apart at h0
 refine CallF.mkG (X := X) rfl Try.func19 rfl rfl Try.ntmps19 rfl rfl ?_
 refine aS ?_
 refine aA rfl rfl ?_
 refine aN rfl ?_
 refine aS ?_
 refine aA rfl rfl ?_
 refine aN rfl ?_
 refine T.seq ?_
 refine aS ?_
 refine aA rfl rfl ?_
 refine aN rfl ?_
 obtain ⟨t1, ht1, h0⟩ := bS h0
 refine T.cutC (fun S' => ∃ y2 : Value, S' = ⟨[(5, .val y2), (4, .val (.slice none 0 0))], [.row y2 (List.map (eI .i64) t1) 1 3], 27⟩) (fun _ h => h) ?_ ?_
 rotate_left
 · rintro _ ⟨y2, rfl⟩
   show T X _ _ _
   refine aS ?_
   iterate 2 refine aA rfl rfl ?_
   refine aN rfl ?_
   refine T.ret ?_
   obtain rfl := Option.some.inj h0
   exact PostG.retP (ks := []) (Gst.trans (Gst.only [4] rfl) (Gst.trans (Gst.freezeRow 0 rfl rfl (ReS.cons (Re.base .all) ReS.nil) (ReO.same ReO.nil)) (Gst.pick [] rfl rfl))) undef (cT rfl ResL.nil) rfl rfl rfl rfl
 refine T.block ?_
 obtain ⟨n5, n10⟩ := loop_some ht1
 refine T.loop (fun n S' => ∃ S'', Gst S' S'' ∧ ∃ y3 : Value, ∃ s4 : Int × (List Int), S'' = ⟨[(6, (dN s4.1)), (5, .val y3), (4, .val (.slice none 0 0)), (1, .val (.string (bs a1))), (0, .val (.string (bs a0)))], [.row y3 (List.map (eI .i64) s4.2) 1 3], 27⟩ ∧ iter (ref17_Apart.l1 a0 a1) n s4 = some t1) n5 ?_ ?_
 · exact ⟨_, Gst.trans (Gst.only [0, 1, 4, 5, 6] rfl) (Gst.nilRow (ow := []) 1 3 rfl), (.slice none 0 0), (0, []), rfl, n10⟩
 rintro n5 _ ⟨_, g, y3, s4, rfl, i9⟩
 refine T.ghost g ?_
 obtain ⟨m6, q7, rfl, q8, i9⟩ := iter_succ i9
 unfold ref17_Apart.l1 at q8
 refine T.seq ?_
 refine aS ?_
 iterate 2 refine aA rfl rfl ?_
 refine TL.op1 (OpR.cast (OpR.pure rfl) (intE (lenS _))) rfl ?_
 refine aA rfl rfl ?_
 refine aN rfl ?_
 rcases ite_some q8 with ⟨c12, q8⟩ | ⟨c12, q8⟩
 rotate_left
 · refine T.condF rfl (decide_eq_false c12) ?_
   refine T.exit ?_
   obtain rfl := Option.some.inj q8
   obtain rfl : _ = _ := i9
   exact ⟨_, Gst.only [4, 5] rfl, y3, rfl⟩
 refine T.condT rfl (decide_eq_true c12) ?_
 refine aK rfl ?_
 refine T.seq ?_
 refine T.block ?_
 refine aS ?_
 iterate 3 refine aA rfl rfl ?_
 obtain ⟨x13, hx13, q8⟩ := bS q8
 refine TL.op1 (OpR.call0 fn62 (ref17_at_c hx13) rfl) rfl ?_
 refine aN rfl ?_
 obtain ⟨t14, ht14, q8⟩ := bS q8
 refine T.cutC (fun S' => ∃ y15 : Value, S' = ⟨[(6, (dN t14.1)), (5, .val y15), (4, .val (.slice none 0 0)), (1, .val (.string (bs a1))), (0, .val (.string (bs a0)))], [.row y15 (List.map (eI .i64) t14.2) 1 3], 27⟩) (fun _ h => h) ?_ ?_
 rotate_left
 · rintro _ ⟨y15, rfl⟩
   show T X _ _ _
   refine T.region ?_
   iterate 3 refine aA rfl rfl ?_
   refine TL.nil ?_
   obtain rfl := Option.some.inj q8
   exact ⟨m6, Nat.lt_succ_self _, _, Gst.only [0, 1, 4, 5, 6] rfl, y15, (w64 (t14.1 + 1), t14.2), rfl, i9⟩
 rcases ite_some ht14 with ⟨c16, ht14⟩ | ⟨c16, ht14⟩
 rotate_left
 · refine T.condF rfl (eq_false_of_ne_true c16) ?_
   refine T.skip ?_
   obtain rfl := Option.some.inj ht14
   exact ⟨_, Gst.only [0, 1, 4, 5, 6] rfl, y3, rfl⟩
 refine T.condT rfl (c16) ?_
 refine aS ?_
 iterate 2 refine aA rfl rfl ?_
 refine TL.op1 (OpR.lit rfl rfl rfl rfl rfl rfl rfl) rfl ?_
 obtain ⟨x17, hx17, ht14⟩ := bS ht14
 refine TL.op (OpR.appendM (m := [s4.1]) (eI .i64) 0 hx17 rfl rfl rfl rfl rfl rfl rfl rfl rfl (fun _ => rfl)) rfl (fun v18 => ?_)
 refine aA rfl rfl ?_
 refine aN rfl ?_
 refine T.region ?_
 iterate 2 refine aA rfl rfl ?_
 refine TL.op1 (OpR.cast (OpR.pure rfl) (intE (lenS _))) rfl ?_
 iterate 3 refine aA rfl rfl ?_
 refine TL.nil ?_
 obtain rfl := Option.some.inj ht14
 exact ⟨_, Gst.only [0, 1, 4, 5, 6] rfl, v18, rfl⟩
noncomputable def ref17_First.l1 (a2 : Int) (x1 : (List Int)) (s4 : Int) : Option (Lp Int (Ex Unit Int)) :=
  if s4 < (x1.length : Int) then
    bnd (idx x1 s4) fun x13 =>
    if x13 ≥ a2 then
      some (Lp.done (Ex.ret x13))
    else
      some (Lp.next (w64 (s4 + 1)))
  else
    some (Lp.done (Ex.brk ()))
noncomputable def ref17_First (a0 : List UInt8) (a1 : List UInt8) (a2 : Int) : Option Int :=
  bnd (ref17_Every a0 a1) fun x1 =>
  bnd (loop (ref17_First.l1 a2 x1) 0 : Option (Ex Unit Int)) fun t2 => match t2 with
    | .brk u3 =>
      some (-1)
    | .ret u3 => some u3
theorem ref17_First_c {a0 : List UInt8} {a1 : List UInt8} {a2 : Int} {res : Int} (h0 : ref17_First a0 a1 a2 = some res) : CallF X 21 [.val (.string (bs a0)), .val (.string (bs a1)), dN a2] [] (fun x => (dN res)) (fun x => []) := by
 unfold ref17_First at h0
 refine CallF.mkG (X := X) rfl Try.func21 rfl rfl Try.ntmps21 rfl rfl ?_
 refine aS ?_
 refine aA rfl rfl ?_
 refine aN rfl ?_
 refine T.seq ?_
 refine aS ?_
 iterate 2 refine aA rfl rfl ?_
 obtain ⟨x1, hx1, h0⟩ := bS h0
 refine TL.op1 (OpR.call0 fn17 (ref17_Every_c hx1) rfl) rfl ?_
 refine TL.op1 (OpR.cast (OpR.pure rfl) (intE (lenM _ _))) rfl ?_
 refine aA rfl rfl ?_
 refine aN rfl ?_
 obtain ⟨t2, ht2, h0⟩ := bS h0
 refine T.cutC (fun S' => ∃ u3, t2 = Ex.brk u3 ∧ S' = ⟨[(6, (dN 0))], [], 22⟩) (fun _ h => h) ?_ ?_
 rotate_left
 · rintro _ ⟨u3, rfl, rfl⟩
   show T X _ _ _
   refine aS ?_
   refine aA rfl rfl ?_
   refine aN rfl ?_
   refine T.ret ?_
   obtain rfl := Option.some.inj h0
   exact rO [] [6] rfl undef (cT rfl ResL.nil) rfl rfl rfl rfl
 refine T.block ?_
 obtain ⟨n5, n10⟩ := loop_some ht2
 refine T.loop (fun n S' => ∃ S'', Gst S' S'' ∧ ∃ s4 : Int, S'' = ⟨[(13, (dN s4)), (12, (dN (x1.length : Int))), (11, .sl 1 (List.map (eI .i64) x1)), (6, (dN 0)), (2, (dN a2))], [], 22⟩ ∧ iter (ref17_First.l1 a2 x1) n s4 = some t2) n5 ?_ ?_
 · exact ⟨_, Gst.only [2, 6, 11, 12, 13] rfl, 0, rfl, n10⟩
 rintro n5 _ ⟨_, g, s4, rfl, i9⟩
 refine T.ghost g ?_
 obtain ⟨m6, q7, rfl, q8, i9⟩ := iter_succ i9
 unfold ref17_First.l1 at q8
 refine aS ?_
 refine aA rfl rfl ?_
 refine aN rfl ?_
 refine T.seq ?_
 rcases ite_some q8 with ⟨c12, q8⟩ | ⟨c12, q8⟩
 rotate_left
 · refine T.condF rfl (decide_eq_false c12) ?_
   refine T.exit ?_
   obtain rfl := Option.some.inj q8
   obtain rfl : _ = _ := i9
   exact ⟨_, Gst.only [6] rfl, _, rfl, rfl⟩
 refine T.condT rfl (decide_eq_true c12) ?_
 refine aK rfl ?_
 refine T.seq ?_
 refine T.block ?_
 refine aS ?_
 obtain ⟨x13, hx13, q8⟩ := bS q8
 refine TL.op1 (OpR.indexM (eI .i64) hx13 rfl rfl rfl rfl rfl) rfl ?_
 iterate 2 refine aA rfl rfl ?_
 refine aN rfl ?_
 refine aS ?_
 iterate 3 refine aA rfl rfl ?_
 refine aN rfl ?_
 rcases ite_some q8 with ⟨c14, q8⟩ | ⟨c14, q8⟩
 rotate_left
 · refine T.condF rfl (decide_eq_false c14) ?_
   refine aK rfl ?_
   refine T.region ?_
   iterate 2 refine aA rfl rfl ?_
   refine TL.nil ?_
   obtain rfl := Option.some.inj q8
   exact ⟨m6, Nat.lt_succ_self _, _, Gst.only [2, 6, 11, 12, 13] rfl, w64 (s4 + 1), rfl, i9⟩
 refine T.condT rfl (decide_eq_true c14) ?_
 refine aS ?_
 iterate 2 refine aA rfl rfl ?_
 refine aN rfl ?_
 refine T.ret ?_
 obtain rfl := Option.some.inj q8
 obtain rfl : _ = _ := i9
 obtain rfl := Option.some.inj h0
 exact rO [] [6] rfl undef (cT rfl ResL.nil) rfl rfl rfl rfl
noncomputable def find_Last_r0 (a0 : Int) (a1 : Int) (a2 : Int) : Option (Unit ⊕ Int) :=
  if a0 ≥ a1 then
    some (Sum.inl ())
  else
    some (Sum.inr a0)
theorem find_Last_r0_c {a0 : Int} {a1 : Int} {a2 : Int} {b0 : Nat} {b1 : Nat} {res : Unit ⊕ Int} (h0 : find_Last_r0 a0 a1 a2 = some res) : RoundF X b0 [dN a0] [.lp b0 .ready none [12] rfA22_0 rfB22_0 [(7, (dP b1)), (5, .nod [dN a1])] 18, .var b1 [dN a2] 3] (fun x => (match res with | .inl res => (dT false) | .inr res => (dT true))) (fun x => (match res with | .inl res => [.lp b0 .done (some (.exit 0)) [12] rfA22_0 rfB22_0 [(7, (dP b1)), (5, .nod [dN a1])] 18, .var b1 [dN a2] 3] | .inr res => [.lp b0 .ready none [12] rfA22_0 rfB22_0 [(7, (dP b1)), (5, .nod [dN a1])] 18, .var b1 [dN res] 3])) := by
 unfold find_Last_r0 at h0
 refine RoundF.mk (X := X) rfl rfl rfl ?_
 refine T.region ?_
 refine aA rfl rfl ?_
 refine TL.nil ?_
 refine RoundA.mk ?_
 refine T.block ?_
 refine T.seq ?_
 refine aS ?_
 iterate 3 refine aA rfl rfl ?_
 refine TL.nil ?_
 show T (X.inR b0) _ _ _
 rcases ite_some h0 with ⟨c31, h0⟩ | ⟨c31, h0⟩
 · refine T.condT rfl (decide_eq_true c31) ?_
   refine T.exit ?_
   obtain rfl := Option.some.inj h0
   exact RoundG.mk (ks := [0, 1]) (Gst.only [] rfl) undef rfl rfl rfl rfl rfl
 refine T.condF rfl (decide_eq_false c31) ?_
 refine T.skip ?_
 show T (X.inR b0) _ _ _
 refine T.region ?_
 refine aA rfl rfl ?_
 refine TL.op0 (OpR.store 1 rfl rfl rfl rfl rfl rfl rfl rfl) ?_
 refine TL.nil ?_
 obtain rfl := Option.some.inj h0
 exact RoundG.mk (ks := [0, 1]) (Gst.only [] rfl) undef rfl rfl rfl rfl rfl
theorem find_Last_r0_cx1 {a0 : Int} {a1 : Int} {a2 : Int} {b0 : Nat} {b1 : Nat} {res : Unit} (h0 : find_Last_r0 a0 a1 a2 = some (Sum.inl res)) : RoundF X b0 [dN a0] [.lp b0 .ready none [12] rfA22_0 rfB22_0 [(7, (dP b1)), (5, .nod [dN a1])] 18, .var b1 [dN a2] 3] (fun x => (dT false)) (fun x => [.lp b0 .done (some (.exit 0)) [12] rfA22_0 rfB22_0 [(7, (dP b1)), (5, .nod [dN a1])] 18, .var b1 [dN a2] 3]) := find_Last_r0_c h0
theorem find_Last_r0_cx2 {a0 : Int} {a1 : Int} {a2 : Int} {b0 : Nat} {b1 : Nat} {res : Int} (h0 : find_Last_r0 a0 a1 a2 = some (Sum.inr res)) : RoundF X b0 [dN a0] [.lp b0 .ready none [12] rfA22_0 rfB22_0 [(7, (dP b1)), (5, .nod [dN a1])] 18, .var b1 [dN a2] 3] (fun x => (dT true)) (fun x => [.lp b0 .ready none [12] rfA22_0 rfB22_0 [(7, (dP b1)), (5, .nod [dN a1])] 18, .var b1 [dN res] 3]) := find_Last_r0_c h0
noncomputable def find_places_1_4.l1 (a1 : List UInt8) (x2 : (List Int)) (x16 : UInt8) (s18 : Int) : Option (Lp Int Int) :=
  bnd (if s18 > 0 then
    if s18 = (a1.length : Int) then
      some true
    else
      bnd (idx a1 s18) fun x29 =>
      some (!((x16.toNat : Int) == (x29.toNat : Int)))
  else
    some false : Option Bool) fun t26 =>
  if t26 = true then
    bnd (idx x2 s18) fun x31 =>
    some (Lp.next x31)
  else
    some (Lp.done s18)
noncomputable def find_places_1_4.l2 (a0 : Int) (a1 : List UInt8) (a2 : List UInt8) (x2 : (List Int)) (s5 : Int × Int × Int) : Option (Lp (Int × Int × Int) (Ex Int (Int ⊕ Int))) :=
  if s5.2.1 < (a2.length : Int) then
    bnd (bnd (idx a2 s5.2.1) fun x16 =>
    bnd (loop (find_places_1_4.l1 a1 x2 x16) s5.1 : Option Int) fun t17 =>
    bnd (idx a1 t17) fun x32 =>
    bnd (if (x16.toNat : Int) = (x32.toNat : Int) then
      some (w64 (t17 + 1))
    else
      some t17 : Option Int) fun t33 =>
    if t33 = (a1.length : Int) then
      bnd (find_Last_r0 (w64 ((w64 (s5.2.1 + 1)) - t33)) a0 s5.2.2) fun x36 =>
      match x36 with
      | .inl x36 =>
          some (Ex.ret (Sum.inr s5.2.2))
      | .inr x36 =>
          some (Ex.brk (t33, x36))
    else
      some (Ex.brk (t33, s5.2.2)) : Option (Ex (Int × Int) (Int ⊕ Int))) fun t14 => match t14 with
      | .brk u15 =>
        some (Lp.next (u15.1, w64 (s5.2.1 + 1), u15.2))
      | .ret u15 => some (Lp.done (Ex.ret u15))
  else
    some (Lp.done (Ex.brk s5.2.2))
noncomputable def find_places_1_4 (a0 : Int) (a1 : List UInt8) (a2 : List UInt8) (a3 : Int) : Option (Int ⊕ Int) :=
  if (a1.length : Int) = 0 then
    some (Sum.inl a3)
  else
    bnd (find_table a1) fun x2 =>
    bnd (loop (find_places_1_4.l2 a0 a1 a2 x2) (0, 0, a3) : Option (Ex Int (Int ⊕ Int))) fun t3 => match t3 with
      | .brk u4 =>
        some (Sum.inl u4)
      | .ret u4 => some u4
theorem find_places_1_4_c {a0 : Int} {a1 : List UInt8} {a2 : List UInt8} {a3 : Int} {b0 : Nat} {b1 : Nat} {b2 : Nat} {b3 : Nat} {res : Int ⊕ Int} (h0 : find_places_1_4 a0 a1 a2 a3 = some res) : CallF X 117 [.fn (.yield b0) [] [], dP b1, dP b2] [.lp b0 .ready none [12] rfA22_0 rfB22_0 [(7, (dP b3)), (5, .nod [dN a0])] 18, .var b1 [.sl 1 (lB a1)] 25, .var b2 [.sl 1 (lB a2)] 25, .var b3 [dN a3] 3] (fun x => (match res with | .inl res => .tup [] | .inr res => .tup [])) (fun x => (match res with | .inl res => [.lp b0 .ready none [12] rfA22_0 rfB22_0 [(7, (dP b3)), (5, .nod [dN a0])] 18, .var b1 [.sl 1 (lB a1)] 25, .var b2 [.sl 1 (lB a2)] 25, .var b3 [dN res] 3] | .inr res => [.lp b0 .done (some (.exit 0)) [12] rfA22_0 rfB22_0 [(7, (dP b3)), (5, .nod [dN a0])] 18, .var b1 [.sl 1 (lB a1)] 25, .var b2 [.sl 1 (lB a2)] 25, .var b3 [dN res] 3])) := by
 unfold find_places_1_4 at h0
 refine CallF.mkG (X := X) rfl Try.func117 rfl rfl Try.ntmps117 rfl rfl ?_
 refine T.seq ?_
 refine aS ?_
 refine TL.op1 (OpR.loadPtr 1 rfl rfl rfl rfl) rfl ?_
 refine TL.op1 (OpR.cast (OpR.pure rfl) (intE (lenM _ _))) rfl ?_
 refine aA rfl rfl ?_
 refine aN rfl ?_
 rcases ite_some h0 with ⟨c1, h0⟩ | ⟨c1, h0⟩
 · refine T.condT rfl (beq_iff_eq.2 c1) ?_
   refine T.ret ?_
   obtain rfl := Option.some.inj h0
   exact rO [0, 1, 2, 3] [] rfl undef ResL.nil rfl rfl rfl rfl
 refine T.condF rfl (beq_eq_false_iff_ne.2 c1) ?_
 refine aK rfl ?_
 refine aS ?_
 refine TL.op1 (OpR.loadPtr 1 rfl rfl rfl rfl) rfl ?_
 obtain ⟨x2, hx2, h0⟩ := bS h0
 refine TL.op1 (OpR.call0 fn118 (find_table_c hx2) rfl) rfl ?_
 refine aA rfl rfl ?_
 refine aN rfl ?_
 refine aS ?_
 refine aA rfl rfl ?_
 refine aN rfl ?_
 refine aS ?_
 refine TL.op1 (OpR.loadPtr 2 rfl rfl rfl rfl) rfl ?_
 refine TL.op1 (OpR.cast (OpR.pure rfl) (intE (lenM _ _))) rfl ?_
 refine aA rfl rfl ?_
 refine aN rfl ?_
 obtain ⟨t3, ht3, h0⟩ := bS h0
 refine T.cutN (fun S' => ∃ u4, t3 = Ex.brk u4 ∧ S' = ⟨[], [.lp b0 .ready none [12] rfA22_0 rfB22_0 [(7, (dP b3)), (5, .nod [dN a0])] 18, .var b1 [.sl 1 (lB a1)] 25, .var b2 [.sl 1 (lB a2)] 25, .var b3 [dN u4] 3], 62⟩) (fun _ _ g ⟨h, S', ds, g', r⟩ => ⟨h, S', ds, Gst.trans g g', r⟩) ?_ ?_
 rotate_left
 · rintro _ ⟨u4, rfl, rfl⟩
   obtain rfl := Option.some.inj h0
   exact PostG.finP (ks := [0, 1, 2, 3]) (Gst.only [] rfl) undef ResL.nil rfl rfl rfl rfl
 refine T.block ?_
 obtain ⟨n6, n11⟩ := loop_some ht3
 refine T.loop (fun n S' => ∃ S'', Gst S' S'' ∧ ∃ s5 : Int × Int × Int, S'' = ⟨[(15, (dN s5.2.1)), (14, (dN (a2.length : Int))), (13, .sl 1 (lB a2)), (5, (dN s5.1)), (4, .sl 1 (List.map (eI .i64) x2)), (1, (dP b1)), (0, .fn (.yield b0) [] [])], [.lp b0 .ready none [12] rfA22_0 rfB22_0 [(7, (dP b3)), (5, .nod [dN a0])] 18, .var b1 [.sl 1 (lB a1)] 25, .var b2 [.sl 1 (lB a2)] 25, .var b3 [dN s5.2.2] 3], 62⟩ ∧ iter (find_places_1_4.l2 a0 a1 a2 x2) n s5 = some t3) n6 ?_ ?_
 · exact ⟨_, Gst.only [0, 1, 4, 5, 13, 14, 15] rfl, (0, 0, a3), rfl, n11⟩
 rintro n6 _ ⟨_, g, s5, rfl, i10⟩
 refine T.ghost g ?_
 obtain ⟨m7, q8, rfl, q9, i10⟩ := iter_succ i10
 unfold find_places_1_4.l2 at q9
 refine aS ?_
 refine aA rfl rfl ?_
 refine aN rfl ?_
 refine T.seq ?_
 rcases ite_some q9 with ⟨c13, q9⟩ | ⟨c13, q9⟩
 rotate_left
 · refine T.condF rfl (decide_eq_false c13) ?_
   refine T.exit ?_
   obtain rfl := Option.some.inj q9
   obtain rfl : _ = _ := i10
   exact ⟨_, Gst.only [] rfl, _, rfl, rfl⟩
 refine T.condT rfl (decide_eq_true c13) ?_
 refine aK rfl ?_
 refine T.seq ?_
 obtain ⟨t14, ht14, q9⟩ := bS q9
 refine T.cutC (fun S' => ∃ u15, t14 = Ex.brk u15 ∧ S' = ⟨[(15, (dN s5.2.1)), (14, (dN (a2.length : Int))), (13, .sl 1 (lB a2)), (5, (dN u15.1)), (4, .sl 1 (List.map (eI .i64) x2)), (1, (dP b1)), (0, .fn (.yield b0) [] [])], [.lp b0 .ready none [12] rfA22_0 rfB22_0 [(7, (dP b3)), (5, .nod [dN a0])] 18, .var b1 [.sl 1 (lB a1)] 25, .var b2 [.sl 1 (lB a2)] 25, .var b3 [dN u15.2] 3], 62⟩) (fun _ h => h) ?_ ?_
 rotate_left
 · rintro _ ⟨u15, rfl, rfl⟩
   show T X _ _ _
   refine T.region ?_
   iterate 2 refine aA rfl rfl ?_
   refine TL.nil ?_
   obtain rfl := Option.some.inj q9
   exact ⟨m7, Nat.lt_succ_self _, _, Gst.only [0, 1, 4, 5, 13, 14, 15] rfl, (u15.1, w64 (s5.2.1 + 1), u15.2), rfl, i10⟩
 refine T.block ?_
 refine aS ?_
 refine aA rfl rfl ?_
 obtain ⟨x16, hx16, ht14⟩ := bS ht14
 refine TL.op1 (OpR.indexM byteD hx16 rfl rfl rfl rfl rfl) rfl ?_
 iterate 3 refine aA rfl rfl ?_
 refine aN rfl ?_
 refine T.seq ?_
 obtain ⟨t17, ht17, ht14⟩ := bS ht14
 refine T.cutC (fun S' => S' = ⟨[(15, (dN s5.2.1)), (14, (dN (a2.length : Int))), (13, .sl 1 (lB a2)), (7, .val (.int .u8 (x16.toNat : Int))), (6, (dN s5.2.1)), (5, (dN t17)), (4, .sl 1 (List.map (eI .i64) x2)), (1, (dP b1)), (0, .fn (.yield b0) [] [])], [.lp b0 .ready none [12] rfA22_0 rfB22_0 [(7, (dP b3)), (5, .nod [dN a0])] 18, .var b1 [.sl 1 (lB a1)] 25, .var b2 [.sl 1 (lB a2)] 25, .var b3 [dN s5.2.2] 3], 62⟩) (fun _ h => h) ?_ ?_
 rotate_left
 · rintro _ rfl
   show T X _ _ _
   refine T.seq ?_
   refine aS ?_
   refine aA rfl rfl ?_
   refine TL.op1 (OpR.loadPtr 1 rfl rfl rfl rfl) rfl ?_
   refine aA rfl rfl ?_
   obtain ⟨x32, hx32, ht14⟩ := bS ht14
   refine TL.op1 (OpR.indexM byteD hx32 rfl rfl rfl rfl rfl) rfl ?_
   iterate 2 refine aA rfl rfl ?_
   refine aN rfl ?_
   obtain ⟨t33, ht33, ht14⟩ := bS ht14
   refine T.cutC (fun S' => S' = ⟨[(15, (dN s5.2.1)), (14, (dN (a2.length : Int))), (13, .sl 1 (lB a2)), (6, (dN s5.2.1)), (5, (dN t33)), (4, .sl 1 (List.map (eI .i64) x2)), (1, (dP b1)), (0, .fn (.yield b0) [] [])], [.lp b0 .ready none [12] rfA22_0 rfB22_0 [(7, (dP b3)), (5, .nod [dN a0])] 18, .var b1 [.sl 1 (lB a1)] 25, .var b2 [.sl 1 (lB a2)] 25, .var b3 [dN s5.2.2] 3], 62⟩) (fun _ h => h) ?_ ?_
   · rcases ite_some ht33 with ⟨c34, ht33⟩ | ⟨c34, ht33⟩
     rotate_left
     · refine T.condF rfl (beq_eq_false_iff_ne.2 c34) ?_
       refine T.skip ?_
       obtain rfl := Option.some.inj ht33
       exact ⟨_, Gst.only [0, 1, 4, 5, 6, 13, 14, 15] rfl, rfl⟩
     refine T.condT rfl (beq_iff_eq.2 c34) ?_
     refine T.region ?_
     iterate 3 refine aA rfl rfl ?_
     refine TL.nil ?_
     obtain rfl := Option.some.inj ht33
     exact ⟨_, Gst.only [0, 1, 4, 5, 6, 13, 14, 15] rfl, rfl⟩
   rintro _ rfl
   show T X _ _ _
   refine aS ?_
   refine aA rfl rfl ?_
   refine TL.op1 (OpR.loadPtr 1 rfl rfl rfl rfl) rfl ?_
   refine TL.op1 (OpR.cast (OpR.pure rfl) (intE (lenM _ _))) rfl ?_
   iterate 2 refine aA rfl rfl ?_
   rcases ite_some ht14 with ⟨c35, ht14⟩ | ⟨c35, ht14⟩
   rotate_left
   · refine TL.off rfl rfl rfl rfl (beq_eq_false_iff_ne.2 c35) rfl rfl ?_
     refine TL.off rfl rfl rfl rfl (beq_eq_false_iff_ne.2 c35) rfl rfl ?_
     refine TL.off rfl rfl rfl rfl (beq_eq_false_iff_ne.2 c35) rfl rfl ?_
     refine TL.off rfl rfl rfl rfl (beq_eq_false_iff_ne.2 c35) rfl rfl ?_
     refine TL.off rfl rfl rfl rfl (beq_eq_false_iff_ne.2 c35) rfl rfl ?_
     refine TL.off rfl rfl rfl rfl (beq_eq_false_iff_ne.2 c35) rfl rfl ?_
     refine TL.off rfl rfl rfl rfl (beq_eq_false_iff_ne.2 c35) rfl rfl ?_
     refine TL.op1 (OpR.pickF rfl (beq_eq_false_iff_ne.2 c35) rfl) rfl ?_
     refine aN rfl ?_
     refine T.condF rfl rfl ?_
     refine T.skip ?_
     obtain rfl := Option.some.inj ht14
     exact ⟨_, Gst.only [0, 1, 4, 5, 13, 14, 15] rfl, _, rfl, rfl⟩
   refine TL.on rfl rfl rfl rfl (beq_iff_eq.2 c35) ?_
   refine aA rfl rfl ?_
   refine TL.on rfl rfl rfl rfl (beq_iff_eq.2 c35) ?_
   refine aA rfl rfl ?_
   refine TL.on rfl rfl rfl rfl (beq_iff_eq.2 c35) ?_
   refine aA rfl rfl ?_
   refine TL.on rfl rfl rfl rfl (beq_iff_eq.2 c35) ?_
   refine aA rfl rfl ?_
   refine TL.on rfl rfl rfl rfl (beq_iff_eq.2 c35) ?_
   refine aA rfl rfl ?_
   refine TL.on rfl rfl rfl rfl (beq_iff_eq.2 c35) ?_
   obtain ⟨x36, hx36, ht14⟩ := bS ht14
   rcases x36 with x36 | x36
   rotate_left
   · dsimp only at ht14
     refine TL.op1 (OpR.callY [0, 3] rfl (find_Last_r0_cx2 hx36) rfl rfl rfl (fun _ => rfl)) rfl ?_
     refine TL.on rfl rfl rfl rfl (beq_iff_eq.2 c35) ?_
     refine aA rfl rfl ?_
     refine TL.op1 (OpR.pickT rfl (beq_iff_eq.2 c35) rfl) rfl ?_
     refine aN rfl ?_
     refine T.condF rfl rfl ?_
     refine T.skip ?_
     obtain rfl := Option.some.inj ht14
     exact ⟨_, Gst.only [0, 1, 4, 5, 13, 14, 15] rfl, _, rfl, rfl⟩
   dsimp only at ht14
   refine TL.op1 (OpR.callY [0, 3] rfl (find_Last_r0_cx1 hx36) rfl rfl rfl (fun _ => rfl)) rfl ?_
   refine TL.on rfl rfl rfl rfl (beq_iff_eq.2 c35) ?_
   refine aA rfl rfl ?_
   refine TL.op1 (OpR.pickT rfl (beq_iff_eq.2 c35) rfl) rfl ?_
   refine aN rfl ?_
   refine T.condT rfl rfl ?_
   refine T.ret ?_
   obtain rfl := Option.some.inj ht14
   obtain rfl := Option.some.inj q9
   obtain rfl : _ = _ := i10
   obtain rfl := Option.some.inj h0
   exact rO [0, 1, 2, 3] [] rfl undef ResL.nil rfl rfl rfl rfl
 refine T.block ?_
 obtain ⟨n19, n24⟩ := loop_some ht17
 refine T.loop (fun n S' => ∃ S'', Gst S' S'' ∧ ∃ s18 : Int, S'' = ⟨[(15, (dN s5.2.1)), (14, (dN (a2.length : Int))), (13, .sl 1 (lB a2)), (7, .val (.int .u8 (x16.toNat : Int))), (6, (dN s5.2.1)), (5, (dN s18)), (4, .sl 1 (List.map (eI .i64) x2)), (1, (dP b1)), (0, .fn (.yield b0) [] [])], [.lp b0 .ready none [12] rfA22_0 rfB22_0 [(7, (dP b3)), (5, .nod [dN a0])] 18, .var b1 [.sl 1 (lB a1)] 25, .var b2 [.sl 1 (lB a2)] 25, .var b3 [dN s5.2.2] 3], 62⟩ ∧ iter (find_places_1_4.l1 a1 x2 x16) n s18 = some t17) n19 ?_ ?_
 · exact ⟨_, Gst.only [0, 1, 4, 5, 6, 7, 13, 14, 15] rfl, s5.1, rfl, n24⟩
 rintro n19 _ ⟨_, g, s18, rfl, i23⟩
 refine T.ghost g ?_
 obtain ⟨m20, q21, rfl, q22, i23⟩ := iter_succ i23
 unfold find_places_1_4.l1 at q22
 refine T.seq ?_
 refine T.seq ?_
 obtain ⟨t26, ht26, q22⟩ := bS q22
 refine T.cutC (fun S' => S' = ⟨[(35, (dT t26)), (15, (dN s5.2.1)), (14, (dN (a2.length : Int))), (13, .sl 1 (lB a2)), (7, .val (.int .u8 (x16.toNat : Int))), (6, (dN s5.2.1)), (5, (dN s18)), (4, .sl 1 (List.map (eI .i64) x2)), (1, (dP b1)), (0, .fn (.yield b0) [] [])], [.lp b0 .ready none [12] rfA22_0 rfB22_0 [(7, (dP b3)), (5, .nod [dN a0])] 18, .var b1 [.sl 1 (lB a1)] 25, .var b2 [.sl 1 (lB a2)] 25, .var b3 [dN s5.2.2] 3], 62⟩) (fun _ h => h) ?_ ?_
 rotate_left
 · rintro _ rfl
   show T X _ _ _
   rcases ite_some q22 with ⟨c30, q22⟩ | ⟨c30, q22⟩
   rotate_left
   · refine T.condF rfl (eq_false_of_ne_true c30) ?_
     refine T.exit ?_
     obtain rfl := Option.some.inj q22
     obtain rfl : _ = _ := i23
     exact ⟨_, Gst.only [0, 1, 4, 5, 6, 7, 13, 14, 15] rfl, rfl⟩
   refine T.condT rfl (c30) ?_
   refine aK rfl ?_
   refine T.block ?_
   refine T.region ?_
   iterate 2 refine aA rfl rfl ?_
   obtain ⟨x31, hx31, q22⟩ := bS q22
   refine TL.op1 (OpR.indexM (eI .i64) hx31 rfl rfl rfl rfl rfl) rfl ?_
   iterate 2 refine aA rfl rfl ?_
   refine TL.nil ?_
   obtain rfl := Option.some.inj q22
   exact ⟨m20, Nat.lt_succ_self _, _, Gst.only [0, 1, 4, 5, 6, 7, 13, 14, 15] rfl, x31, rfl, i23⟩
 refine T.region ?_
 iterate 3 refine aA rfl rfl ?_
 rcases ite_some ht26 with ⟨c27, ht26⟩ | ⟨c27, ht26⟩
 rotate_left
 · refine TL.off rfl rfl rfl rfl (decide_eq_false c27) rfl rfl ?_
   refine TL.off rfl rfl rfl rfl (decide_eq_false c27) rfl rfl ?_
   refine TL.off rfl rfl rfl rfl (decide_eq_false c27) rfl rfl ?_
   refine TL.off rfl rfl rfl rfl (decide_eq_false c27) rfl rfl ?_
   refine TL.off rfl rfl rfl rfl (decide_eq_false c27) rfl rfl ?_
   refine TL.offU rfl rfl rfl rfl rfl rfl ?_
   refine TL.offU rfl rfl rfl rfl rfl rfl ?_
   refine TL.offU rfl rfl rfl rfl rfl rfl ?_
   refine TL.offU rfl rfl rfl rfl rfl rfl ?_
   refine TL.offU rfl rfl rfl rfl rfl rfl ?_
   refine TL.offU rfl rfl rfl rfl rfl rfl ?_
   refine TL.off rfl rfl rfl rfl (decide_eq_false c27) rfl rfl ?_
   refine TL.op1 (OpR.pickF rfl (decide_eq_false c27) rfl) rfl ?_
   refine TL.nil ?_
   obtain rfl := Option.some.inj ht26
   exact ⟨_, Gst.only [0, 1, 4, 5, 6, 7, 13, 14, 15, 35] rfl, rfl⟩
 refine TL.on rfl rfl rfl rfl (decide_eq_true c27) ?_
 refine aA rfl rfl ?_
 refine TL.on rfl rfl rfl rfl (decide_eq_true c27) ?_
 refine TL.op1 (OpR.loadPtr 1 rfl rfl rfl rfl) rfl ?_
 refine TL.on rfl rfl rfl rfl (decide_eq_true c27) ?_
 refine TL.op1 (OpR.cast (OpR.pure rfl) (intE (lenM _ _))) rfl ?_
 refine TL.on rfl rfl rfl rfl (decide_eq_true c27) ?_
 refine aA rfl rfl ?_
 refine TL.on rfl rfl rfl rfl (decide_eq_true c27) ?_
 refine aA rfl rfl ?_
 rcases ite_some ht26 with ⟨c28, ht26⟩ | ⟨c28, ht26⟩
 · refine TL.off rfl rfl rfl rfl (beq_iff_eq.2 c28) rfl rfl ?_
   refine TL.off rfl rfl rfl rfl (beq_iff_eq.2 c28) rfl rfl ?_
   refine TL.off rfl rfl rfl rfl (beq_iff_eq.2 c28) rfl rfl ?_
   refine TL.off rfl rfl rfl rfl (beq_iff_eq.2 c28) rfl rfl ?_
   refine TL.off rfl rfl rfl rfl (beq_iff_eq.2 c28) rfl rfl ?_
   refine TL.off rfl rfl rfl rfl (beq_iff_eq.2 c28) rfl rfl ?_
   refine TL.on rfl rfl rfl rfl (decide_eq_true c27) ?_
   refine TL.op1 (OpR.pickT rfl (beq_iff_eq.2 c28) rfl) rfl ?_
   refine TL.op1 (OpR.pickT rfl (decide_eq_true c27) rfl) rfl ?_
   refine TL.nil ?_
   obtain rfl := Option.some.inj ht26
   exact ⟨_, Gst.only [0, 1, 4, 5, 6, 7, 13, 14, 15, 35] rfl, rfl⟩
 refine TL.on rfl rfl rfl rfl (beq_eq_false_iff_ne.2 c28) ?_
 refine aA rfl rfl ?_
 refine TL.on rfl rfl rfl rfl (beq_eq_false_iff_ne.2 c28) ?_
 refine TL.op1 (OpR.loadPtr 1 rfl rfl rfl rfl) rfl ?_
 refine TL.on rfl rfl rfl rfl (beq_eq_false_iff_ne.2 c28) ?_
 refine aA rfl rfl ?_
 refine TL.on rfl rfl rfl rfl (beq_eq_false_iff_ne.2 c28) ?_
 obtain ⟨x29, hx29, ht26⟩ := bS ht26
 refine TL.op1 (OpR.indexM byteD hx29 rfl rfl rfl rfl rfl) rfl ?_
 refine TL.on rfl rfl rfl rfl (beq_eq_false_iff_ne.2 c28) ?_
 refine aA rfl rfl ?_
 refine TL.on rfl rfl rfl rfl (beq_eq_false_iff_ne.2 c28) ?_
 refine aA rfl rfl ?_
 refine TL.on rfl rfl rfl rfl (decide_eq_true c27) ?_
 refine TL.op1 (OpR.pickF rfl (beq_eq_false_iff_ne.2 c28) rfl) rfl ?_
 refine TL.op1 (OpR.pickT rfl (decide_eq_true c27) rfl) rfl ?_
 refine TL.nil ?_
 obtain rfl := Option.some.inj ht26
 exact ⟨_, Gst.only [0, 1, 4, 5, 6, 7, 13, 14, 15, 35] rfl, rfl⟩
theorem find_places_1_4_cx1 {a0 : Int} {a1 : List UInt8} {a2 : List UInt8} {a3 : Int} {b0 : Nat} {b1 : Nat} {b2 : Nat} {b3 : Nat} {res : Int} (h0 : find_places_1_4 a0 a1 a2 a3 = some (Sum.inl res)) : CallF X 117 [.fn (.yield b0) [] [], dP b1, dP b2] [.lp b0 .ready none [12] rfA22_0 rfB22_0 [(7, (dP b3)), (5, .nod [dN a0])] 18, .var b1 [.sl 1 (lB a1)] 25, .var b2 [.sl 1 (lB a2)] 25, .var b3 [dN a3] 3] (fun x => .tup []) (fun x => [.lp b0 .ready none [12] rfA22_0 rfB22_0 [(7, (dP b3)), (5, .nod [dN a0])] 18, .var b1 [.sl 1 (lB a1)] 25, .var b2 [.sl 1 (lB a2)] 25, .var b3 [dN res] 3]) := find_places_1_4_c h0
theorem find_places_1_4_cx2 {a0 : Int} {a1 : List UInt8} {a2 : List UInt8} {a3 : Int} {b0 : Nat} {b1 : Nat} {b2 : Nat} {b3 : Nat} {res : Int} (h0 : find_places_1_4 a0 a1 a2 a3 = some (Sum.inr res)) : CallF X 117 [.fn (.yield b0) [] [], dP b1, dP b2] [.lp b0 .ready none [12] rfA22_0 rfB22_0 [(7, (dP b3)), (5, .nod [dN a0])] 18, .var b1 [.sl 1 (lB a1)] 25, .var b2 [.sl 1 (lB a2)] 25, .var b3 [dN a3] 3] (fun x => .tup []) (fun x => [.lp b0 .done (some (.exit 0)) [12] rfA22_0 rfB22_0 [(7, (dP b3)), (5, .nod [dN a0])] 18, .var b1 [.sl 1 (lB a1)] 25, .var b2 [.sl 1 (lB a2)] 25, .var b3 [dN res] 3]) := find_places_1_4_c h0
noncomputable def find_Last (a0 : List UInt8) (a1 : List UInt8) (a2 : Int) : Option Int :=
  bnd (find_places a0 a1) fun x2 =>
  bnd (bnd (find_places_1_4 a2 x2.1 x2.2 (-1)) fun x6 =>
  match x6 with
  | .inl x6 =>
      some x6
  | .inr x6 =>
      some x6 : Option Int) fun t4 =>
  some t4
theorem find_Last_c {a0 : List UInt8} {a1 : List UInt8} {a2 : Int} {res : Int} (h0 : find_Last a0 a1 a2 = some res) : CallF X 22 [.sl 1 (lB a0), .sl 1 (lB a1), dN a2] [] (fun x => (dN res)) (fun x => []) := by
 unfold find_Last at h0
 refine CallF.mkG (X := X) rfl Try.func22 rfl rfl Try.ntmps22 rfl rfl ?_
 refine aS ?_
 refine TL.op1 (OpR.boxImm rfl rfl) rfl ?_
 refine aA rfl rfl ?_
 refine aN rfl ?_
 refine aS ?_
 refine TL.op (OpR.alloc rfl rfl (fun _ => rfl)) rfl (fun p1 => ?_)
 refine TL.op0 (OpR.store 0 rfl rfl rfl rfl rfl rfl rfl rfl) ?_
 refine aN rfl ?_
 refine T.seq ?_
 refine aS ?_
 iterate 2 refine aA rfl rfl ?_
 obtain ⟨x2, hx2, h0⟩ := bS h0
 refine TL.op (OpR.call [] fn64 (find_places_c hx2) rfl rfl rfl (fun _ => rfl)) rfl (fun w3 => ?_)
 refine aN rfl ?_
 obtain ⟨t4, ht4, h0⟩ := bS h0
 refine T.cutC (fun S' => S' = ⟨[(7, (dP (blk p1))), (6, (dN 0))], [.var (blk p1) [dN t4] 3], 18⟩) (fun _ h => h) ?_ ?_
 rotate_left
 · rintro _ rfl
   show T X _ _ _
   refine aS ?_
   refine TL.op1 (OpR.loadPtr 0 rfl rfl rfl rfl) rfl ?_
   refine aA rfl rfl ?_
   refine aN rfl ?_
   refine T.ret ?_
   obtain rfl := Option.some.inj h0
   exact rP [] [6] [] rfl rfl rfl undef (cT rfl ResL.nil) rfl rfl rfl rfl
 refine T.block ?_
 obtain ⟨x6, hx6, ht4⟩ := bS ht4
 rcases x6 with x6 | x6
 · dsimp only at ht4
   refine T.rangeN (A := rfA22_0) (B := rfB22_0) [5, 7] [1, 2, 0] (.inl rfl) rfl rfl rfl rfl rfl fn117 rfl rfl (fun l5 => (find_places_1_4_cx1 hx6)) (fun _ => rfl) (fun w7 => ?_)
   obtain rfl := Option.some.inj ht4
   exact ⟨_, gP [6, 7] [0] rfl rfl rfl, rfl⟩
 dsimp only at ht4
 refine T.rangeJ (A := rfA22_0) (B := rfB22_0) (.exit 0) [5, 7] [1, 2, 0] (.inl rfl) rfl rfl rfl rfl rfl fn117 rfl rfl (fun l5 => (find_places_1_4_cx2 hx6)) (fun _ => rfl) (fun w8 => ?_)
 refine T.exit ?_
 obtain rfl := Option.some.inj ht4
 exact ⟨_, gP [6, 7] [0] rfl rfl rfl, rfl⟩
noncomputable def ref17_Last.l1 (a2 : Int) (x1 : (List Int)) (s3 : Int × Int) : Option (Lp (Int × Int) Int) :=
  if s3.2 < (x1.length : Int) then
    bnd (idx x1 s3.2) fun x12 =>
    bnd (if x12 < a2 then
      some x12
    else
      some s3.1 : Option Int) fun t13 =>
    some (Lp.next (t13, w64 (s3.2 + 1)))
  else
    some (Lp.done s3.1)
noncomputable def ref17_Last (a0 : List UInt8) (a1 : List UInt8) (a2 : Int) : Option Int :=
  bnd (ref17_Every a0 a1) fun x1 =>
  bnd (loop (ref17_Last.l1 a2 x1) ((-1), 0) : Option Int) fun t2 =>
  some t2
theorem ref17_Last_c {a0 : List UInt8} {a1 : List UInt8} {a2 : Int} {res : Int} (h0 : ref17_Last a0 a1 a2 = some res) : CallF X 23 [.val (.string (bs a0)), .val (.string (bs a1)), dN a2] [] (fun x => (dN res)) (fun x => []) := by
 unfold ref17_Last at h0
 refine CallF.mkG (X := X) rfl Try.func23 rfl rfl Try.ntmps23 rfl rfl ?_
 refine aS ?_
 refine aA rfl rfl ?_
 refine aN rfl ?_
 refine aS ?_
 refine aA rfl rfl ?_
 refine aN rfl ?_
 refine T.seq ?_
 refine aS ?_
 iterate 2 refine aA rfl rfl ?_
 obtain ⟨x1, hx1, h0⟩ := bS h0
 refine TL.op1 (OpR.call0 fn17 (ref17_Every_c hx1) rfl) rfl ?_
 refine TL.op1 (OpR.cast (OpR.pure rfl) (intE (lenM _ _))) rfl ?_
 refine aA rfl rfl ?_
 refine aN rfl ?_
 obtain ⟨t2, ht2, h0⟩ := bS h0
 refine T.cutC (fun S' => S' = ⟨[(7, (dN t2)), (6, (dN 0))], [], 24⟩) (fun _ h => h) ?_ ?_
 rotate_left
 · rintro _ rfl
   show T X _ _ _
   refine aS ?_
   iterate 2 refine aA rfl rfl ?_
   refine aN rfl ?_
   refine T.ret ?_
   obtain rfl := Option.some.inj h0
   exact rO [] [6] rfl undef (cT rfl ResL.nil) rfl rfl rfl rfl
 refine T.block ?_
 obtain ⟨n4, n9⟩ := loop_some ht2
 refine T.loop (fun n S' => ∃ S'', Gst S' S'' ∧ ∃ s3 : Int × Int, S'' = ⟨[(14, (dN s3.2)), (13, (dN (x1.length : Int))), (12, .sl 1 (List.map (eI .i64) x1)), (7, (dN s3.1)), (6, (dN 0)), (2, (dN a2))], [], 24⟩ ∧ iter (ref17_Last.l1 a2 x1) n s3 = some t2) n4 ?_ ?_
 · exact ⟨_, Gst.only [2, 6, 7, 12, 13, 14] rfl, ((-1), 0), rfl, n9⟩
 rintro n4 _ ⟨_, g, s3, rfl, i8⟩
 refine T.ghost g ?_
 obtain ⟨m5, q6, rfl, q7, i8⟩ := iter_succ i8
 unfold ref17_Last.l1 at q7
 refine aS ?_
 refine aA rfl rfl ?_
 refine aN rfl ?_
 refine T.seq ?_
 rcases ite_some q7 with ⟨c11, q7⟩ | ⟨c11, q7⟩
 rotate_left
 · refine T.condF rfl (decide_eq_false c11) ?_
   refine T.exit ?_
   obtain rfl := Option.some.inj q7
   obtain rfl : _ = _ := i8
   exact ⟨_, Gst.only [6, 7] rfl, rfl⟩
 refine T.condT rfl (decide_eq_true c11) ?_
 refine aK rfl ?_
 refine T.seq ?_
 refine T.block ?_
 refine aS ?_
 obtain ⟨x12, hx12, q7⟩ := bS q7
 refine TL.op1 (OpR.indexM (eI .i64) hx12 rfl rfl rfl rfl rfl) rfl ?_
 iterate 2 refine aA rfl rfl ?_
 refine aN rfl ?_
 refine aS ?_
 iterate 3 refine aA rfl rfl ?_
 refine aN rfl ?_
 obtain ⟨t13, ht13, q7⟩ := bS q7
 refine T.cutC (fun S' => S' = ⟨[(14, (dN s3.2)), (13, (dN (x1.length : Int))), (12, .sl 1 (List.map (eI .i64) x1)), (7, (dN t13)), (6, (dN 0)), (2, (dN a2))], [], 24⟩) (fun _ h => h) ?_ ?_
 rotate_left
 · rintro _ rfl
   show T X _ _ _
   refine T.region ?_
   iterate 2 refine aA rfl rfl ?_
   refine TL.nil ?_
   obtain rfl := Option.some.inj q7
   exact ⟨m5, Nat.lt_succ_self _, _, Gst.only [2, 6, 7, 12, 13, 14] rfl, (t13, w64 (s3.2 + 1)), rfl, i8⟩
 rcases ite_some ht13 with ⟨c14, ht13⟩ | ⟨c14, ht13⟩
 rotate_left
 · refine T.condF rfl (decide_eq_false c14) ?_
   refine T.skip ?_
   obtain rfl := Option.some.inj ht13
   exact ⟨_, Gst.only [2, 6, 7, 12, 13, 14] rfl, rfl⟩
 refine T.condT rfl (decide_eq_true c14) ?_
 refine T.region ?_
 iterate 2 refine aA rfl rfl ?_
 refine TL.nil ?_
 obtain rfl := Option.some.inj ht13
 exact ⟨_, Gst.only [2, 6, 7, 12, 13, 14] rfl, rfl⟩
noncomputable def law17_FindPlaces (a0 : List UInt8) (a1 : List UInt8) (a2 : Int) : Option Bool :=
  bnd (law11_Cut a0 300) fun x1 =>
  bnd (law11_Cut a1 30) fun x2 =>
  bnd (bnd (find_Every x1 x2) fun x4 =>
  bnd (ref17_Every x1 x2) fun x5 =>
  bnd (ref09_Same x4 x5) fun x6 =>
  if x6 = true then
    bnd (find_Apart x1 x2) fun x8 =>
    bnd (ref17_Apart x1 x2) fun x9 =>
    bnd (ref09_Same x8 x9) fun x10 =>
    if x10 = true then
      bnd (find_First x1 x2 a2) fun x12 =>
      bnd (ref17_First x1 x2 a2) fun x13 =>
      if x12 = x13 then
        bnd (find_Last x1 x2 a2) fun x15 =>
        bnd (ref17_Last x1 x2 a2) fun x16 =>
        if x15 = x16 then
          bnd (law17_awake) fun x18 =>
          some x18
        else
          some false
      else
        some false
    else
      some false
  else
    some false : Option Bool) fun t3 =>
  some t3
theorem law17_FindPlaces_c {a0 : List UInt8} {a1 : List UInt8} {a2 : Int} {res : Bool} (h0 : law17_FindPlaces a0 a1 a2 = some res) : CallF X 4 [.val (.string (bs a0)), .val (.string (bs a1)), dN a2] [] (fun x => (dT res)) (fun x => []) := by
 unfold law17_FindPlaces at h0
 refine CallF.mkG (X := X) rfl Try.func4 rfl rfl Try.ntmps4 rfl rfl ?_
 refine aS ?_
 refine aA rfl rfl ?_
 refine aN rfl ?_
 refine aS ?_
 refine aA rfl rfl ?_
 obtain ⟨x1, hx1, h0⟩ := bS h0
 refine TL.op1 (OpR.call0 fn11 (law11_Cut_c hx1) rfl) rfl ?_
 refine aA rfl rfl ?_
 obtain ⟨x2, hx2, h0⟩ := bS h0
 refine TL.op1 (OpR.call0 fn11 (law11_Cut_c hx2) rfl) rfl ?_
 iterate 2 refine aA rfl rfl ?_
 refine aN rfl ?_
 refine aS ?_
 refine aA rfl rfl ?_
 refine TL.op1 (OpR.toBytesM rfl rfl rfl rfl rfl rfl rfl) rfl ?_
 refine aA rfl rfl ?_
 refine TL.op1 (OpR.toBytesM rfl rfl rfl rfl rfl rfl rfl) rfl ?_
 iterate 2 refine aA rfl rfl ?_
 refine aN rfl ?_
 refine T.seq ?_
 obtain ⟨t3, ht3, h0⟩ := bS h0
 refine T.cutC (fun S' => S' = ⟨[(6, (dT t3))], [], 58⟩) (fun _ h => h) ?_ ?_
 rotate_left
 · rintro _ rfl
   show T X _ _ _
   refine T.ret ?_
   obtain rfl := Option.some.inj h0
   exact rO [] [6] rfl undef (cT rfl ResL.nil) rfl rfl rfl rfl
 refine T.region ?_
 iterate 2 refine aA rfl rfl ?_
 obtain ⟨x4, hx4, ht3⟩ := bS ht3
 refine TL.op1 (OpR.call0 fn16 (find_Every_c hx4) rfl) rfl ?_
 iterate 2 refine aA rfl rfl ?_
 obtain ⟨x5, hx5, ht3⟩ := bS ht3
 refine TL.op1 (OpR.call0 fn17 (ref17_Every_c hx5) rfl) rfl ?_
 obtain ⟨x6, hx6, ht3⟩ := bS ht3
 refine TL.op1 (OpR.call0 fn15 (ref09_Same_c hx6) rfl) rfl ?_
 refine aA rfl rfl ?_
 rcases ite_some ht3 with ⟨c7, ht3⟩ | ⟨c7, ht3⟩
 rotate_left
 · refine TL.off rfl rfl rfl rfl (eq_false_of_ne_true c7) rfl rfl ?_
   refine TL.off rfl rfl rfl rfl (eq_false_of_ne_true c7) rfl rfl ?_
   refine TL.off rfl rfl rfl rfl (eq_false_of_ne_true c7) rfl rfl ?_
   refine TL.off rfl rfl rfl rfl (eq_false_of_ne_true c7) rfl rfl ?_
   refine TL.off rfl rfl rfl rfl (eq_false_of_ne_true c7) rfl rfl ?_
   refine TL.off rfl rfl rfl rfl (eq_false_of_ne_true c7) rfl rfl ?_
   refine TL.off rfl rfl rfl rfl (eq_false_of_ne_true c7) rfl rfl ?_
   refine TL.op1 (OpR.pickF rfl (eq_false_of_ne_true c7) rfl) rfl ?_
   refine aA rfl rfl ?_
   refine TL.off rfl rfl rfl rfl rfl rfl rfl ?_
   refine TL.off rfl rfl rfl rfl rfl rfl rfl ?_
   refine TL.off rfl rfl rfl rfl rfl rfl rfl ?_
   refine TL.off rfl rfl rfl rfl rfl rfl rfl ?_
   refine TL.off rfl rfl rfl rfl rfl rfl rfl ?_
   refine TL.off rfl rfl rfl rfl rfl rfl rfl ?_
   refine TL.off rfl rfl rfl rfl rfl rfl rfl ?_
   refine TL.off rfl rfl rfl rfl rfl rfl rfl ?_
   refine TL.off rfl rfl rfl rfl rfl rfl rfl ?_
   refine TL.op1 (OpR.pickF rfl rfl rfl) rfl ?_
   refine aA rfl rfl ?_
   refine TL.off rfl rfl rfl rfl rfl rfl rfl ?_
   refine TL.off rfl rfl rfl rfl rfl rfl rfl ?_
   refine TL.off rfl rfl rfl rfl rfl rfl rfl ?_
   refine TL.off rfl rfl rfl rfl rfl rfl rfl ?_
   refine TL.off rfl rfl rfl rfl rfl rfl rfl ?_
   refine TL.off rfl rfl rfl rfl rfl rfl rfl ?_
   refine TL.off rfl rfl rfl rfl rfl rfl rfl ?_
   refine TL.off rfl rfl rfl rfl rfl rfl rfl ?_
   refine TL.off rfl rfl rfl rfl rfl rfl rfl ?_
   refine TL.op1 (OpR.pickF rfl rfl rfl) rfl ?_
   refine aA rfl rfl ?_
   refine TL.off rfl rfl rfl rfl rfl rfl rfl ?_
   refine TL.op1 (OpR.pickF rfl rfl rfl) rfl ?_
   refine aA rfl rfl ?_
   refine TL.nil ?_
   obtain rfl := Option.some.inj ht3
   exact ⟨_, Gst.only [6] rfl, rfl⟩
 refine TL.on rfl rfl rfl rfl (c7) ?_
 refine aA rfl rfl ?_
 refine TL.on rfl rfl rfl rfl (c7) ?_
 refine aA rfl rfl ?_
 refine TL.on rfl rfl rfl rfl (c7) ?_
 obtain ⟨x8, hx8, ht3⟩ := bS ht3
 refine TL.op1 (OpR.call0 fn18 (find_Apart_c hx8) rfl) rfl ?_
 refine TL.on rfl rfl rfl rfl (c7) ?_
 refine aA rfl rfl ?_
 refine TL.on rfl rfl rfl rfl (c7) ?_
 refine aA rfl rfl ?_
 refine TL.on rfl rfl rfl rfl (c7) ?_
 obtain ⟨x9, hx9, ht3⟩ := bS ht3
 refine TL.op1 (OpR.call0 fn19 (ref17_Apart_c hx9) rfl) rfl ?_
 refine TL.on rfl rfl rfl rfl (c7) ?_
 obtain ⟨x10, hx10, ht3⟩ := bS ht3
 refine TL.op1 (OpR.call0 fn15 (ref09_Same_c hx10) rfl) rfl ?_
 refine TL.op1 (OpR.pickT rfl (c7) rfl) rfl ?_
 refine aA rfl rfl ?_
 rcases ite_some ht3 with ⟨c11, ht3⟩ | ⟨c11, ht3⟩
 rotate_left
 · refine TL.off rfl rfl rfl rfl (eq_false_of_ne_true c11) rfl rfl ?_
   refine TL.off rfl rfl rfl rfl (eq_false_of_ne_true c11) rfl rfl ?_
   refine TL.off rfl rfl rfl rfl (eq_false_of_ne_true c11) rfl rfl ?_
   refine TL.off rfl rfl rfl rfl (eq_false_of_ne_true c11) rfl rfl ?_
   refine TL.off rfl rfl rfl rfl (eq_false_of_ne_true c11) rfl rfl ?_
   refine TL.off rfl rfl rfl rfl (eq_false_of_ne_true c11) rfl rfl ?_
   refine TL.off rfl rfl rfl rfl (eq_false_of_ne_true c11) rfl rfl ?_
   refine TL.off rfl rfl rfl rfl (eq_false_of_ne_true c11) rfl rfl ?_
   refine TL.off rfl rfl rfl rfl (eq_false_of_ne_true c11) rfl rfl ?_
   refine TL.op1 (OpR.pickF rfl (eq_false_of_ne_true c11) rfl) rfl ?_
   refine aA rfl rfl ?_
   refine TL.off rfl rfl rfl rfl rfl rfl rfl ?_
   refine TL.off rfl rfl rfl rfl rfl rfl rfl ?_
   refine TL.off rfl rfl rfl rfl rfl rfl rfl ?_
   refine TL.off rfl rfl rfl rfl rfl rfl rfl ?_
   refine TL.off rfl rfl rfl rfl rfl rfl rfl ?_
   refine TL.off rfl rfl rfl rfl rfl rfl rfl ?_
   refine TL.off rfl rfl rfl rfl rfl rfl rfl ?_
   refine TL.off rfl rfl rfl rfl rfl rfl rfl ?_
   refine TL.off rfl rfl rfl rfl rfl rfl rfl ?_
   refine TL.op1 (OpR.pickF rfl rfl rfl) rfl ?_
   refine aA rfl rfl ?_
   refine TL.off rfl rfl rfl rfl rfl rfl rfl ?_
   refine TL.op1 (OpR.pickF rfl rfl rfl) rfl ?_
   refine aA rfl rfl ?_
   refine TL.nil ?_
   obtain rfl := Option.some.inj ht3
   exact ⟨_, Gst.only [6] rfl, rfl⟩
 refine TL.on rfl rfl rfl rfl (c11) ?_
 refine aA rfl rfl ?_
 refine TL.on rfl rfl rfl rfl (c11) ?_
 refine aA rfl rfl ?_
 refine TL.on rfl rfl rfl rfl (c11) ?_
 refine aA rfl rfl ?_
 refine TL.on rfl rfl rfl rfl (c11) ?_
 obtain ⟨x12, hx12, ht3⟩ := bS ht3
 refine TL.op1 (OpR.call0 fn20 (find_First_c hx12) rfl) rfl ?_
 refine TL.on rfl rfl rfl rfl (c11) ?_
 refine aA rfl rfl ?_
 refine TL.on rfl rfl rfl rfl (c11) ?_
 refine aA rfl rfl ?_
 refine TL.on rfl rfl rfl rfl (c11) ?_
 refine aA rfl rfl ?_
 refine TL.on rfl rfl rfl rfl (c11) ?_
 obtain ⟨x13, hx13, ht3⟩ := bS ht3
 refine TL.op1 (OpR.call0 fn21 (ref17_First_c hx13) rfl) rfl ?_
 refine TL.on rfl rfl rfl rfl (c11) ?_
 refine aA rfl rfl ?_
 refine TL.op1 (OpR.pickT rfl (c11) rfl) rfl ?_
 refine aA rfl rfl ?_
 rcases ite_some ht3 with ⟨c14, ht3⟩ | ⟨c14, ht3⟩
 rotate_left
 · refine TL.off rfl rfl rfl rfl (beq_eq_false_iff_ne.2 c14) rfl rfl ?_
   refine TL.off rfl rfl rfl rfl (beq_eq_false_iff_ne.2 c14) rfl rfl ?_
   refine TL.off rfl rfl rfl rfl (beq_eq_false_iff_ne.2 c14) rfl rfl ?_
   refine TL.off rfl rfl rfl rfl (beq_eq_false_iff_ne.2 c14) rfl rfl ?_
   refine TL.off rfl rfl rfl rfl (beq_eq_false_iff_ne.2 c14) rfl rfl ?_
   refine TL.off rfl rfl rfl rfl (beq_eq_false_iff_ne.2 c14) rfl rfl ?_
   refine TL.off rfl rfl rfl rfl (beq_eq_false_iff_ne.2 c14) rfl rfl ?_
   refine TL.off rfl rfl rfl rfl (beq_eq_false_iff_ne.2 c14) rfl rfl ?_
   refine TL.off rfl rfl rfl rfl (beq_eq_false_iff_ne.2 c14) rfl rfl ?_
   refine TL.op1 (OpR.pickF rfl (beq_eq_false_iff_ne.2 c14) rfl) rfl ?_
   refine aA rfl rfl ?_
   refine TL.off rfl rfl rfl rfl rfl rfl rfl ?_
   refine TL.op1 (OpR.pickF rfl rfl rfl) rfl ?_
   refine aA rfl rfl ?_
   refine TL.nil ?_
   obtain rfl := Option.some.inj ht3
   exact ⟨_, Gst.only [6] rfl, rfl⟩
 refine TL.on rfl rfl rfl rfl (beq_iff_eq.2 c14) ?_
 refine aA rfl rfl ?_
 refine TL.on rfl rfl rfl rfl (beq_iff_eq.2 c14) ?_
 refine aA rfl rfl ?_
 refine TL.on rfl rfl rfl rfl (beq_iff_eq.2 c14) ?_
 refine aA rfl rfl ?_
 refine TL.on rfl rfl rfl rfl (beq_iff_eq.2 c14) ?_
 obtain ⟨x15, hx15, ht3⟩ := bS ht3
 refine TL.op1 (OpR.call0 fn22 (find_Last_c hx15) rfl) rfl ?_
 refine TL.on rfl rfl rfl rfl (beq_iff_eq.2 c14) ?_
 refine aA rfl rfl ?_
 refine TL.on rfl rfl rfl rfl (beq_iff_eq.2 c14) ?_
 refine aA rfl rfl ?_
 refine TL.on rfl rfl rfl rfl (beq_iff_eq.2 c14) ?_
 refine aA rfl rfl ?_
 refine TL.on rfl rfl rfl rfl (beq_iff_eq.2 c14) ?_
 obtain ⟨x16, hx16, ht3⟩ := bS ht3
 refine TL.op1 (OpR.call0 fn23 (ref17_Last_c hx16) rfl) rfl ?_
 refine TL.on rfl rfl rfl rfl (beq_iff_eq.2 c14) ?_
 refine aA rfl rfl ?_
 refine TL.op1 (OpR.pickT rfl (beq_iff_eq.2 c14) rfl) rfl ?_
 refine aA rfl rfl ?_
 rcases ite_some ht3 with ⟨c17, ht3⟩ | ⟨c17, ht3⟩
 rotate_left
 · refine TL.off rfl rfl rfl rfl (beq_eq_false_iff_ne.2 c17) rfl rfl ?_
   refine TL.op1 (OpR.pickF rfl (beq_eq_false_iff_ne.2 c17) rfl) rfl ?_
   refine aA rfl rfl ?_
   refine TL.nil ?_
   obtain rfl := Option.some.inj ht3
   exact ⟨_, Gst.only [6] rfl, rfl⟩
 refine TL.on rfl rfl rfl rfl (beq_iff_eq.2 c17) ?_
 obtain ⟨x18, hx18, ht3⟩ := bS ht3
 refine TL.op1 (OpR.call0 fn14 (law17_awake_c hx18) rfl) rfl ?_
 refine TL.op1 (OpR.pickT rfl (beq_iff_eq.2 c17) rfl) rfl ?_
 refine aA rfl rfl ?_
 refine TL.nil ?_
 obtain rfl := Option.some.inj ht3
 exact ⟨_, Gst.only [6] rfl, rfl⟩
end Go.Proofs.Ytbcbggdgkdfciaa.S
