/- Printed by a program of this session's own (gen.py): Lean functions for Go functions, and the proofs that the Go code comes to their answers. -/
import Derived.Test.YtbcbggdgkdfciaaG0
set_option linter.unusedVariables false
set_option linter.unusedSimpArgs false
set_option maxRecDepth 20000
namespace Go.Proofs.Ytbcbggdgkdfciaa.S
open Go Go.Sm
attribute [local irreducible] T TL OpR CallT iter loop
noncomputable def ref05_quote (a0 : List UInt8) (a1 : Int) : Option Bool :=
  bnd (if a1 < (a0.length : Int) then
    bnd (idx a0 a1) fun x3 =>
    some ((x3.toNat : Int) == 34)
  else
    some false : Option Bool) fun t1 =>
  some t1
set_option maxHeartbeats 4000000 in
theorem ref05_quote_c {a0 : List UInt8} {a1 : Int} {res : Bool} (h0 : ref05_quote a0 a1 = some res) : CallF X 122 [.val (.string (bs a0)), .val (.int .i64 a1)] [] (fun x => .val (.bool res)) (fun x => []) := by
 unfold ref05_quote at h0
 refine CallF.mkG (X := X) Try.func122 rfl rfl Try.ntmps122 rfl rfl ?_
 refine T.seq ?_
 refine T.region ?_
 refine TL.op1 (OpR.pure rfl) rfl ?_
 refine TL.nil ?_
 show T X _ _ _
 refine T.seq ?_
 obtain ⟨t1, ht1, h0⟩ := bnd_some h0
 refine T.cutC (fun S' => S' = ⟨[(4, .val (.bool t1))], [], 15⟩) (fun _ h => h) ?_ ?_
 rotate_left
 · rintro _ rfl
   show T X _ _ _
   refine T.ret ?_
   obtain rfl := Option.some.inj h0
   exact PostG.retP (ks := []) (Gst.only [4] rfl) undef (ResL.cons (ResV.tmp rfl) ResL.nil) rfl rfl rfl rfl
 refine T.region ?_
 refine TL.op1 (OpR.pure rfl) rfl ?_
 refine TL.op1 (OpR.pure rfl) rfl ?_
 refine TL.op1 (OpR.cast (OpR.pure rfl) (intE (lenS _))) rfl ?_
 refine TL.op1 (OpR.pure rfl) rfl ?_
 refine TL.op1 (OpR.pure rfl) rfl ?_
 rcases ite_some ht1 with ⟨c2, ht1⟩ | ⟨c2, ht1⟩
 rotate_left
 · refine TL.off rfl rfl rfl rfl (decide_eq_false c2) rfl rfl ?_
   refine TL.off rfl rfl rfl rfl (decide_eq_false c2) rfl rfl ?_
   refine TL.off rfl rfl rfl rfl (decide_eq_false c2) rfl rfl ?_
   refine TL.off rfl rfl rfl rfl (decide_eq_false c2) rfl rfl ?_
   refine TL.op1 (OpR.pickF rfl (decide_eq_false c2) rfl) rfl ?_
   refine TL.op1 (OpR.pure rfl) rfl ?_
   refine TL.nil ?_
   obtain rfl := Option.some.inj ht1
   exact ⟨_, Gst.only [4] rfl, rfl⟩
 refine TL.on rfl rfl rfl rfl (decide_eq_true c2) ?_
 refine TL.op1 (OpR.pure rfl) rfl ?_
 refine TL.on rfl rfl rfl rfl (decide_eq_true c2) ?_
 refine TL.op1 (OpR.pure rfl) rfl ?_
 refine TL.on rfl rfl rfl rfl (decide_eq_true c2) ?_
 obtain ⟨x3, hx3, ht1⟩ := bnd_some ht1
 refine TL.op1 (OpR.indexS hx3 rfl rfl rfl rfl) rfl ?_
 refine TL.on rfl rfl rfl rfl (decide_eq_true c2) ?_
 refine TL.op1 (OpR.pure rfl) rfl ?_
 refine TL.op1 (OpR.pickT rfl (decide_eq_true c2) rfl) rfl ?_
 refine TL.op1 (OpR.pure rfl) rfl ?_
 refine TL.nil ?_
 obtain rfl := Option.some.inj ht1
 exact ⟨_, Gst.only [4] rfl, rfl⟩
noncomputable def ref05_mark (a0 : List UInt8) (a1 : Int) : Option Bool :=
  bnd (if a1 ≥ (a0.length : Int) then
    some true
  else
    bnd (idx a0 a1) fun x3 =>
    if (x3.toNat : Int) = 44 then
      some true
    else
      if (x3.toNat : Int) = 13 then
        some true
      else
        some ((x3.toNat : Int) == 10) : Option Bool) fun t1 =>
  some t1
set_option maxHeartbeats 4000000 in
theorem ref05_mark_c {a0 : List UInt8} {a1 : Int} {res : Bool} (h0 : ref05_mark a0 a1 = some res) : CallF X 167 [.val (.string (bs a0)), .val (.int .i64 a1)] [] (fun x => .val (.bool res)) (fun x => []) := by
 unfold ref05_mark at h0
 refine CallF.mkG (X := X) Try.func167 rfl rfl Try.ntmps167 rfl rfl ?_
 refine T.seq ?_
 refine T.region ?_
 refine TL.op1 (OpR.pure rfl) rfl ?_
 refine TL.nil ?_
 show T X _ _ _
 refine T.seq ?_
 obtain ⟨t1, ht1, h0⟩ := bnd_some h0
 refine T.cutC (fun S' => S' = ⟨[(4, .val (.bool t1))], [], 27⟩) (fun _ h => h) ?_ ?_
 rotate_left
 · rintro _ rfl
   show T X _ _ _
   refine T.ret ?_
   obtain rfl := Option.some.inj h0
   exact PostG.retP (ks := []) (Gst.only [4] rfl) undef (ResL.cons (ResV.tmp rfl) ResL.nil) rfl rfl rfl rfl
 refine T.region ?_
 refine TL.op1 (OpR.pure rfl) rfl ?_
 refine TL.op1 (OpR.pure rfl) rfl ?_
 refine TL.op1 (OpR.cast (OpR.pure rfl) (intE (lenS _))) rfl ?_
 refine TL.op1 (OpR.pure rfl) rfl ?_
 refine TL.op1 (OpR.pure rfl) rfl ?_
 rcases ite_some ht1 with ⟨c2, ht1⟩ | ⟨c2, ht1⟩
 · refine TL.off rfl rfl rfl rfl (decide_eq_true c2) rfl rfl ?_
   refine TL.off rfl rfl rfl rfl (decide_eq_true c2) rfl rfl ?_
   refine TL.off rfl rfl rfl rfl (decide_eq_true c2) rfl rfl ?_
   refine TL.off rfl rfl rfl rfl (decide_eq_true c2) rfl rfl ?_
   refine TL.op1 (OpR.pickT rfl (decide_eq_true c2) rfl) rfl ?_
   refine TL.op1 (OpR.pure rfl) rfl ?_
   refine TL.off rfl rfl rfl rfl rfl rfl rfl ?_
   refine TL.off rfl rfl rfl rfl rfl rfl rfl ?_
   refine TL.off rfl rfl rfl rfl rfl rfl rfl ?_
   refine TL.off rfl rfl rfl rfl rfl rfl rfl ?_
   refine TL.op1 (OpR.pickT rfl rfl rfl) rfl ?_
   refine TL.op1 (OpR.pure rfl) rfl ?_
   refine TL.off rfl rfl rfl rfl rfl rfl rfl ?_
   refine TL.off rfl rfl rfl rfl rfl rfl rfl ?_
   refine TL.off rfl rfl rfl rfl rfl rfl rfl ?_
   refine TL.off rfl rfl rfl rfl rfl rfl rfl ?_
   refine TL.op1 (OpR.pickT rfl rfl rfl) rfl ?_
   refine TL.op1 (OpR.pure rfl) rfl ?_
   refine TL.nil ?_
   obtain rfl := Option.some.inj ht1
   exact ⟨_, Gst.only [4] rfl, rfl⟩
 refine TL.on rfl rfl rfl rfl (decide_eq_false c2) ?_
 refine TL.op1 (OpR.pure rfl) rfl ?_
 refine TL.on rfl rfl rfl rfl (decide_eq_false c2) ?_
 refine TL.op1 (OpR.pure rfl) rfl ?_
 refine TL.on rfl rfl rfl rfl (decide_eq_false c2) ?_
 obtain ⟨x3, hx3, ht1⟩ := bnd_some ht1
 refine TL.op1 (OpR.indexS hx3 rfl rfl rfl rfl) rfl ?_
 refine TL.on rfl rfl rfl rfl (decide_eq_false c2) ?_
 refine TL.op1 (OpR.pure rfl) rfl ?_
 refine TL.op1 (OpR.pickF rfl (decide_eq_false c2) rfl) rfl ?_
 refine TL.op1 (OpR.pure rfl) rfl ?_
 rcases ite_some ht1 with ⟨c4, ht1⟩ | ⟨c4, ht1⟩
 · refine TL.off rfl rfl rfl rfl (beq_iff_eq.2 c4) rfl rfl ?_
   refine TL.off rfl rfl rfl rfl (beq_iff_eq.2 c4) rfl rfl ?_
   refine TL.off rfl rfl rfl rfl (beq_iff_eq.2 c4) rfl rfl ?_
   refine TL.off rfl rfl rfl rfl (beq_iff_eq.2 c4) rfl rfl ?_
   refine TL.op1 (OpR.pickT rfl (beq_iff_eq.2 c4) rfl) rfl ?_
   refine TL.op1 (OpR.pure rfl) rfl ?_
   refine TL.off rfl rfl rfl rfl rfl rfl rfl ?_
   refine TL.off rfl rfl rfl rfl rfl rfl rfl ?_
   refine TL.off rfl rfl rfl rfl rfl rfl rfl ?_
   refine TL.off rfl rfl rfl rfl rfl rfl rfl ?_
   refine TL.op1 (OpR.pickT rfl rfl rfl) rfl ?_
   refine TL.op1 (OpR.pure rfl) rfl ?_
   refine TL.nil ?_
   obtain rfl := Option.some.inj ht1
   exact ⟨_, Gst.only [4] rfl, rfl⟩
 refine TL.on rfl rfl rfl rfl (beq_eq_false_iff_ne.2 c4) ?_
 refine TL.op1 (OpR.pure rfl) rfl ?_
 refine TL.on rfl rfl rfl rfl (beq_eq_false_iff_ne.2 c4) ?_
 refine TL.op1 (OpR.pure rfl) rfl ?_
 refine TL.on rfl rfl rfl rfl (beq_eq_false_iff_ne.2 c4) ?_
 refine TL.op1 (OpR.indexS hx3 rfl rfl rfl rfl) rfl ?_
 refine TL.on rfl rfl rfl rfl (beq_eq_false_iff_ne.2 c4) ?_
 refine TL.op1 (OpR.pure rfl) rfl ?_
 refine TL.op1 (OpR.pickF rfl (beq_eq_false_iff_ne.2 c4) rfl) rfl ?_
 refine TL.op1 (OpR.pure rfl) rfl ?_
 rcases ite_some ht1 with ⟨c5, ht1⟩ | ⟨c5, ht1⟩
 · refine TL.off rfl rfl rfl rfl (beq_iff_eq.2 c5) rfl rfl ?_
   refine TL.off rfl rfl rfl rfl (beq_iff_eq.2 c5) rfl rfl ?_
   refine TL.off rfl rfl rfl rfl (beq_iff_eq.2 c5) rfl rfl ?_
   refine TL.off rfl rfl rfl rfl (beq_iff_eq.2 c5) rfl rfl ?_
   refine TL.op1 (OpR.pickT rfl (beq_iff_eq.2 c5) rfl) rfl ?_
   refine TL.op1 (OpR.pure rfl) rfl ?_
   refine TL.nil ?_
   obtain rfl := Option.some.inj ht1
   exact ⟨_, Gst.only [4] rfl, rfl⟩
 refine TL.on rfl rfl rfl rfl (beq_eq_false_iff_ne.2 c5) ?_
 refine TL.op1 (OpR.pure rfl) rfl ?_
 refine TL.on rfl rfl rfl rfl (beq_eq_false_iff_ne.2 c5) ?_
 refine TL.op1 (OpR.pure rfl) rfl ?_
 refine TL.on rfl rfl rfl rfl (beq_eq_false_iff_ne.2 c5) ?_
 refine TL.op1 (OpR.indexS hx3 rfl rfl rfl rfl) rfl ?_
 refine TL.on rfl rfl rfl rfl (beq_eq_false_iff_ne.2 c5) ?_
 refine TL.op1 (OpR.pure rfl) rfl ?_
 refine TL.op1 (OpR.pickF rfl (beq_eq_false_iff_ne.2 c5) rfl) rfl ?_
 refine TL.op1 (OpR.pure rfl) rfl ?_
 refine TL.nil ?_
 obtain rfl := Option.some.inj ht1
 exact ⟨_, Gst.only [4] rfl, rfl⟩
noncomputable def ref05_till.l1 (a0 : List UInt8) (s2 : Int) : Option (Lp Int Int) :=
  bnd (ref05_mark a0 s2) fun x10 =>
  if x10 = true then
    some (Lp.done s2)
  else
    some (Lp.next (w64 (s2 + 1)))
noncomputable def ref05_till (a0 : List UInt8) (a1 : Int) : Option Int :=
  bnd (loop (ref05_till.l1 a0) a1 : Option Int) fun t1 =>
  some t1
set_option maxHeartbeats 4000000 in
theorem ref05_till_c {a0 : List UInt8} {a1 : Int} {res : Int} (h0 : ref05_till a0 a1 = some res) : CallF X 123 [.val (.string (bs a0)), .val (.int .i64 a1)] [] (fun x => .val (.int .i64 res)) (fun x => []) := by
 unfold ref05_till at h0
 refine CallF.mkG (X := X) Try.func123 rfl rfl Try.ntmps123 rfl rfl ?_
 refine T.seq ?_
 refine T.region ?_
 refine TL.op1 (OpR.pure rfl) rfl ?_
 refine TL.nil ?_
 show T X _ _ _
 refine T.seq ?_
 obtain ⟨t1, ht1, h0⟩ := bnd_some h0
 refine T.cutC (fun S' => S' = ⟨[(4, .val (.int .i64 0)), (1, .val (.int .i64 t1))], [], 12⟩) (fun _ h => h) ?_ ?_
 rotate_left
 · rintro _ rfl
   show T X _ _ _
   refine T.seq ?_
   refine T.region ?_
   refine TL.op1 (OpR.pure rfl) rfl ?_
   refine TL.op1 (OpR.pure rfl) rfl ?_
   refine TL.nil ?_
   show T X _ _ _
   refine T.ret ?_
   obtain rfl := Option.some.inj h0
   exact PostG.retP (ks := []) (Gst.only [4] rfl) undef (ResL.cons (ResV.tmp rfl) ResL.nil) rfl rfl rfl rfl
 refine T.block ?_
 obtain ⟨n3, n8⟩ := loop_some ht1
 refine T.loop (fun n S' => ∃ S'', Gst S' S'' ∧ ∃ s2 : Int, S'' = ⟨[(4, .val (.int .i64 0)), (1, .val (.int .i64 s2)), (0, .val (.string (bs a0)))], [], 12⟩ ∧ iter (ref05_till.l1 a0) n s2 = some t1) n3 ?_ ?_
 · exact ⟨_, Gst.only [0, 1, 4] rfl, a1, rfl, n8⟩
 rintro n3 _ ⟨_, g, s2, rfl, i7⟩
 refine T.ghost g ?_
 obtain ⟨m4, q5, rfl, q6, i7⟩ := iter_succ i7
 unfold ref05_till.l1 at q6
 refine T.seq ?_
 refine T.seq ?_
 refine T.region ?_
 refine TL.op1 (OpR.pure rfl) rfl ?_
 refine TL.op1 (OpR.pure rfl) rfl ?_
 obtain ⟨x10, hx10, q6⟩ := bnd_some q6
 refine TL.op1 (OpR.call0 fn167 (ref05_mark_c hx10) rfl) rfl ?_
 refine TL.op1 (OpR.pure rfl) rfl ?_
 refine TL.nil ?_
 show T X _ _ _
 rcases ite_some q6 with ⟨c11, q6⟩ | ⟨c11, q6⟩
 · refine T.condF rfl (not_t (c11)) ?_
   refine T.exit ?_
   obtain rfl := Option.some.inj q6
   obtain rfl : _ = _ := i7
   exact ⟨_, Gst.only [1, 4] rfl, rfl⟩
 refine T.condT rfl (not_f (eq_false_of_ne_true c11)) ?_
 refine T.skip ?_
 show T X _ _ _
 refine T.block ?_
 refine T.region ?_
 refine TL.op1 (OpR.pure rfl) rfl ?_
 refine TL.op1 (OpR.pure rfl) rfl ?_
 refine TL.op1 (OpR.pure rfl) rfl ?_
 refine TL.nil ?_
 obtain rfl := Option.some.inj q6
 exact ⟨m4, Nat.lt_succ_self _, _, Gst.only [0, 1, 4] rfl, w64 (s2 + 1), rfl, i7⟩
noncomputable def ref05_places_2.l1 (a1 : Int) (s4 : Int × (List Int)) : Option (Lp (Int × (List Int)) (List Int)) :=
  if s4.1 < a1 then
    bnd (app 8 s4.2 [s4.1]) fun x13 =>
    some (Lp.next (w64 (s4.1 + 1), x13))
  else
    some (Lp.done s4.2)
noncomputable def ref05_places_2 (a0 : Int) (a1 : Int) (a2 : List Int) : Option (List Int) :=
  bnd (loop (ref05_places_2.l1 a1) (a0, a2) : Option (List Int)) fun t1 =>
  some t1
set_option maxHeartbeats 4000000 in
theorem ref05_places_2_c {a0 : Int} {a1 : Int} {a2 : List Int} {v0 : Value} {res : (List Int)} (h0 : ref05_places_2 a0 a1 a2 = some res) : CallF X 124 [.val v0, .val (.int .i64 a0), .val (.int .i64 a1)] [.row v0 (List.map (eI .i64) a2) 1 3] (fun x => .val (vn x 0)) (fun x => [.row (vn x 0) (List.map (eI .i64) res) 1 3]) := by
 unfold ref05_places_2 at h0
 refine CallF.mkG (X := X) Try.func124 rfl rfl Try.ntmps124 rfl rfl ?_
 refine T.seq ?_
 refine T.region ?_
 refine TL.op1 (OpR.pure rfl) rfl ?_
 refine TL.nil ?_
 show T X _ _ _
 refine T.seq ?_
 refine T.seq ?_
 refine T.region ?_
 refine TL.op1 (OpR.pure rfl) rfl ?_
 refine TL.op1 (OpR.pure rfl) rfl ?_
 refine TL.nil ?_
 show T X _ _ _
 obtain ⟨t1, ht1, h0⟩ := bnd_some h0
 refine T.cutC (fun S' => ∃ y2 : Value, S' = ⟨[(6, .val (.slice none 0 0)), (0, .val y2)], [.row y2 (List.map (eI .i64) t1) 1 3], 19⟩) (fun _ h => h) ?_ ?_
 rotate_left
 · rintro _ ⟨y2, rfl⟩
   show T X _ _ _
   refine T.seq ?_
   refine T.region ?_
   refine TL.op1 (OpR.pure rfl) rfl ?_
   refine TL.op1 (OpR.pure rfl) rfl ?_
   refine TL.nil ?_
   show T X _ _ _
   refine T.ret ?_
   obtain rfl := Option.some.inj h0
   exact PostG.retP (ks := [0]) (Gst.only [6] rfl) (.tuple #[y2]) (ResL.cons (ResV.tmp rfl) ResL.nil) rfl rfl rfl rfl
 refine T.block ?_
 obtain ⟨n5, n10⟩ := loop_some ht1
 refine T.loop (fun n S' => ∃ S'', Gst S' S'' ∧ ∃ y3 : Value, ∃ s4 : Int × (List Int), S'' = ⟨[(7, .val (.int .i64 s4.1)), (6, .val (.slice none 0 0)), (2, .val (.int .i64 a1)), (0, .val y3)], [.row y3 (List.map (eI .i64) s4.2) 1 3], 19⟩ ∧ iter (ref05_places_2.l1 a1) n s4 = some t1) n5 ?_ ?_
 · exact ⟨_, Gst.only [0, 2, 6, 7] rfl, v0, (a0, a2), rfl, n10⟩
 rintro n5 _ ⟨_, g, y3, s4, rfl, i9⟩
 refine T.ghost g ?_
 obtain ⟨m6, q7, rfl, q8, i9⟩ := iter_succ i9
 unfold ref05_places_2.l1 at q8
 refine T.seq ?_
 refine T.seq ?_
 refine T.region ?_
 refine TL.op1 (OpR.pure rfl) rfl ?_
 refine TL.op1 (OpR.pure rfl) rfl ?_
 refine TL.op1 (OpR.pure rfl) rfl ?_
 refine TL.nil ?_
 show T X _ _ _
 rcases ite_some q8 with ⟨c12, q8⟩ | ⟨c12, q8⟩
 rotate_left
 · refine T.condF rfl (decide_eq_false c12) ?_
   refine T.exit ?_
   obtain rfl := Option.some.inj q8
   obtain rfl : _ = _ := i9
   exact ⟨_, Gst.only [0, 6] rfl, y3, rfl⟩
 refine T.condT rfl (decide_eq_true c12) ?_
 refine T.skip ?_
 show T X _ _ _
 refine T.seq ?_
 refine T.block ?_
 refine T.region ?_
 refine TL.op1 (OpR.pure rfl) rfl ?_
 refine TL.op1 (OpR.pure rfl) rfl ?_
 refine TL.op1 (OpR.lit rfl rfl rfl rfl rfl rfl rfl) rfl ?_
 obtain ⟨x13, hx13, q8⟩ := bnd_some q8
 refine TL.op (OpR.appendM (m := [s4.1]) (eI .i64) 0 hx13 rfl rfl rfl rfl rfl rfl rfl rfl rfl (fun _ => rfl)) rfl (fun v14 => ?_)
 refine TL.op1 (OpR.pure rfl) rfl ?_
 refine TL.nil ?_
 show T X _ _ _
 refine T.region ?_
 refine TL.op1 (OpR.pure rfl) rfl ?_
 refine TL.op1 (OpR.pure rfl) rfl ?_
 refine TL.op1 (OpR.pure rfl) rfl ?_
 refine TL.nil ?_
 obtain rfl := Option.some.inj q8
 exact ⟨m6, Nat.lt_succ_self _, _, Gst.only [0, 2, 6, 7] rfl, v14, (w64 (s4.1 + 1), x13), rfl, i9⟩
noncomputable def ref05_places.l1 (a1 : Int) (s4 : Int × (List Int)) : Option (Lp (Int × (List Int)) (List Int)) :=
  if s4.1 < a1 then
    bnd (app 8 s4.2 [s4.1]) fun x13 =>
    some (Lp.next (w64 (s4.1 + 1), x13))
  else
    some (Lp.done s4.2)
noncomputable def ref05_places (a0 : Int) (a1 : Int) : Option (List Int) :=
  bnd (loop (ref05_places.l1 a1) (a0, []) : Option (List Int)) fun t1 =>
  some t1
set_option maxHeartbeats 4000000 in
theorem ref05_places_c {a0 : Int} {a1 : Int} {res : (List Int)} (h0 : ref05_places a0 a1 = some res) : CallF X 124 [.val (.slice none 0 0), .val (.int .i64 a0), .val (.int .i64 a1)] [] (fun x => .sl 1 (List.map (eI .i64) res)) (fun x => []) := by
 unfold ref05_places at h0
 refine CallF.mkG (X := X) Try.func124 rfl rfl Try.ntmps124 rfl rfl ?_
 refine T.seq ?_
 refine T.region ?_
 refine TL.op1 (OpR.pure rfl) rfl ?_
 refine TL.nil ?_
 show T X _ _ _
 refine T.seq ?_
 refine T.seq ?_
 refine T.region ?_
 refine TL.op1 (OpR.pure rfl) rfl ?_
 refine TL.op1 (OpR.pure rfl) rfl ?_
 refine TL.nil ?_
 show T X _ _ _
 obtain ⟨t1, ht1, h0⟩ := bnd_some h0
 refine T.cutC (fun S' => ∃ y2 : Value, S' = ⟨[(6, .val (.slice none 0 0)), (0, .val y2)], [.row y2 (List.map (eI .i64) t1) 1 3], 19⟩) (fun _ h => h) ?_ ?_
 rotate_left
 · rintro _ ⟨y2, rfl⟩
   show T X _ _ _
   refine T.seq ?_
   refine T.region ?_
   refine TL.op1 (OpR.pure rfl) rfl ?_
   refine TL.op1 (OpR.pure rfl) rfl ?_
   refine TL.nil ?_
   show T X _ _ _
   refine T.ret ?_
   obtain rfl := Option.some.inj h0
   exact PostG.retP (ks := []) (Gst.trans (Gst.only [6] rfl) (Gst.trans (Gst.freezeRow 0 rfl rfl (ReS.cons (Re.base .all) ReS.nil) (ReO.same ReO.nil)) (Gst.pick [] rfl rfl))) undef (ResL.cons (ResV.tmp rfl) ResL.nil) rfl rfl rfl rfl
 refine T.block ?_
 obtain ⟨n5, n10⟩ := loop_some ht1
 refine T.loop (fun n S' => ∃ S'', Gst S' S'' ∧ ∃ y3 : Value, ∃ s4 : Int × (List Int), S'' = ⟨[(7, .val (.int .i64 s4.1)), (6, .val (.slice none 0 0)), (2, .val (.int .i64 a1)), (0, .val y3)], [.row y3 (List.map (eI .i64) s4.2) 1 3], 19⟩ ∧ iter (ref05_places.l1 a1) n s4 = some t1) n5 ?_ ?_
 · exact ⟨_, Gst.trans (Gst.only [0, 2, 6, 7] rfl) (Gst.nilRow (ow := []) 1 3 rfl), (.slice none 0 0), (a0, []), rfl, n10⟩
 rintro n5 _ ⟨_, g, y3, s4, rfl, i9⟩
 refine T.ghost g ?_
 obtain ⟨m6, q7, rfl, q8, i9⟩ := iter_succ i9
 unfold ref05_places.l1 at q8
 refine T.seq ?_
 refine T.seq ?_
 refine T.region ?_
 refine TL.op1 (OpR.pure rfl) rfl ?_
 refine TL.op1 (OpR.pure rfl) rfl ?_
 refine TL.op1 (OpR.pure rfl) rfl ?_
 refine TL.nil ?_
 show T X _ _ _
 rcases ite_some q8 with ⟨c12, q8⟩ | ⟨c12, q8⟩
 rotate_left
 · refine T.condF rfl (decide_eq_false c12) ?_
   refine T.exit ?_
   obtain rfl := Option.some.inj q8
   obtain rfl : _ = _ := i9
   exact ⟨_, Gst.only [0, 6] rfl, y3, rfl⟩
 refine T.condT rfl (decide_eq_true c12) ?_
 refine T.skip ?_
 show T X _ _ _
 refine T.seq ?_
 refine T.block ?_
 refine T.region ?_
 refine TL.op1 (OpR.pure rfl) rfl ?_
 refine TL.op1 (OpR.pure rfl) rfl ?_
 refine TL.op1 (OpR.lit rfl rfl rfl rfl rfl rfl rfl) rfl ?_
 obtain ⟨x13, hx13, q8⟩ := bnd_some q8
 refine TL.op (OpR.appendM (m := [s4.1]) (eI .i64) 0 hx13 rfl rfl rfl rfl rfl rfl rfl rfl rfl (fun _ => rfl)) rfl (fun v14 => ?_)
 refine TL.op1 (OpR.pure rfl) rfl ?_
 refine TL.nil ?_
 show T X _ _ _
 refine T.region ?_
 refine TL.op1 (OpR.pure rfl) rfl ?_
 refine TL.op1 (OpR.pure rfl) rfl ?_
 refine TL.op1 (OpR.pure rfl) rfl ?_
 refine TL.nil ?_
 obtain rfl := Option.some.inj q8
 exact ⟨m6, Nat.lt_succ_self _, _, Gst.only [0, 2, 6, 7] rfl, v14, (w64 (s4.1 + 1), x13), rfl, i9⟩
noncomputable def ref05_field.l1 (a0 : List UInt8) (s8 : Int × (List Int)) : Option (Lp (Int × (List Int)) (Int × (List Int))) :=
  bnd (if s8.1 < (a0.length : Int) then
    bnd (ref05_quote a0 s8.1) fun x18 =>
    if x18 = true then
      bnd (ref05_quote a0 (w64 (s8.1 + 1))) fun x20 =>
      some x20
    else
      some true
  else
    some false : Option Bool) fun t16 =>
  if t16 = true then
    bnd (app 8 s8.2 [s8.1]) fun x22 =>
    bnd (ref05_quote a0 s8.1) fun x24 =>
    bnd (if x24 = true then
      some (w64 (s8.1 + 1))
    else
      some s8.1 : Option Int) fun t25 =>
    some (Lp.next (w64 (t25 + 1), x22))
  else
    some (Lp.done (s8.1, s8.2))
noncomputable def ref05_field.l2 (a0 : List UInt8) (x33 : Int) (s36 : Int × Int) : Option (Lp (Int × Int) Int) :=
  if s36.1 < x33 then
    bnd (ref05_quote a0 s36.1) fun x45 =>
    bnd (if x45 = true then
      some 2
    else
      some s36.2 : Option Int) fun t46 =>
    some (Lp.next (w64 (s36.1 + 1), t46))
  else
    some (Lp.done s36.2)
noncomputable def ref05_field (a0 : List UInt8) (a1 : Int) : Option ref05_Field :=
  bnd (ref05_quote a0 a1) fun x3 =>
  if x3 = true then
    bnd (loop (ref05_field.l1 a0) (w64 (a1 + 1), []) : Option (Int × (List Int))) fun t5 =>
    if t5.1 ≥ (a0.length : Int) then
      some (⟨(⟨a1, w64 ((a0.length : Int) - a1)⟩ : ref03_Span), 4, t5.2⟩ : ref05_Field)
    else
      bnd (ref05_till a0 (w64 (t5.1 + 1))) fun x28 =>
      bnd (if x28 > (w64 (t5.1 + 1)) then
        some 3
      else
        some 1 : Option Int) fun t29 =>
      bnd (ref05_places_2 (w64 (t5.1 + 1)) x28 t5.2) fun x31 =>
      some (⟨(⟨a1, w64 (x28 - a1)⟩ : ref03_Span), t29, x31⟩ : ref05_Field)
  else
    bnd (ref05_till a0 a1) fun x33 =>
    bnd (ref05_places a1 x33) fun x34 =>
    bnd (loop (ref05_field.l2 a0 x33) (a1, 0) : Option Int) fun t35 =>
    some (⟨(⟨a1, w64 (x33 - a1)⟩ : ref03_Span), t35, x34⟩ : ref05_Field)
set_option maxHeartbeats 4000000 in
theorem ref05_field_c {a0 : List UInt8} {a1 : Int} {res : ref05_Field} (h0 : ref05_field a0 a1 = some res) : CallF X 71 [.val (.string (bs a0)), .val (.int .i64 a1)] [] (fun x => .agg [.val (.int .i64 res.fRaw.fAt), .val (.int .i64 res.fRaw.fN), .val (.int .i64 res.fKind), .sl 1 (List.map (eI .i64) res.fBytes)]) (fun x => []) := by
 unfold ref05_field at h0
 refine CallF.mkG (X := X) Try.func71 rfl rfl Try.ntmps71 rfl rfl ?_
 refine T.seq ?_
 refine T.region ?_
 refine TL.op (OpR.alloc rfl rfl (fun _ => rfl)) rfl (fun p1 => ?_)
 refine TL.nil ?_
 show T X _ _ _
 refine T.seq ?_
 refine T.region ?_
 refine TL.op1 (OpR.build rfl rfl rfl rfl rfl) rfl ?_
 refine TL.op (OpR.alloc rfl rfl (fun _ => rfl)) rfl (fun p2 => ?_)
 refine TL.op0 (OpR.store 1 rfl rfl rfl rfl rfl rfl rfl rfl) ?_
 refine TL.nil ?_
 show T X _ _ _
 refine T.seq ?_
 refine T.seq ?_
 refine T.region ?_
 refine TL.op1 (OpR.pure rfl) rfl ?_
 refine TL.op1 (OpR.pure rfl) rfl ?_
 obtain ⟨x3, hx3, h0⟩ := bnd_some h0
 refine TL.op1 (OpR.call0 fn122 (ref05_quote_c hx3) rfl) rfl ?_
 refine TL.op1 (OpR.pure rfl) rfl ?_
 refine TL.nil ?_
 show T X _ _ _
 rcases ite_some h0 with ⟨c4, h0⟩ | ⟨c4, h0⟩
 rotate_left
 · refine T.condT rfl (not_f (eq_false_of_ne_true c4)) ?_
   refine T.seq ?_
   refine T.region ?_
   refine TL.op1 (OpR.pure rfl) rfl ?_
   refine TL.op1 (OpR.pure rfl) rfl ?_
   obtain ⟨x33, hx33, h0⟩ := bnd_some h0
   refine TL.op1 (OpR.call0 fn123 (ref05_till_c hx33) rfl) rfl ?_
   refine TL.op1 (OpR.pure rfl) rfl ?_
   refine TL.nil ?_
   show T X _ _ _
   refine T.seq ?_
   refine T.region ?_
   refine TL.op1 (OpR.pure rfl) rfl ?_
   refine TL.op1 (OpR.pure rfl) rfl ?_
   refine TL.op1 (OpR.pure rfl) rfl ?_
   refine TL.op1 (OpR.pure rfl) rfl ?_
   refine TL.op1 (OpR.build rfl rfl rfl rfl rfl) rfl ?_
   refine TL.op1 (OpR.pure rfl) rfl ?_
   refine TL.op0 (OpR.store 1 rfl rfl rfl rfl rfl rfl rfl rfl) ?_
   refine TL.nil ?_
   show T X _ _ _
   refine T.seq ?_
   refine T.region ?_
   refine TL.op1 (OpR.pure rfl) rfl ?_
   refine TL.op1 (OpR.pure rfl) rfl ?_
   obtain ⟨x34, hx34, h0⟩ := bnd_some h0
   refine TL.op1 (OpR.call0 fn124 (ref05_places_c hx34) rfl) rfl ?_
   refine TL.op1 (OpR.pure rfl) rfl ?_
   refine TL.op0 (OpR.store 1 rfl rfl rfl rfl rfl rfl rfl rfl) ?_
   refine TL.nil ?_
   show T X _ _ _
   refine T.seq ?_
   refine T.seq ?_
   refine T.region ?_
   refine TL.op1 (OpR.pure rfl) rfl ?_
   refine TL.op1 (OpR.pure rfl) rfl ?_
   refine TL.nil ?_
   show T X _ _ _
   obtain ⟨t35, ht35, h0⟩ := bnd_some h0
   refine T.cutC (fun S' => S' = ⟨[(5, .val (.pointer (some ⟨(blk p2), 0, none⟩))), (4, .val (.pointer (some ⟨(blk p1), 0, none⟩))), (1, .val (.int .i64 a1)), (0, .val (.string (bs a0)))], [.var (blk p1) [.val (.int .i64 0), .val (.int .i64 0), .val (.int .i64 0), .val (.slice none 0 0)] 152, .var (blk p2) [.val (.int .i64 a1), .val (.int .i64 (w64 (x33 - a1))), .val (.int .i64 t35), .sl 1 (List.map (eI .i64) x34)] 152], 107⟩) (fun _ h => h) ?_ ?_
   rotate_left
   · rintro _ rfl
     show T X _ _ _
     refine T.seq ?_
     refine T.region ?_
     refine TL.op1 (OpR.loadPtr 1 rfl rfl rfl rfl) rfl ?_
     refine TL.op0 (OpR.store 0 rfl rfl rfl rfl rfl rfl rfl rfl) ?_
     refine TL.nil ?_
     show T X _ _ _
     refine T.ret ?_
     obtain rfl := Option.some.inj h0
     exact PostG.retP (ks := []) (Gst.trans (Gst.only [4] rfl) (Gst.pick [0] rfl rfl)) undef (ResL.cons (ResV.var 0 rfl rfl rfl rfl) ResL.nil) rfl rfl rfl rfl
   refine T.block ?_
   obtain ⟨n37, n42⟩ := loop_some ht35
   refine T.loop (fun n S' => ∃ S'', Gst S' S'' ∧ ∃ s36 : Int × Int, S'' = ⟨[(7, .val (.int .i64 s36.1)), (6, .val (.int .i64 x33)), (5, .val (.pointer (some ⟨(blk p2), 0, none⟩))), (4, .val (.pointer (some ⟨(blk p1), 0, none⟩))), (1, .val (.int .i64 a1)), (0, .val (.string (bs a0)))], [.var (blk p1) [.val (.int .i64 0), .val (.int .i64 0), .val (.int .i64 0), .val (.slice none 0 0)] 152, .var (blk p2) [.val (.int .i64 a1), .val (.int .i64 (w64 (x33 - a1))), .val (.int .i64 s36.2), .sl 1 (List.map (eI .i64) x34)] 152], 107⟩ ∧ iter (ref05_field.l2 a0 x33) n s36 = some t35) n37 ?_ ?_
   · exact ⟨_, Gst.only [0, 1, 4, 5, 6, 7] rfl, (a1, 0), rfl, n42⟩
   rintro n37 _ ⟨_, g, s36, rfl, i41⟩
   refine T.ghost g ?_
   obtain ⟨m38, q39, rfl, q40, i41⟩ := iter_succ i41
   unfold ref05_field.l2 at q40
   refine T.seq ?_
   refine T.seq ?_
   refine T.region ?_
   refine TL.op1 (OpR.pure rfl) rfl ?_
   refine TL.op1 (OpR.pure rfl) rfl ?_
   refine TL.op1 (OpR.pure rfl) rfl ?_
   refine TL.nil ?_
   show T X _ _ _
   rcases ite_some q40 with ⟨c44, q40⟩ | ⟨c44, q40⟩
   rotate_left
   · refine T.condF rfl (decide_eq_false c44) ?_
     refine T.exit ?_
     obtain rfl := Option.some.inj q40
     obtain rfl : _ = _ := i41
     exact ⟨_, Gst.only [0, 1, 4, 5] rfl, rfl⟩
   refine T.condT rfl (decide_eq_true c44) ?_
   refine T.skip ?_
   show T X _ _ _
   refine T.seq ?_
   refine T.block ?_
   refine T.seq ?_
   refine T.region ?_
   refine TL.op1 (OpR.pure rfl) rfl ?_
   refine TL.op1 (OpR.pure rfl) rfl ?_
   obtain ⟨x45, hx45, q40⟩ := bnd_some q40
   refine TL.op1 (OpR.call0 fn122 (ref05_quote_c hx45) rfl) rfl ?_
   refine TL.nil ?_
   show T X _ _ _
   obtain ⟨t46, ht46, q40⟩ := bnd_some q40
   refine T.cutC (fun S' => S' = ⟨[(7, .val (.int .i64 s36.1)), (6, .val (.int .i64 x33)), (5, .val (.pointer (some ⟨(blk p2), 0, none⟩))), (4, .val (.pointer (some ⟨(blk p1), 0, none⟩))), (1, .val (.int .i64 a1)), (0, .val (.string (bs a0)))], [.var (blk p1) [.val (.int .i64 0), .val (.int .i64 0), .val (.int .i64 0), .val (.slice none 0 0)] 152, .var (blk p2) [.val (.int .i64 a1), .val (.int .i64 (w64 (x33 - a1))), .val (.int .i64 t46), .sl 1 (List.map (eI .i64) x34)] 152], 107⟩) (fun _ h => h) ?_ ?_
   rotate_left
   · rintro _ rfl
     show T X _ _ _
     refine T.region ?_
     refine TL.op1 (OpR.pure rfl) rfl ?_
     refine TL.op1 (OpR.pure rfl) rfl ?_
     refine TL.op1 (OpR.pure rfl) rfl ?_
     refine TL.nil ?_
     obtain rfl := Option.some.inj q40
     exact ⟨m38, Nat.lt_succ_self _, _, Gst.only [0, 1, 4, 5, 6, 7] rfl, (w64 (s36.1 + 1), t46), rfl, i41⟩
   rcases ite_some ht46 with ⟨c47, ht46⟩ | ⟨c47, ht46⟩
   rotate_left
   · refine T.condF rfl (eq_false_of_ne_true c47) ?_
     refine T.skip ?_
     obtain rfl := Option.some.inj ht46
     exact ⟨_, Gst.only [0, 1, 4, 5, 6, 7] rfl, rfl⟩
   refine T.condT rfl (c47) ?_
   refine T.region ?_
   refine TL.op1 (OpR.pure rfl) rfl ?_
   refine TL.op0 (OpR.store 1 rfl rfl rfl rfl rfl rfl rfl rfl) ?_
   refine TL.nil ?_
   obtain rfl := Option.some.inj ht46
   exact ⟨_, Gst.only [0, 1, 4, 5, 6, 7] rfl, rfl⟩
 refine T.condF rfl (not_t (c4)) ?_
 refine T.skip ?_
 show T X _ _ _
 refine T.seq ?_
 refine T.region ?_
 refine TL.op1 (OpR.pure rfl) rfl ?_
 refine TL.op1 (OpR.pure rfl) rfl ?_
 refine TL.op1 (OpR.pure rfl) rfl ?_
 refine TL.nil ?_
 show T X _ _ _
 refine T.seq ?_
 obtain ⟨t5, ht5, h0⟩ := bnd_some h0
 refine T.cutC (fun S' => ∃ y6 : Value, S' = ⟨[(8, .val (.int .i64 t5.1)), (5, .val (.pointer (some ⟨(blk p2), 0, none⟩))), (4, .val (.pointer (some ⟨(blk p1), 0, none⟩))), (1, .val (.int .i64 a1)), (0, .val (.string (bs a0)))], [.var (blk p1) [.val (.int .i64 0), .val (.int .i64 0), .val (.int .i64 0), .val (.slice none 0 0)] 152, .var (blk p2) [.val (.int .i64 0), .val (.int .i64 0), .val (.int .i64 0), .val y6] 152, .row y6 (List.map (eI .i64) t5.2) 1 3], 107⟩) (fun _ h => h) ?_ ?_
 rotate_left
 · rintro _ ⟨y6, rfl⟩
   show T X _ _ _
   refine T.seq ?_
   refine T.seq ?_
   refine T.region ?_
   refine TL.op1 (OpR.pure rfl) rfl ?_
   refine TL.op1 (OpR.pure rfl) rfl ?_
   refine TL.op1 (OpR.cast (OpR.pure rfl) (intE (lenS _))) rfl ?_
   refine TL.op1 (OpR.pure rfl) rfl ?_
   refine TL.nil ?_
   show T X _ _ _
   rcases ite_some h0 with ⟨c27, h0⟩ | ⟨c27, h0⟩
   · refine T.condT rfl (decide_eq_true c27) ?_
     refine T.seq ?_
     refine T.region ?_
     refine TL.op1 (OpR.pure rfl) rfl ?_
     refine TL.op0 (OpR.store 1 rfl rfl rfl rfl rfl rfl rfl rfl) ?_
     refine TL.nil ?_
     show T X _ _ _
     refine T.seq ?_
     refine T.region ?_
     refine TL.op1 (OpR.pure rfl) rfl ?_
     refine TL.op1 (OpR.pure rfl) rfl ?_
     refine TL.op1 (OpR.cast (OpR.pure rfl) (intE (lenS _))) rfl ?_
     refine TL.op1 (OpR.pure rfl) rfl ?_
     refine TL.op1 (OpR.pure rfl) rfl ?_
     refine TL.op1 (OpR.build rfl rfl rfl rfl rfl) rfl ?_
     refine TL.op1 (OpR.pure rfl) rfl ?_
     refine TL.op0 (OpR.store 1 rfl rfl rfl rfl rfl rfl rfl rfl) ?_
     refine TL.nil ?_
     show T X _ _ _
     refine T.seq ?_
     refine T.region ?_
     refine TL.op1 (OpR.loadPtr 1 rfl rfl rfl rfl) rfl ?_
     refine TL.op0 (OpR.store 0 rfl rfl rfl rfl rfl rfl rfl rfl) ?_
     refine TL.nil ?_
     show T X _ _ _
     refine T.ret ?_
     obtain rfl := Option.some.inj h0
     exact PostG.retP (ks := []) (Gst.trans (Gst.only [4] rfl) (Gst.trans (Gst.freezeRow 2 rfl rfl (ReS.cons Re.refl ReS.nil) (ReO.var (ReL.cons Re.refl (ReL.cons Re.refl (ReL.cons Re.refl (ReL.cons (Re.base .all) ReL.nil)))) (ReO.var (ReL.cons Re.refl (ReL.cons Re.refl (ReL.cons Re.refl (ReL.cons (Re.base .all) ReL.nil)))) (ReO.same ReO.nil)))) (Gst.pick [0] rfl rfl))) undef (ResL.cons (ResV.var 0 rfl rfl rfl rfl) ResL.nil) rfl rfl rfl rfl
   refine T.condF rfl (decide_eq_false c27) ?_
   refine T.skip ?_
   show T X _ _ _
   refine T.seq ?_
   refine T.region ?_
   refine TL.op1 (OpR.pure rfl) rfl ?_
   refine TL.op1 (OpR.pure rfl) rfl ?_
   refine TL.op1 (OpR.pure rfl) rfl ?_
   obtain ⟨x28, hx28, h0⟩ := bnd_some h0
   refine TL.op1 (OpR.call0 fn123 (ref05_till_c hx28) rfl) rfl ?_
   refine TL.op1 (OpR.pure rfl) rfl ?_
   refine TL.nil ?_
   show T X _ _ _
   refine T.seq ?_
   refine T.region ?_
   refine TL.op1 (OpR.pure rfl) rfl ?_
   refine TL.op0 (OpR.store 1 rfl rfl rfl rfl rfl rfl rfl rfl) ?_
   refine TL.nil ?_
   show T X _ _ _
   refine T.seq ?_
   refine T.seq ?_
   refine T.region ?_
   refine TL.op1 (OpR.pure rfl) rfl ?_
   refine TL.op1 (OpR.pure rfl) rfl ?_
   refine TL.op1 (OpR.pure rfl) rfl ?_
   refine TL.op1 (OpR.pure rfl) rfl ?_
   refine TL.nil ?_
   show T X _ _ _
   obtain ⟨t29, ht29, h0⟩ := bnd_some h0
   refine T.cutC (fun S' => S' = ⟨[(9, .val (.int .i64 x28)), (8, .val (.int .i64 t5.1)), (5, .val (.pointer (some ⟨(blk p2), 0, none⟩))), (4, .val (.pointer (some ⟨(blk p1), 0, none⟩))), (1, .val (.int .i64 a1))], [.var (blk p1) [.val (.int .i64 0), .val (.int .i64 0), .val (.int .i64 0), .val (.slice none 0 0)] 152, .var (blk p2) [.val (.int .i64 0), .val (.int .i64 0), .val (.int .i64 t29), .val y6] 152, .row y6 (List.map (eI .i64) t5.2) 1 3], 107⟩) (fun _ h => h) ?_ ?_
   · rcases ite_some ht29 with ⟨c30, ht29⟩ | ⟨c30, ht29⟩
     rotate_left
     · refine T.condF rfl (decide_eq_false c30) ?_
       refine T.skip ?_
       obtain rfl := Option.some.inj ht29
       exact ⟨_, Gst.only [1, 4, 5, 8, 9] rfl, rfl⟩
     refine T.condT rfl (decide_eq_true c30) ?_
     refine T.region ?_
     refine TL.op1 (OpR.pure rfl) rfl ?_
     refine TL.op0 (OpR.store 1 rfl rfl rfl rfl rfl rfl rfl rfl) ?_
     refine TL.nil ?_
     obtain rfl := Option.some.inj ht29
     exact ⟨_, Gst.only [1, 4, 5, 8, 9] rfl, rfl⟩
   rintro _ rfl
   show T X _ _ _
   refine T.seq ?_
   refine T.region ?_
   refine TL.op1 (OpR.pure rfl) rfl ?_
   refine TL.op1 (OpR.loadPtr 1 rfl rfl rfl rfl) rfl ?_
   refine TL.op1 (OpR.pure rfl) rfl ?_
   refine TL.op1 (OpR.pure rfl) rfl ?_
   refine TL.op1 (OpR.pure rfl) rfl ?_
   obtain ⟨x31, hx31, h0⟩ := bnd_some h0
   refine TL.op (OpR.call [2] fn124 (ref05_places_2_c hx31) rfl rfl rfl (fun _ => rfl)) rfl (fun w32 => ?_)
   refine TL.op1 (OpR.pure rfl) rfl ?_
   refine TL.op0 (OpR.store 1 rfl rfl rfl rfl rfl rfl rfl rfl) ?_
   refine TL.nil ?_
   show T X _ _ _
   refine T.seq ?_
   refine T.region ?_
   refine TL.op1 (OpR.pure rfl) rfl ?_
   refine TL.op1 (OpR.pure rfl) rfl ?_
   refine TL.op1 (OpR.pure rfl) rfl ?_
   refine TL.op1 (OpR.pure rfl) rfl ?_
   refine TL.op1 (OpR.build rfl rfl rfl rfl rfl) rfl ?_
   refine TL.op1 (OpR.pure rfl) rfl ?_
   refine TL.op0 (OpR.store 1 rfl rfl rfl rfl rfl rfl rfl rfl) ?_
   refine TL.nil ?_
   show T X _ _ _
   refine T.seq ?_
   refine T.region ?_
   refine TL.op1 (OpR.loadPtr 1 rfl rfl rfl rfl) rfl ?_
   refine TL.op0 (OpR.store 0 rfl rfl rfl rfl rfl rfl rfl rfl) ?_
   refine TL.nil ?_
   show T X _ _ _
   refine T.ret ?_
   obtain rfl := Option.some.inj h0
   exact PostG.retP (ks := []) (Gst.trans (Gst.only [4] rfl) (Gst.trans (Gst.freezeRow 2 rfl rfl (ReS.cons Re.refl ReS.nil) (ReO.var (ReL.cons Re.refl (ReL.cons Re.refl (ReL.cons Re.refl (ReL.cons (Re.base .all) ReL.nil)))) (ReO.var (ReL.cons Re.refl (ReL.cons Re.refl (ReL.cons Re.refl (ReL.cons (Re.base .all) ReL.nil)))) (ReO.same ReO.nil)))) (Gst.pick [0] rfl rfl))) undef (ResL.cons (ResV.var 0 rfl rfl rfl rfl) ResL.nil) rfl rfl rfl rfl
 refine T.block ?_
 obtain ⟨n9, n14⟩ := loop_some ht5
 refine T.loop (fun n S' => ∃ S'', Gst S' S'' ∧ ∃ y7 : Value, ∃ s8 : Int × (List Int), S'' = ⟨[(8, .val (.int .i64 s8.1)), (5, .val (.pointer (some ⟨(blk p2), 0, none⟩))), (4, .val (.pointer (some ⟨(blk p1), 0, none⟩))), (1, .val (.int .i64 a1)), (0, .val (.string (bs a0)))], [.var (blk p1) [.val (.int .i64 0), .val (.int .i64 0), .val (.int .i64 0), .val (.slice none 0 0)] 152, .var (blk p2) [.val (.int .i64 0), .val (.int .i64 0), .val (.int .i64 0), .val y7] 152, .row y7 (List.map (eI .i64) s8.2) 1 3], 107⟩ ∧ iter (ref05_field.l1 a0) n s8 = some t5) n9 ?_ ?_
 · exact ⟨_, Gst.trans (Gst.only [0, 1, 4, 5, 8] rfl) (Gst.nilRow (ow := [.var (blk p1) [.val (.int .i64 0), .val (.int .i64 0), .val (.int .i64 0), .val (.slice none 0 0)] 152, .var (blk p2) [.val (.int .i64 0), .val (.int .i64 0), .val (.int .i64 0), .val (.slice none 0 0)] 152]) 1 3 rfl), (.slice none 0 0), (w64 (a1 + 1), []), rfl, n14⟩
 rintro n9 _ ⟨_, g, y7, s8, rfl, i13⟩
 refine T.ghost g ?_
 obtain ⟨m10, q11, rfl, q12, i13⟩ := iter_succ i13
 unfold ref05_field.l1 at q12
 refine T.seq ?_
 refine T.seq ?_
 obtain ⟨t16, ht16, q12⟩ := bnd_some q12
 refine T.cutC (fun S' => S' = ⟨[(56, .val (.bool t16)), (8, .val (.int .i64 s8.1)), (5, .val (.pointer (some ⟨(blk p2), 0, none⟩))), (4, .val (.pointer (some ⟨(blk p1), 0, none⟩))), (1, .val (.int .i64 a1)), (0, .val (.string (bs a0)))], [.var (blk p1) [.val (.int .i64 0), .val (.int .i64 0), .val (.int .i64 0), .val (.slice none 0 0)] 152, .var (blk p2) [.val (.int .i64 0), .val (.int .i64 0), .val (.int .i64 0), .val y7] 152, .row y7 (List.map (eI .i64) s8.2) 1 3], 107⟩) (fun _ h => h) ?_ ?_
 rotate_left
 · rintro _ rfl
   show T X _ _ _
   rcases ite_some q12 with ⟨c21, q12⟩ | ⟨c21, q12⟩
   rotate_left
   · refine T.condF rfl (eq_false_of_ne_true c21) ?_
     refine T.exit ?_
     obtain rfl := Option.some.inj q12
     obtain rfl : _ = _ := i13
     exact ⟨_, Gst.only [0, 1, 4, 5, 8] rfl, y7, rfl⟩
   refine T.condT rfl (c21) ?_
   refine T.skip ?_
   show T X _ _ _
   refine T.block ?_
   refine T.seq ?_
   refine T.region ?_
   refine TL.op1 (OpR.pure rfl) rfl ?_
   refine TL.op1 (OpR.loadPtr 1 rfl rfl rfl rfl) rfl ?_
   refine TL.op1 (OpR.pure rfl) rfl ?_
   refine TL.op1 (OpR.lit rfl rfl rfl rfl rfl rfl rfl) rfl ?_
   obtain ⟨x22, hx22, q12⟩ := bnd_some q12
   refine TL.op (OpR.appendM (m := [s8.1]) (eI .i64) 2 hx22 rfl rfl rfl rfl rfl rfl rfl rfl rfl (fun _ => rfl)) rfl (fun v23 => ?_)
   refine TL.op1 (OpR.pure rfl) rfl ?_
   refine TL.op0 (OpR.store 1 rfl rfl rfl rfl rfl rfl rfl rfl) ?_
   refine TL.nil ?_
   show T X _ _ _
   refine T.seq ?_
   refine T.seq ?_
   refine T.region ?_
   refine TL.op1 (OpR.pure rfl) rfl ?_
   refine TL.op1 (OpR.pure rfl) rfl ?_
   obtain ⟨x24, hx24, q12⟩ := bnd_some q12
   refine TL.op1 (OpR.call0 fn122 (ref05_quote_c hx24) rfl) rfl ?_
   refine TL.nil ?_
   show T X _ _ _
   obtain ⟨t25, ht25, q12⟩ := bnd_some q12
   refine T.cutC (fun S' => S' = ⟨[(8, .val (.int .i64 t25)), (5, .val (.pointer (some ⟨(blk p2), 0, none⟩))), (4, .val (.pointer (some ⟨(blk p1), 0, none⟩))), (1, .val (.int .i64 a1)), (0, .val (.string (bs a0)))], [.var (blk p1) [.val (.int .i64 0), .val (.int .i64 0), .val (.int .i64 0), .val (.slice none 0 0)] 152, .var (blk p2) [.val (.int .i64 0), .val (.int .i64 0), .val (.int .i64 0), .val v23] 152, .row v23 (List.map (eI .i64) x22) 1 3], 107⟩) (fun _ h => h) ?_ ?_
   rotate_left
   · rintro _ rfl
     show T X _ _ _
     refine T.region ?_
     refine TL.op1 (OpR.pure rfl) rfl ?_
     refine TL.op1 (OpR.pure rfl) rfl ?_
     refine TL.op1 (OpR.pure rfl) rfl ?_
     refine TL.nil ?_
     obtain rfl := Option.some.inj q12
     exact ⟨m10, Nat.lt_succ_self _, _, Gst.only [0, 1, 4, 5, 8] rfl, v23, (w64 (t25 + 1), x22), rfl, i13⟩
   rcases ite_some ht25 with ⟨c26, ht25⟩ | ⟨c26, ht25⟩
   rotate_left
   · refine T.condF rfl (eq_false_of_ne_true c26) ?_
     refine T.skip ?_
     obtain rfl := Option.some.inj ht25
     exact ⟨_, Gst.only [0, 1, 4, 5, 8] rfl, rfl⟩
   refine T.condT rfl (c26) ?_
   refine T.region ?_
   refine TL.op1 (OpR.pure rfl) rfl ?_
   refine TL.op1 (OpR.pure rfl) rfl ?_
   refine TL.op1 (OpR.pure rfl) rfl ?_
   refine TL.nil ?_
   obtain rfl := Option.some.inj ht25
   exact ⟨_, Gst.only [0, 1, 4, 5, 8] rfl, rfl⟩
 refine T.region ?_
 refine TL.op1 (OpR.pure rfl) rfl ?_
 refine TL.op1 (OpR.pure rfl) rfl ?_
 refine TL.op1 (OpR.cast (OpR.pure rfl) (intE (lenS _))) rfl ?_
 refine TL.op1 (OpR.pure rfl) rfl ?_
 refine TL.op1 (OpR.pure rfl) rfl ?_
 rcases ite_some ht16 with ⟨c17, ht16⟩ | ⟨c17, ht16⟩
 rotate_left
 · refine TL.off rfl rfl rfl rfl (decide_eq_false c17) rfl rfl ?_
   refine TL.off rfl rfl rfl rfl (decide_eq_false c17) rfl rfl ?_
   refine TL.off rfl rfl rfl rfl (decide_eq_false c17) rfl rfl ?_
   refine TL.off rfl rfl rfl rfl (decide_eq_false c17) rfl rfl ?_
   refine TL.off rfl rfl rfl rfl (decide_eq_false c17) rfl rfl ?_
   refine TL.offU rfl rfl rfl rfl rfl rfl ?_
   refine TL.offU rfl rfl rfl rfl rfl rfl ?_
   refine TL.offU rfl rfl rfl rfl rfl rfl ?_
   refine TL.offU rfl rfl rfl rfl rfl rfl ?_
   refine TL.off rfl rfl rfl rfl (decide_eq_false c17) rfl rfl ?_
   refine TL.op1 (OpR.pickF rfl (decide_eq_false c17) rfl) rfl ?_
   refine TL.nil ?_
   obtain rfl := Option.some.inj ht16
   exact ⟨_, Gst.only [0, 1, 4, 5, 8, 56] rfl, rfl⟩
 refine TL.on rfl rfl rfl rfl (decide_eq_true c17) ?_
 refine TL.op1 (OpR.pure rfl) rfl ?_
 refine TL.on rfl rfl rfl rfl (decide_eq_true c17) ?_
 refine TL.op1 (OpR.pure rfl) rfl ?_
 refine TL.on rfl rfl rfl rfl (decide_eq_true c17) ?_
 obtain ⟨x18, hx18, ht16⟩ := bnd_some ht16
 refine TL.op1 (OpR.call0 fn122 (ref05_quote_c hx18) rfl) rfl ?_
 refine TL.on rfl rfl rfl rfl (decide_eq_true c17) ?_
 refine TL.op1 (OpR.pure rfl) rfl ?_
 refine TL.on rfl rfl rfl rfl (decide_eq_true c17) ?_
 refine TL.op1 (OpR.pure rfl) rfl ?_
 rcases ite_some ht16 with ⟨c19, ht16⟩ | ⟨c19, ht16⟩
 rotate_left
 · refine TL.off rfl rfl rfl rfl (not_f (eq_false_of_ne_true c19)) rfl rfl ?_
   refine TL.off rfl rfl rfl rfl (not_f (eq_false_of_ne_true c19)) rfl rfl ?_
   refine TL.off rfl rfl rfl rfl (not_f (eq_false_of_ne_true c19)) rfl rfl ?_
   refine TL.off rfl rfl rfl rfl (not_f (eq_false_of_ne_true c19)) rfl rfl ?_
   refine TL.on rfl rfl rfl rfl (decide_eq_true c17) ?_
   refine TL.op1 (OpR.pickT rfl (not_f (eq_false_of_ne_true c19)) rfl) rfl ?_
   refine TL.op1 (OpR.pickT rfl (decide_eq_true c17) rfl) rfl ?_
   refine TL.nil ?_
   obtain rfl := Option.some.inj ht16
   exact ⟨_, Gst.only [0, 1, 4, 5, 8, 56] rfl, rfl⟩
 refine TL.on rfl rfl rfl rfl (not_t (c19)) ?_
 refine TL.op1 (OpR.pure rfl) rfl ?_
 refine TL.on rfl rfl rfl rfl (not_t (c19)) ?_
 refine TL.op1 (OpR.pure rfl) rfl ?_
 refine TL.on rfl rfl rfl rfl (not_t (c19)) ?_
 refine TL.op1 (OpR.pure rfl) rfl ?_
 refine TL.on rfl rfl rfl rfl (not_t (c19)) ?_
 obtain ⟨x20, hx20, ht16⟩ := bnd_some ht16
 refine TL.op1 (OpR.call0 fn122 (ref05_quote_c hx20) rfl) rfl ?_
 refine TL.on rfl rfl rfl rfl (decide_eq_true c17) ?_
 refine TL.op1 (OpR.pickF rfl (not_t (c19)) rfl) rfl ?_
 refine TL.op1 (OpR.pickT rfl (decide_eq_true c17) rfl) rfl ?_
 refine TL.nil ?_
 obtain rfl := Option.some.inj ht16
 exact ⟨_, Gst.only [0, 1, 4, 5, 8, 56] rfl, rfl⟩
noncomputable def ref05_One.l1 (a0 : List UInt8) (s9 : Int × (List ref05_Field)) : Option (Lp (Int × (List ref05_Field)) (Int × (List ref05_Field))) :=
  bnd (ref05_field a0 s9.1) fun x17 =>
  bnd (app 48 s9.2 [x17]) fun x19 =>
  bnd (if (w64 (x17.fRaw.fAt + x17.fRaw.fN)) ≥ (a0.length : Int) then
    some true
  else
    bnd (idx a0 (w64 (x17.fRaw.fAt + x17.fRaw.fN))) fun x23 =>
    some (!((x23.toNat : Int) == 44)) : Option Bool) fun t21 =>
  if t21 = true then
    some (Lp.done (w64 (x17.fRaw.fAt + x17.fRaw.fN), x19))
  else
    some (Lp.next (w64 ((w64 (x17.fRaw.fAt + x17.fRaw.fN)) + 1), x19))
noncomputable def ref05_One (a0 : List UInt8) (a1 : Int) : Option (ref05_Row × Int) :=
  bnd (if a1 < 0 then
    some true
  else
    some (decide (a1 ≥ (a0.length : Int))) : Option Bool) fun t3 =>
  if t3 = true then
    some ((⟨[], 0⟩ : ref05_Row), a1)
  else
    bnd (loop (ref05_One.l1 a0) (a1, []) : Option (Int × (List ref05_Field))) fun t6 =>
    bnd (if t6.1 < (a0.length : Int) then
      bnd (idx a0 t6.1) fun x27 =>
      some ((x27.toNat : Int) == 10)
    else
      some false : Option Bool) fun t25 =>
    if t25 = true then
      some ((⟨t6.2, 1⟩ : ref05_Row), w64 (t6.1 + 1))
    else
      bnd (if (w64 (t6.1 + 1)) < (a0.length : Int) then
        bnd (idx a0 t6.1) fun x31 =>
        if (x31.toNat : Int) = 13 then
          bnd (idx a0 (w64 (t6.1 + 1))) fun x33 =>
          some ((x33.toNat : Int) == 10)
        else
          some false
      else
        some false : Option Bool) fun t29 =>
      if t29 = true then
        some ((⟨t6.2, 2⟩ : ref05_Row), w64 (t6.1 + 2))
      else
        if t6.1 < (a0.length : Int) then
          some ((⟨t6.2, 3⟩ : ref05_Row), w64 (t6.1 + 1))
        else
          some ((⟨t6.2, 0⟩ : ref05_Row), t6.1)
set_option maxHeartbeats 4000000 in
theorem ref05_One_c {a0 : List UInt8} {a1 : Int} {res : ref05_Row × Int} (h0 : ref05_One a0 a1 = some res) : CallF X 32 [.val (.string (bs a0)), .val (.int .i64 a1)] [] (fun x => .tup [.agg [.sl 4 (List.map e_ref05_Field res.1.fFields), .val (.int .i64 res.1.fEnd)], .val (.int .i64 res.2)]) (fun x => []) := by
 unfold ref05_One at h0
 refine CallF.mkG (X := X) Try.func32 rfl rfl Try.ntmps32 rfl rfl ?_
 refine T.seq ?_
 refine T.region ?_
 refine TL.op (OpR.alloc rfl rfl (fun _ => rfl)) rfl (fun p1 => ?_)
 refine TL.op1 (OpR.pure rfl) rfl ?_
 refine TL.nil ?_
 show T X _ _ _
 refine T.seq ?_
 refine T.region ?_
 refine TL.op1 (OpR.build rfl rfl rfl rfl rfl) rfl ?_
 refine TL.op (OpR.alloc rfl rfl (fun _ => rfl)) rfl (fun p2 => ?_)
 refine TL.op0 (OpR.store 1 rfl rfl rfl rfl rfl rfl rfl rfl) ?_
 refine TL.nil ?_
 show T X _ _ _
 refine T.seq ?_
 refine T.seq ?_
 obtain ⟨t3, ht3, h0⟩ := bnd_some h0
 refine T.cutC (fun S' => S' = ⟨[(16, .val (.bool t3)), (6, .val (.pointer (some ⟨(blk p2), 0, none⟩))), (5, .val (.int .i64 0)), (4, .val (.pointer (some ⟨(blk p1), 0, none⟩))), (1, .val (.int .i64 a1)), (0, .val (.string (bs a0)))], [.var (blk p1) [.val (.slice none 0 0), .val (.int .i64 0)] 62, .var (blk p2) [.val (.slice none 0 0), .val (.int .i64 0)] 62], 93⟩) (fun _ h => h) ?_ ?_
 · refine T.region ?_
   refine TL.op1 (OpR.pure rfl) rfl ?_
   refine TL.op1 (OpR.pure rfl) rfl ?_
   refine TL.op1 (OpR.pure rfl) rfl ?_
   rcases ite_some ht3 with ⟨c4, ht3⟩ | ⟨c4, ht3⟩
   · refine TL.off rfl rfl rfl rfl (decide_eq_true c4) rfl rfl ?_
     refine TL.off rfl rfl rfl rfl (decide_eq_true c4) rfl rfl ?_
     refine TL.off rfl rfl rfl rfl (decide_eq_true c4) rfl rfl ?_
     refine TL.off rfl rfl rfl rfl (decide_eq_true c4) rfl rfl ?_
     refine TL.op1 (OpR.pickT rfl (decide_eq_true c4) rfl) rfl ?_
     refine TL.nil ?_
     obtain rfl := Option.some.inj ht3
     exact ⟨_, Gst.only [0, 1, 4, 5, 6, 16] rfl, rfl⟩
   refine TL.on rfl rfl rfl rfl (decide_eq_false c4) ?_
   refine TL.op1 (OpR.pure rfl) rfl ?_
   refine TL.on rfl rfl rfl rfl (decide_eq_false c4) ?_
   refine TL.op1 (OpR.pure rfl) rfl ?_
   refine TL.on rfl rfl rfl rfl (decide_eq_false c4) ?_
   refine TL.op1 (OpR.cast (OpR.pure rfl) (intE (lenS _))) rfl ?_
   refine TL.on rfl rfl rfl rfl (decide_eq_false c4) ?_
   refine TL.op1 (OpR.pure rfl) rfl ?_
   refine TL.op1 (OpR.pickF rfl (decide_eq_false c4) rfl) rfl ?_
   refine TL.nil ?_
   obtain rfl := Option.some.inj ht3
   exact ⟨_, Gst.only [0, 1, 4, 5, 6, 16] rfl, rfl⟩
 rintro _ rfl
 show T X _ _ _
 rcases ite_some h0 with ⟨c5, h0⟩ | ⟨c5, h0⟩
 · refine T.condT rfl (c5) ?_
   refine T.seq ?_
   refine T.region ?_
   refine TL.op1 (OpR.loadPtr 1 rfl rfl rfl rfl) rfl ?_
   refine TL.op1 (OpR.pure rfl) rfl ?_
   refine TL.op0 (OpR.store 0 rfl rfl rfl rfl rfl rfl rfl rfl) ?_
   refine TL.op1 (OpR.pure rfl) rfl ?_
   refine TL.nil ?_
   show T X _ _ _
   refine T.ret ?_
   obtain rfl := Option.some.inj h0
   exact PostG.retP (ks := []) (Gst.trans (Gst.only [4, 5] rfl) (Gst.trans (Gst.denil (ReS.cons Re.refl (ReS.cons Re.refl ReS.nil)) (ReO.var (ReL.cons (Re.base .nil) (ReL.cons Re.refl ReL.nil)) (ReO.same ReO.nil))) (Gst.pick [0] rfl rfl))) undef (ResL.cons (ResV.var 0 rfl rfl rfl rfl) (ResL.cons (ResV.tmp rfl) ResL.nil)) rfl rfl rfl rfl
 refine T.condF rfl (eq_false_of_ne_true c5) ?_
 refine T.skip ?_
 show T X _ _ _
 refine T.seq ?_
 obtain ⟨t6, ht6, h0⟩ := bnd_some h0
 refine T.cutC (fun S' => ∃ y7 : Value, S' = ⟨[(6, .val (.pointer (some ⟨(blk p2), 0, none⟩))), (5, .val (.int .i64 0)), (4, .val (.pointer (some ⟨(blk p1), 0, none⟩))), (1, .val (.int .i64 t6.1)), (0, .val (.string (bs a0)))], [.var (blk p1) [.val (.slice none 0 0), .val (.int .i64 0)] 62, .var (blk p2) [.val y7, .val (.int .i64 0)] 62, .row y7 (List.map e_ref05_Field t6.2) 4 152], 93⟩) (fun _ h => h) ?_ ?_
 · refine T.block ?_
   obtain ⟨n10, n15⟩ := loop_some ht6
   refine T.loop (fun n S' => ∃ S'', Gst S' S'' ∧ ∃ y8 : Value, ∃ s9 : Int × (List ref05_Field), S'' = ⟨[(6, .val (.pointer (some ⟨(blk p2), 0, none⟩))), (5, .val (.int .i64 0)), (4, .val (.pointer (some ⟨(blk p1), 0, none⟩))), (1, .val (.int .i64 s9.1)), (0, .val (.string (bs a0)))], [.var (blk p1) [.val (.slice none 0 0), .val (.int .i64 0)] 62, .var (blk p2) [.val y8, .val (.int .i64 0)] 62, .row y8 (List.map e_ref05_Field s9.2) 4 152], 93⟩ ∧ iter (ref05_One.l1 a0) n s9 = some t6) n10 ?_ ?_
   · exact ⟨_, Gst.trans (Gst.only [0, 1, 4, 5, 6] rfl) (Gst.nilRow (ow := [.var (blk p1) [.val (.slice none 0 0), .val (.int .i64 0)] 62, .var (blk p2) [.val (.slice none 0 0), .val (.int .i64 0)] 62]) 4 152 rfl), (.slice none 0 0), (a1, []), rfl, n15⟩
   rintro n10 _ ⟨_, g, y8, s9, rfl, i14⟩
   refine T.ghost g ?_
   obtain ⟨m11, q12, rfl, q13, i14⟩ := iter_succ i14
   unfold ref05_One.l1 at q13
   refine T.block ?_
   refine T.seq ?_
   refine T.region ?_
   refine TL.op1 (OpR.pure rfl) rfl ?_
   refine TL.op1 (OpR.pure rfl) rfl ?_
   obtain ⟨x17, hx17, q13⟩ := bnd_some q13
   refine TL.op1 (OpR.call0 fn71 (ref05_field_c hx17) rfl) rfl ?_
   refine TL.op (OpR.alloc rfl rfl (fun _ => rfl)) rfl (fun p18 => ?_)
   refine TL.op0 (OpR.store 3 rfl rfl rfl rfl rfl rfl rfl rfl) ?_
   refine TL.nil ?_
   show T X _ _ _
   refine T.seq ?_
   refine T.region ?_
   refine TL.op1 (OpR.pure rfl) rfl ?_
   refine TL.op1 (OpR.loadPtr 1 rfl rfl rfl rfl) rfl ?_
   refine TL.op1 (OpR.loadPtr 3 rfl rfl rfl rfl) rfl ?_
   refine TL.op1 (OpR.lit rfl rfl rfl rfl rfl rfl rfl) rfl ?_
   obtain ⟨x19, hx19, q13⟩ := bnd_some q13
   refine TL.op (OpR.appendM (m := [x17]) e_ref05_Field 2 hx19 rfl rfl rfl rfl rfl rfl rfl rfl rfl (fun _ => rfl)) rfl (fun v20 => ?_)
   refine TL.op1 (OpR.pure rfl) rfl ?_
   refine TL.op0 (OpR.store 1 rfl rfl rfl rfl rfl rfl rfl rfl) ?_
   refine TL.nil ?_
   show T X _ _ _
   refine T.seq ?_
   refine T.region ?_
   refine TL.op1 (OpR.pure rfl) rfl ?_
   refine TL.op1 (OpR.pure rfl) rfl ?_
   refine TL.op1 (OpR.loadPtr 3 rfl rfl rfl rfl) rfl ?_
   refine TL.op1 (OpR.pure rfl) rfl ?_
   refine TL.op1 (OpR.pure rfl) rfl ?_
   refine TL.op1 (OpR.loadPtr 3 rfl rfl rfl rfl) rfl ?_
   refine TL.op1 (OpR.pure rfl) rfl ?_
   refine TL.op1 (OpR.pure rfl) rfl ?_
   refine TL.nil ?_
   show T X _ _ _
   refine T.seq ?_
   refine T.seq ?_
   obtain ⟨t21, ht21, q13⟩ := bnd_some q13
   refine T.cutC (fun S' => S' = ⟨[(44, .val (.bool t21)), (6, .val (.pointer (some ⟨(blk p2), 0, none⟩))), (5, .val (.int .i64 0)), (4, .val (.pointer (some ⟨(blk p1), 0, none⟩))), (1, .val (.int .i64 (w64 (x17.fRaw.fAt + x17.fRaw.fN)))), (0, .val (.string (bs a0)))], [.var (blk p1) [.val (.slice none 0 0), .val (.int .i64 0)] 62, .var (blk p2) [.val v20, .val (.int .i64 0)] 62, .row v20 (List.map e_ref05_Field x19) 4 152], 93⟩) (fun _ h => h) ?_ ?_
   rotate_left
   · rintro _ rfl
     show T X _ _ _
     rcases ite_some q13 with ⟨c24, q13⟩ | ⟨c24, q13⟩
     · refine T.condT rfl (c24) ?_
       refine T.exit ?_
       obtain rfl := Option.some.inj q13
       obtain rfl : _ = _ := i14
       exact ⟨_, Gst.only [0, 1, 4, 5, 6] rfl, v20, rfl⟩
     refine T.condF rfl (eq_false_of_ne_true c24) ?_
     refine T.skip ?_
     show T X _ _ _
     refine T.region ?_
     refine TL.op1 (OpR.pure rfl) rfl ?_
     refine TL.op1 (OpR.pure rfl) rfl ?_
     refine TL.op1 (OpR.pure rfl) rfl ?_
     refine TL.nil ?_
     obtain rfl := Option.some.inj q13
     exact ⟨m11, Nat.lt_succ_self _, _, Gst.only [0, 1, 4, 5, 6] rfl, v20, (w64 ((w64 (x17.fRaw.fAt + x17.fRaw.fN)) + 1), x19), rfl, i14⟩
   refine T.region ?_
   refine TL.op1 (OpR.pure rfl) rfl ?_
   refine TL.op1 (OpR.pure rfl) rfl ?_
   refine TL.op1 (OpR.cast (OpR.pure rfl) (intE (lenS _))) rfl ?_
   refine TL.op1 (OpR.pure rfl) rfl ?_
   refine TL.op1 (OpR.pure rfl) rfl ?_
   rcases ite_some ht21 with ⟨c22, ht21⟩ | ⟨c22, ht21⟩
   · refine TL.off rfl rfl rfl rfl (decide_eq_true c22) rfl rfl ?_
     refine TL.off rfl rfl rfl rfl (decide_eq_true c22) rfl rfl ?_
     refine TL.off rfl rfl rfl rfl (decide_eq_true c22) rfl rfl ?_
     refine TL.off rfl rfl rfl rfl (decide_eq_true c22) rfl rfl ?_
     refine TL.op1 (OpR.pickT rfl (decide_eq_true c22) rfl) rfl ?_
     refine TL.nil ?_
     obtain rfl := Option.some.inj ht21
     exact ⟨_, Gst.trans (Gst.only [0, 1, 4, 5, 6, 44] rfl) (Gst.pick [0, 1, 2] rfl rfl), rfl⟩
   refine TL.on rfl rfl rfl rfl (decide_eq_false c22) ?_
   refine TL.op1 (OpR.pure rfl) rfl ?_
   refine TL.on rfl rfl rfl rfl (decide_eq_false c22) ?_
   refine TL.op1 (OpR.pure rfl) rfl ?_
   refine TL.on rfl rfl rfl rfl (decide_eq_false c22) ?_
   obtain ⟨x23, hx23, ht21⟩ := bnd_some ht21
   refine TL.op1 (OpR.indexS hx23 rfl rfl rfl rfl) rfl ?_
   refine TL.on rfl rfl rfl rfl (decide_eq_false c22) ?_
   refine TL.op1 (OpR.pure rfl) rfl ?_
   refine TL.op1 (OpR.pickF rfl (decide_eq_false c22) rfl) rfl ?_
   refine TL.nil ?_
   obtain rfl := Option.some.inj ht21
   exact ⟨_, Gst.trans (Gst.only [0, 1, 4, 5, 6, 44] rfl) (Gst.pick [0, 1, 2] rfl rfl), rfl⟩
 rintro _ ⟨y7, rfl⟩
 show T X _ _ _
 refine T.seq ?_
 refine T.seq ?_
 obtain ⟨t25, ht25, h0⟩ := bnd_some h0
 refine T.cutC (fun S' => S' = ⟨[(56, .val (.bool t25)), (6, .val (.pointer (some ⟨(blk p2), 0, none⟩))), (5, .val (.int .i64 0)), (4, .val (.pointer (some ⟨(blk p1), 0, none⟩))), (1, .val (.int .i64 t6.1)), (0, .val (.string (bs a0)))], [.var (blk p1) [.val (.slice none 0 0), .val (.int .i64 0)] 62, .var (blk p2) [.val y7, .val (.int .i64 0)] 62, .row y7 (List.map e_ref05_Field t6.2) 4 152], 93⟩) (fun _ h => h) ?_ ?_
 · refine T.region ?_
   refine TL.op1 (OpR.pure rfl) rfl ?_
   refine TL.op1 (OpR.pure rfl) rfl ?_
   refine TL.op1 (OpR.cast (OpR.pure rfl) (intE (lenS _))) rfl ?_
   refine TL.op1 (OpR.pure rfl) rfl ?_
   refine TL.op1 (OpR.pure rfl) rfl ?_
   rcases ite_some ht25 with ⟨c26, ht25⟩ | ⟨c26, ht25⟩
   rotate_left
   · refine TL.off rfl rfl rfl rfl (decide_eq_false c26) rfl rfl ?_
     refine TL.off rfl rfl rfl rfl (decide_eq_false c26) rfl rfl ?_
     refine TL.off rfl rfl rfl rfl (decide_eq_false c26) rfl rfl ?_
     refine TL.off rfl rfl rfl rfl (decide_eq_false c26) rfl rfl ?_
     refine TL.op1 (OpR.pickF rfl (decide_eq_false c26) rfl) rfl ?_
     refine TL.nil ?_
     obtain rfl := Option.some.inj ht25
     exact ⟨_, Gst.only [0, 1, 4, 5, 6, 56] rfl, rfl⟩
   refine TL.on rfl rfl rfl rfl (decide_eq_true c26) ?_
   refine TL.op1 (OpR.pure rfl) rfl ?_
   refine TL.on rfl rfl rfl rfl (decide_eq_true c26) ?_
   refine TL.op1 (OpR.pure rfl) rfl ?_
   refine TL.on rfl rfl rfl rfl (decide_eq_true c26) ?_
   obtain ⟨x27, hx27, ht25⟩ := bnd_some ht25
   refine TL.op1 (OpR.indexS hx27 rfl rfl rfl rfl) rfl ?_
   refine TL.on rfl rfl rfl rfl (decide_eq_true c26) ?_
   refine TL.op1 (OpR.pure rfl) rfl ?_
   refine TL.op1 (OpR.pickT rfl (decide_eq_true c26) rfl) rfl ?_
   refine TL.nil ?_
   obtain rfl := Option.some.inj ht25
   exact ⟨_, Gst.only [0, 1, 4, 5, 6, 56] rfl, rfl⟩
 rintro _ rfl
 show T X _ _ _
 rcases ite_some h0 with ⟨c28, h0⟩ | ⟨c28, h0⟩
 · refine T.condT rfl (c28) ?_
   refine T.seq ?_
   refine T.region ?_
   refine TL.op1 (OpR.pure rfl) rfl ?_
   refine TL.op0 (OpR.store 1 rfl rfl rfl rfl rfl rfl rfl rfl) ?_
   refine TL.nil ?_
   show T X _ _ _
   refine T.seq ?_
   refine T.region ?_
   refine TL.op1 (OpR.loadPtr 1 rfl rfl rfl rfl) rfl ?_
   refine TL.op1 (OpR.pure rfl) rfl ?_
   refine TL.op1 (OpR.pure rfl) rfl ?_
   refine TL.op0 (OpR.store 0 rfl rfl rfl rfl rfl rfl rfl rfl) ?_
   refine TL.op1 (OpR.pure rfl) rfl ?_
   refine TL.nil ?_
   show T X _ _ _
   refine T.ret ?_
   obtain rfl := Option.some.inj h0
   exact PostG.retP (ks := []) (Gst.trans (Gst.only [4, 5] rfl) (Gst.trans (Gst.freezeRow 2 rfl rfl (ReS.cons Re.refl (ReS.cons Re.refl ReS.nil)) (ReO.var (ReL.cons (Re.base .all) (ReL.cons Re.refl ReL.nil)) (ReO.var (ReL.cons (Re.base .all) (ReL.cons Re.refl ReL.nil)) (ReO.same ReO.nil)))) (Gst.pick [0] rfl rfl))) undef (ResL.cons (ResV.var 0 rfl rfl rfl rfl) (ResL.cons (ResV.tmp rfl) ResL.nil)) rfl rfl rfl rfl
 refine T.condF rfl (eq_false_of_ne_true c28) ?_
 refine T.skip ?_
 show T X _ _ _
 refine T.seq ?_
 refine T.seq ?_
 obtain ⟨t29, ht29, h0⟩ := bnd_some h0
 refine T.cutC (fun S' => S' = ⟨[(78, .val (.bool t29)), (6, .val (.pointer (some ⟨(blk p2), 0, none⟩))), (5, .val (.int .i64 0)), (4, .val (.pointer (some ⟨(blk p1), 0, none⟩))), (1, .val (.int .i64 t6.1)), (0, .val (.string (bs a0)))], [.var (blk p1) [.val (.slice none 0 0), .val (.int .i64 0)] 62, .var (blk p2) [.val y7, .val (.int .i64 0)] 62, .row y7 (List.map e_ref05_Field t6.2) 4 152], 93⟩) (fun _ h => h) ?_ ?_
 · refine T.region ?_
   refine TL.op1 (OpR.pure rfl) rfl ?_
   refine TL.op1 (OpR.pure rfl) rfl ?_
   refine TL.op1 (OpR.pure rfl) rfl ?_
   refine TL.op1 (OpR.cast (OpR.pure rfl) (intE (lenS _))) rfl ?_
   refine TL.op1 (OpR.pure rfl) rfl ?_
   refine TL.op1 (OpR.pure rfl) rfl ?_
   rcases ite_some ht29 with ⟨c30, ht29⟩ | ⟨c30, ht29⟩
   rotate_left
   · refine TL.off rfl rfl rfl rfl (decide_eq_false c30) rfl rfl ?_
     refine TL.off rfl rfl rfl rfl (decide_eq_false c30) rfl rfl ?_
     refine TL.off rfl rfl rfl rfl (decide_eq_false c30) rfl rfl ?_
     refine TL.off rfl rfl rfl rfl (decide_eq_false c30) rfl rfl ?_
     refine TL.op1 (OpR.pickF rfl (decide_eq_false c30) rfl) rfl ?_
     refine TL.op1 (OpR.pure rfl) rfl ?_
     refine TL.off rfl rfl rfl rfl rfl rfl rfl ?_
     refine TL.off rfl rfl rfl rfl rfl rfl rfl ?_
     refine TL.off rfl rfl rfl rfl rfl rfl rfl ?_
     refine TL.off rfl rfl rfl rfl rfl rfl rfl ?_
     refine TL.off rfl rfl rfl rfl rfl rfl rfl ?_
     refine TL.op1 (OpR.pickF rfl rfl rfl) rfl ?_
     refine TL.nil ?_
     obtain rfl := Option.some.inj ht29
     exact ⟨_, Gst.only [0, 1, 4, 5, 6, 78] rfl, rfl⟩
   refine TL.on rfl rfl rfl rfl (decide_eq_true c30) ?_
   refine TL.op1 (OpR.pure rfl) rfl ?_
   refine TL.on rfl rfl rfl rfl (decide_eq_true c30) ?_
   refine TL.op1 (OpR.pure rfl) rfl ?_
   refine TL.on rfl rfl rfl rfl (decide_eq_true c30) ?_
   obtain ⟨x31, hx31, ht29⟩ := bnd_some ht29
   refine TL.op1 (OpR.indexS hx31 rfl rfl rfl rfl) rfl ?_
   refine TL.on rfl rfl rfl rfl (decide_eq_true c30) ?_
   refine TL.op1 (OpR.pure rfl) rfl ?_
   refine TL.op1 (OpR.pickT rfl (decide_eq_true c30) rfl) rfl ?_
   refine TL.op1 (OpR.pure rfl) rfl ?_
   rcases ite_some ht29 with ⟨c32, ht29⟩ | ⟨c32, ht29⟩
   rotate_left
   · refine TL.off rfl rfl rfl rfl (beq_eq_false_iff_ne.2 c32) rfl rfl ?_
     refine TL.off rfl rfl rfl rfl (beq_eq_false_iff_ne.2 c32) rfl rfl ?_
     refine TL.off rfl rfl rfl rfl (beq_eq_false_iff_ne.2 c32) rfl rfl ?_
     refine TL.off rfl rfl rfl rfl (beq_eq_false_iff_ne.2 c32) rfl rfl ?_
     refine TL.off rfl rfl rfl rfl (beq_eq_false_iff_ne.2 c32) rfl rfl ?_
     refine TL.op1 (OpR.pickF rfl (beq_eq_false_iff_ne.2 c32) rfl) rfl ?_
     refine TL.nil ?_
     obtain rfl := Option.some.inj ht29
     exact ⟨_, Gst.only [0, 1, 4, 5, 6, 78] rfl, rfl⟩
   refine TL.on rfl rfl rfl rfl (beq_iff_eq.2 c32) ?_
   refine TL.op1 (OpR.pure rfl) rfl ?_
   refine TL.on rfl rfl rfl rfl (beq_iff_eq.2 c32) ?_
   refine TL.op1 (OpR.pure rfl) rfl ?_
   refine TL.on rfl rfl rfl rfl (beq_iff_eq.2 c32) ?_
   refine TL.op1 (OpR.pure rfl) rfl ?_
   refine TL.on rfl rfl rfl rfl (beq_iff_eq.2 c32) ?_
   obtain ⟨x33, hx33, ht29⟩ := bnd_some ht29
   refine TL.op1 (OpR.indexS hx33 rfl rfl rfl rfl) rfl ?_
   refine TL.on rfl rfl rfl rfl (beq_iff_eq.2 c32) ?_
   refine TL.op1 (OpR.pure rfl) rfl ?_
   refine TL.op1 (OpR.pickT rfl (beq_iff_eq.2 c32) rfl) rfl ?_
   refine TL.nil ?_
   obtain rfl := Option.some.inj ht29
   exact ⟨_, Gst.only [0, 1, 4, 5, 6, 78] rfl, rfl⟩
 rintro _ rfl
 show T X _ _ _
 rcases ite_some h0 with ⟨c34, h0⟩ | ⟨c34, h0⟩
 · refine T.condT rfl (c34) ?_
   refine T.seq ?_
   refine T.region ?_
   refine TL.op1 (OpR.pure rfl) rfl ?_
   refine TL.op0 (OpR.store 1 rfl rfl rfl rfl rfl rfl rfl rfl) ?_
   refine TL.nil ?_
   show T X _ _ _
   refine T.seq ?_
   refine T.region ?_
   refine TL.op1 (OpR.loadPtr 1 rfl rfl rfl rfl) rfl ?_
   refine TL.op1 (OpR.pure rfl) rfl ?_
   refine TL.op1 (OpR.pure rfl) rfl ?_
   refine TL.op0 (OpR.store 0 rfl rfl rfl rfl rfl rfl rfl rfl) ?_
   refine TL.op1 (OpR.pure rfl) rfl ?_
   refine TL.nil ?_
   show T X _ _ _
   refine T.ret ?_
   obtain rfl := Option.some.inj h0
   exact PostG.retP (ks := []) (Gst.trans (Gst.only [4, 5] rfl) (Gst.trans (Gst.freezeRow 2 rfl rfl (ReS.cons Re.refl (ReS.cons Re.refl ReS.nil)) (ReO.var (ReL.cons (Re.base .all) (ReL.cons Re.refl ReL.nil)) (ReO.var (ReL.cons (Re.base .all) (ReL.cons Re.refl ReL.nil)) (ReO.same ReO.nil)))) (Gst.pick [0] rfl rfl))) undef (ResL.cons (ResV.var 0 rfl rfl rfl rfl) (ResL.cons (ResV.tmp rfl) ResL.nil)) rfl rfl rfl rfl
 refine T.condF rfl (eq_false_of_ne_true c34) ?_
 refine T.skip ?_
 show T X _ _ _
 refine T.seq ?_
 refine T.seq ?_
 refine T.region ?_
 refine TL.op1 (OpR.pure rfl) rfl ?_
 refine TL.op1 (OpR.pure rfl) rfl ?_
 refine TL.op1 (OpR.cast (OpR.pure rfl) (intE (lenS _))) rfl ?_
 refine TL.op1 (OpR.pure rfl) rfl ?_
 refine TL.nil ?_
 show T X _ _ _
 rcases ite_some h0 with ⟨c35, h0⟩ | ⟨c35, h0⟩
 rotate_left
 · refine T.condF rfl (decide_eq_false c35) ?_
   refine T.skip ?_
   show T X _ _ _
   refine T.seq ?_
   refine T.region ?_
   refine TL.op1 (OpR.loadPtr 1 rfl rfl rfl rfl) rfl ?_
   refine TL.op1 (OpR.pure rfl) rfl ?_
   refine TL.op0 (OpR.store 0 rfl rfl rfl rfl rfl rfl rfl rfl) ?_
   refine TL.op1 (OpR.pure rfl) rfl ?_
   refine TL.nil ?_
   show T X _ _ _
   refine T.ret ?_
   obtain rfl := Option.some.inj h0
   exact PostG.retP (ks := []) (Gst.trans (Gst.only [4, 5] rfl) (Gst.trans (Gst.freezeRow 2 rfl rfl (ReS.cons Re.refl (ReS.cons Re.refl ReS.nil)) (ReO.var (ReL.cons (Re.base .all) (ReL.cons Re.refl ReL.nil)) (ReO.var (ReL.cons (Re.base .all) (ReL.cons Re.refl ReL.nil)) (ReO.same ReO.nil)))) (Gst.pick [0] rfl rfl))) undef (ResL.cons (ResV.var 0 rfl rfl rfl rfl) (ResL.cons (ResV.tmp rfl) ResL.nil)) rfl rfl rfl rfl
 refine T.condT rfl (decide_eq_true c35) ?_
 refine T.seq ?_
 refine T.region ?_
 refine TL.op1 (OpR.pure rfl) rfl ?_
 refine TL.op0 (OpR.store 1 rfl rfl rfl rfl rfl rfl rfl rfl) ?_
 refine TL.nil ?_
 show T X _ _ _
 refine T.seq ?_
 refine T.region ?_
 refine TL.op1 (OpR.loadPtr 1 rfl rfl rfl rfl) rfl ?_
 refine TL.op1 (OpR.pure rfl) rfl ?_
 refine TL.op1 (OpR.pure rfl) rfl ?_
 refine TL.op0 (OpR.store 0 rfl rfl rfl rfl rfl rfl rfl rfl) ?_
 refine TL.op1 (OpR.pure rfl) rfl ?_
 refine TL.nil ?_
 show T X _ _ _
 refine T.ret ?_
 obtain rfl := Option.some.inj h0
 exact PostG.retP (ks := []) (Gst.trans (Gst.only [4, 5] rfl) (Gst.trans (Gst.freezeRow 2 rfl rfl (ReS.cons Re.refl (ReS.cons Re.refl ReS.nil)) (ReO.var (ReL.cons (Re.base .all) (ReL.cons Re.refl ReL.nil)) (ReO.var (ReL.cons (Re.base .all) (ReL.cons Re.refl ReL.nil)) (ReO.same ReO.nil)))) (Gst.pick [0] rfl rfl))) undef (ResL.cons (ResV.var 0 rfl rfl rfl rfl) (ResL.cons (ResV.tmp rfl) ResL.nil)) rfl rfl rfl rfl
noncomputable def ref05_Text.l1 (a0 : List UInt8) (a1 : List Int) (s2 : (List UInt8) × Int) : Option (Lp ((List UInt8) × Int) (List UInt8)) :=
  if s2.2 < (a1.length : Int) then
    bnd (idx a1 s2.2) fun x11 =>
    bnd (cut a0 x11 (w64 (x11 + 1))) fun x12 =>
    bnd (catS s2.1 x12) fun x13 =>
    some (Lp.next (x13, w64 (s2.2 + 1)))
  else
    some (Lp.done s2.1)
noncomputable def ref05_Text (a0 : List UInt8) (a1 : List Int) : Option (List UInt8) :=
  bnd (loop (ref05_Text.l1 a0 a1) ([], 0) : Option (List UInt8)) fun t1 =>
  some t1
set_option maxHeartbeats 4000000 in
theorem ref05_Text_c {a0 : List UInt8} {a1 : List Int} {res : (List UInt8)} (h0 : ref05_Text a0 a1 = some res) : CallF X 69 [.val (.string (bs a0)), .sl 1 (List.map (eI .i64) a1)] [] (fun x => .val (.string (bs res))) (fun x => []) := by
 unfold ref05_Text at h0
 refine CallF.mkG (X := X) Try.func69 rfl rfl Try.ntmps69 rfl rfl ?_
 refine T.seq ?_
 refine T.region ?_
 refine TL.op1 (OpR.pure rfl) rfl ?_
 refine TL.nil ?_
 show T X _ _ _
 refine T.seq ?_
 refine T.region ?_
 refine TL.op1 (OpR.pure rfl) rfl ?_
 refine TL.nil ?_
 show T X _ _ _
 refine T.seq ?_
 refine T.seq ?_
 refine T.region ?_
 refine TL.op1 (OpR.pure rfl) rfl ?_
 refine TL.op1 (OpR.cast (OpR.pure rfl) (intE (lenM _ _))) rfl ?_
 refine TL.op1 (OpR.pure rfl) rfl ?_
 refine TL.nil ?_
 show T X _ _ _
 obtain ⟨t1, ht1, h0⟩ := bnd_some h0
 refine T.cutC (fun S' => S' = ⟨[(5, .val (.string (bs t1))), (4, .val (.string (bs [])))], [], 23⟩) (fun _ h => h) ?_ ?_
 rotate_left
 · rintro _ rfl
   show T X _ _ _
   refine T.seq ?_
   refine T.region ?_
   refine TL.op1 (OpR.pure rfl) rfl ?_
   refine TL.op1 (OpR.pure rfl) rfl ?_
   refine TL.nil ?_
   show T X _ _ _
   refine T.ret ?_
   obtain rfl := Option.some.inj h0
   exact PostG.retP (ks := []) (Gst.only [4] rfl) undef (ResL.cons (ResV.tmp rfl) ResL.nil) rfl rfl rfl rfl
 refine T.block ?_
 obtain ⟨n3, n8⟩ := loop_some ht1
 refine T.loop (fun n S' => ∃ S'', Gst S' S'' ∧ ∃ s2 : (List UInt8) × Int, S'' = ⟨[(10, .val (.int .i64 s2.2)), (9, .val (.int .i64 (a1.length : Int))), (8, .sl 1 (List.map (eI .i64) a1)), (5, .val (.string (bs s2.1))), (4, .val (.string (bs []))), (0, .val (.string (bs a0)))], [], 23⟩ ∧ iter (ref05_Text.l1 a0 a1) n s2 = some t1) n3 ?_ ?_
 · exact ⟨_, Gst.only [0, 4, 5, 8, 9, 10] rfl, ([], 0), rfl, n8⟩
 rintro n3 _ ⟨_, g, s2, rfl, i7⟩
 refine T.ghost g ?_
 obtain ⟨m4, q5, rfl, q6, i7⟩ := iter_succ i7
 unfold ref05_Text.l1 at q6
 refine T.seq ?_
 refine T.region ?_
 refine TL.op1 (OpR.pure rfl) rfl ?_
 refine TL.nil ?_
 show T X _ _ _
 refine T.seq ?_
 rcases ite_some q6 with ⟨c10, q6⟩ | ⟨c10, q6⟩
 rotate_left
 · refine T.condF rfl (decide_eq_false c10) ?_
   refine T.exit ?_
   obtain rfl := Option.some.inj q6
   obtain rfl : _ = _ := i7
   exact ⟨_, Gst.only [4, 5] rfl, rfl⟩
 refine T.condT rfl (decide_eq_true c10) ?_
 refine T.skip ?_
 show T X _ _ _
 refine T.seq ?_
 refine T.block ?_
 refine T.seq ?_
 refine T.region ?_
 obtain ⟨x11, hx11, q6⟩ := bnd_some q6
 refine TL.op1 (OpR.indexM (eI .i64) hx11 rfl rfl rfl rfl rfl) rfl ?_
 refine TL.op1 (OpR.pure rfl) rfl ?_
 refine TL.op1 (OpR.pure rfl) rfl ?_
 refine TL.nil ?_
 show T X _ _ _
 refine T.region ?_
 refine TL.op1 (OpR.pure rfl) rfl ?_
 refine TL.op1 (OpR.pure rfl) rfl ?_
 refine TL.op1 (OpR.pure rfl) rfl ?_
 refine TL.op1 (OpR.pure rfl) rfl ?_
 refine TL.op1 (OpR.pure rfl) rfl ?_
 obtain ⟨x12, hx12, q6⟩ := bnd_some q6
 refine TL.op1 (OpR.sliceS hx12 rfl rfl rfl (BdM.some rfl) (BdM.some rfl)) rfl ?_
 obtain ⟨x13, hx13, q6⟩ := bnd_some q6
 refine TL.op1 (OpR.concatM hx13 rfl rfl) rfl ?_
 refine TL.op1 (OpR.pure rfl) rfl ?_
 refine TL.nil ?_
 show T X _ _ _
 refine T.region ?_
 refine TL.op1 (OpR.pure rfl) rfl ?_
 refine TL.op1 (OpR.pure rfl) rfl ?_
 refine TL.nil ?_
 obtain rfl := Option.some.inj q6
 exact ⟨m4, Nat.lt_succ_self _, _, Gst.only [0, 4, 5, 8, 9, 10] rfl, (x13, w64 (s2.2 + 1)), rfl, i7⟩
noncomputable def ref08_Load.l1 (a0 : List UInt8) (a1 : ref05_Row) (s8 : Int × (List ref07_Cell)) : Option (Lp (Int × (List ref07_Cell)) (Ex (List ref07_Cell) (ref08_Row × Int))) :=
  if s8.1 < (a1.fFields.length : Int) then
    bnd (idx a1.fFields s8.1) fun x17 =>
    if (x17.fBytes.length : Int) > 400 then
      some (Lp.done (Ex.ret ((⟨[], 0, false⟩ : ref08_Row), 7)))
    else
      bnd (ref05_Text a0 x17.fBytes) fun x21 =>
      bnd (cut a0 x17.fRaw.fAt (w64 (x17.fRaw.fAt + x17.fRaw.fN))) fun x22 =>
      bnd (app 40 s8.2 [(⟨x21, x22, true⟩ : ref07_Cell)]) fun x23 =>
      some (Lp.next (w64 (s8.1 + 1), x23))
  else
    some (Lp.done (Ex.brk s8.2))
noncomputable def ref08_Load (a0 : List UInt8) (a1 : ref05_Row) : Option (ref08_Row × Int) :=
  if (a1.fFields.length : Int) > 40 then
    some ((⟨[], 0, false⟩ : ref08_Row), 6)
  else
    bnd (loop (ref08_Load.l1 a0 a1) (0, []) : Option (Ex (List ref07_Cell) (ref08_Row × Int))) fun t4 => match t4 with
      | .brk u5 =>
        some ((⟨u5, a1.fEnd, false⟩ : ref08_Row), 0)
      | .ret u5 => some u5
set_option maxHeartbeats 4000000 in
theorem ref08_Load_c {a0 : List UInt8} {a1 : ref05_Row} {res : ref08_Row × Int} (h0 : ref08_Load a0 a1 = some res) : CallF X 29 [.val (.string (bs a0)), .agg [.sl 4 (List.map e_ref05_Field a1.fFields), .val (.int .i64 a1.fEnd)]] [] (fun x => .tup [.agg [.sl 3 (List.map e_ref07_Cell res.1.fCells), .val (.int .i64 res.1.fEnd), .val (.bool res.1.fHidden)], .val (.int .i64 res.2)]) (fun x => []) := by
 unfold ref08_Load at h0
 refine CallF.mkG (X := X) Try.func29 rfl rfl Try.ntmps29 rfl rfl ?_
 refine T.seq ?_
 refine T.region ?_
 refine TL.op1 (OpR.boxImm rfl rfl) rfl ?_
 refine TL.op (OpR.alloc rfl rfl (fun _ => rfl)) rfl (fun p1 => ?_)
 refine TL.op1 (OpR.pure rfl) rfl ?_
 refine TL.nil ?_
 show T X _ _ _
 refine T.seq ?_
 refine T.region ?_
 refine TL.op1 (OpR.pure rfl) rfl ?_
 refine TL.op1 (OpR.pure rfl) rfl ?_
 refine TL.op1 (OpR.build rfl rfl rfl rfl rfl) rfl ?_
 refine TL.op (OpR.alloc rfl rfl (fun _ => rfl)) rfl (fun p2 => ?_)
 refine TL.op0 (OpR.store 1 rfl rfl rfl rfl rfl rfl rfl rfl) ?_
 refine TL.nil ?_
 show T X _ _ _
 refine T.seq ?_
 refine T.seq ?_
 refine T.region ?_
 refine TL.op1 (OpR.pure rfl) rfl ?_
 refine TL.op1 (OpR.pure rfl) rfl ?_
 refine TL.op1 (OpR.cast (OpR.pure rfl) (intE (lenM _ _))) rfl ?_
 refine TL.op1 (OpR.pure rfl) rfl ?_
 refine TL.nil ?_
 show T X _ _ _
 rcases ite_some h0 with ⟨c3, h0⟩ | ⟨c3, h0⟩
 · refine T.condT rfl (decide_eq_true c3) ?_
   refine T.seq ?_
   refine T.region ?_
   refine TL.op1 (OpR.build rfl rfl rfl rfl rfl) rfl ?_
   refine TL.op0 (OpR.store 0 rfl rfl rfl rfl rfl rfl rfl rfl) ?_
   refine TL.op1 (OpR.pure rfl) rfl ?_
   refine TL.nil ?_
   show T X _ _ _
   refine T.ret ?_
   obtain rfl := Option.some.inj h0
   exact PostG.retP (ks := []) (Gst.trans (Gst.only [4, 5] rfl) (Gst.trans (Gst.denil (ReS.cons Re.refl (ReS.cons Re.refl ReS.nil)) (ReO.var (ReL.cons (Re.base .nil) (ReL.cons Re.refl (ReL.cons Re.refl ReL.nil))) (ReO.same ReO.nil))) (Gst.pick [0] rfl rfl))) undef (ResL.cons (ResV.var 0 rfl rfl rfl rfl) (ResL.cons (ResV.tmp rfl) ResL.nil)) rfl rfl rfl rfl
 refine T.condF rfl (decide_eq_false c3) ?_
 refine T.skip ?_
 show T X _ _ _
 refine T.seq ?_
 refine T.seq ?_
 refine T.region ?_
 refine TL.op1 (OpR.pure rfl) rfl ?_
 refine TL.op1 (OpR.pure rfl) rfl ?_
 refine TL.op1 (OpR.cast (OpR.pure rfl) (intE (lenM _ _))) rfl ?_
 refine TL.op1 (OpR.pure rfl) rfl ?_
 refine TL.nil ?_
 show T X _ _ _
 obtain ⟨t4, ht4, h0⟩ := bnd_some h0
 refine T.cutC (fun S' => ∃ u5, t4 = Ex.brk u5 ∧ ∃ y6 : Value, S' = ⟨[(6, .val (.pointer (some ⟨(blk p2), 0, none⟩))), (5, .val (.int .i64 0)), (4, .val (.pointer (some ⟨(blk p1), 0, none⟩)))], [.var (blk p1) [.val (.slice none 0 0), .val (.int .i64 0), .val (.bool false)] 57, .var (blk p2) [.val y6, .val (.int .i64 a1.fEnd), .val (.bool false)] 57, .row y6 (List.map e_ref07_Cell u5) 3 112], 53⟩) (fun _ h => h) ?_ ?_
 rotate_left
 · rintro _ ⟨u5, rfl, y6, rfl⟩
   show T X _ _ _
   refine T.seq ?_
   refine T.region ?_
   refine TL.op1 (OpR.loadPtr 1 rfl rfl rfl rfl) rfl ?_
   refine TL.op0 (OpR.store 0 rfl rfl rfl rfl rfl rfl rfl rfl) ?_
   refine TL.op1 (OpR.pure rfl) rfl ?_
   refine TL.nil ?_
   show T X _ _ _
   refine T.ret ?_
   obtain rfl := Option.some.inj h0
   exact PostG.retP (ks := []) (Gst.trans (Gst.only [4, 5] rfl) (Gst.trans (Gst.freezeRow 2 rfl rfl (ReS.cons Re.refl (ReS.cons Re.refl ReS.nil)) (ReO.var (ReL.cons (Re.base .all) (ReL.cons Re.refl (ReL.cons Re.refl ReL.nil))) (ReO.var (ReL.cons (Re.base .all) (ReL.cons Re.refl (ReL.cons Re.refl ReL.nil))) (ReO.same ReO.nil)))) (Gst.pick [0] rfl rfl))) undef (ResL.cons (ResV.var 0 rfl rfl rfl rfl) (ResL.cons (ResV.tmp rfl) ResL.nil)) rfl rfl rfl rfl
 refine T.block ?_
 obtain ⟨n9, n14⟩ := loop_some ht4
 refine T.loop (fun n S' => ∃ S'', Gst S' S'' ∧ ∃ y7 : Value, ∃ s8 : Int × (List ref07_Cell), S'' = ⟨[(20, .val (.int .i64 s8.1)), (19, .val (.int .i64 (a1.fFields.length : Int))), (18, .sl 4 (List.map e_ref05_Field a1.fFields)), (6, .val (.pointer (some ⟨(blk p2), 0, none⟩))), (5, .val (.int .i64 0)), (4, .val (.pointer (some ⟨(blk p1), 0, none⟩))), (0, .val (.string (bs a0)))], [.var (blk p1) [.val (.slice none 0 0), .val (.int .i64 0), .val (.bool false)] 57, .var (blk p2) [.val y7, .val (.int .i64 a1.fEnd), .val (.bool false)] 57, .row y7 (List.map e_ref07_Cell s8.2) 3 112], 53⟩ ∧ iter (ref08_Load.l1 a0 a1) n s8 = some t4) n9 ?_ ?_
 · exact ⟨_, Gst.trans (Gst.only [0, 4, 5, 6, 18, 19, 20] rfl) (Gst.nilRow (ow := [.var (blk p1) [.val (.slice none 0 0), .val (.int .i64 0), .val (.bool false)] 57, .var (blk p2) [.val (.slice none 0 0), .val (.int .i64 a1.fEnd), .val (.bool false)] 57]) 3 112 rfl), (.slice none 0 0), (0, []), rfl, n14⟩
 rintro n9 _ ⟨_, g, y7, s8, rfl, i13⟩
 refine T.ghost g ?_
 obtain ⟨m10, q11, rfl, q12, i13⟩ := iter_succ i13
 unfold ref08_Load.l1 at q12
 refine T.seq ?_
 refine T.region ?_
 refine TL.op1 (OpR.pure rfl) rfl ?_
 refine TL.nil ?_
 show T X _ _ _
 refine T.seq ?_
 rcases ite_some q12 with ⟨c16, q12⟩ | ⟨c16, q12⟩
 rotate_left
 · refine T.condF rfl (decide_eq_false c16) ?_
   refine T.exit ?_
   obtain rfl := Option.some.inj q12
   obtain rfl : _ = _ := i13
   exact ⟨_, Gst.only [4, 5, 6] rfl, _, rfl, y7, rfl⟩
 refine T.condT rfl (decide_eq_true c16) ?_
 refine T.skip ?_
 show T X _ _ _
 refine T.seq ?_
 refine T.block ?_
 refine T.seq ?_
 refine T.region ?_
 obtain ⟨x17, hx17, q12⟩ := bnd_some q12
 refine TL.op1 (OpR.indexM e_ref05_Field hx17 rfl rfl rfl rfl rfl) rfl ?_
 refine TL.op1 (OpR.pure rfl) rfl ?_
 refine TL.op (OpR.alloc rfl rfl (fun _ => rfl)) rfl (fun p18 => ?_)
 refine TL.op0 (OpR.store 3 rfl rfl rfl rfl rfl rfl rfl rfl) ?_
 refine TL.nil ?_
 show T X _ _ _
 refine T.seq ?_
 refine T.seq ?_
 refine T.region ?_
 refine TL.op1 (OpR.pure rfl) rfl ?_
 refine TL.op1 (OpR.loadPtr 3 rfl rfl rfl rfl) rfl ?_
 refine TL.op1 (OpR.cast (OpR.pure rfl) (intE (lenM _ _))) rfl ?_
 refine TL.op1 (OpR.pure rfl) rfl ?_
 refine TL.nil ?_
 show T X _ _ _
 rcases ite_some q12 with ⟨c19, q12⟩ | ⟨c19, q12⟩
 · refine T.condT rfl (decide_eq_true c19) ?_
   refine T.seq ?_
   refine T.region ?_
   refine TL.op1 (OpR.build rfl rfl rfl rfl rfl) rfl ?_
   refine TL.op0 (OpR.store 0 rfl rfl rfl rfl rfl rfl rfl rfl) ?_
   refine TL.op1 (OpR.pure rfl) rfl ?_
   refine TL.nil ?_
   show T X _ _ _
   refine T.ret ?_
   obtain rfl := Option.some.inj q12
   obtain rfl : _ = _ := i13
   obtain rfl := Option.some.inj h0
   exact PostG.retP (ks := []) (Gst.trans (Gst.only [4, 5] rfl) (Gst.trans (Gst.denil (ReS.cons Re.refl (ReS.cons Re.refl ReS.nil)) (ReO.var (ReL.cons (Re.base .nil) (ReL.cons Re.refl (ReL.cons Re.refl ReL.nil))) (ReO.same (ReO.same (ReO.same ReO.nil))))) (Gst.pick [0] rfl rfl))) undef (ResL.cons (ResV.var 0 rfl rfl rfl rfl) (ResL.cons (ResV.tmp rfl) ResL.nil)) rfl rfl rfl rfl
 refine T.condF rfl (decide_eq_false c19) ?_
 refine T.skip ?_
 show T X _ _ _
 obtain ⟨x21, hx21, q12⟩ := bnd_some q12
 obtain ⟨x22, hx22, q12⟩ := bnd_some q12
 obtain ⟨x23, hx23, q12⟩ := bnd_some q12
 refine T.drawS drawsX (fun env20 => [.val (.pointer (some ⟨(blk p2), 0, none⟩)), .val y7, .val (.string (bs a0)), .val (.pointer (some ⟨(blk p18), 3, none⟩)), .sl 1 (List.map (eI .i64) x17.fBytes), .val (.string (bs x21)), .val (.string (bs a0)), .val (.pointer (some ⟨(blk p18), 0, none⟩)), .val (.pointer (some ⟨(blk p18), 0, none⟩)), .val (.int .i64 x17.fRaw.fAt), .val (.pointer (some ⟨(blk p18), 0, none⟩)), .val (.pointer (some ⟨(blk p18), 0, none⟩)), .val (.int .i64 x17.fRaw.fAt), .val (.pointer (some ⟨(blk p18), 0, none⟩)), .val (.pointer (some ⟨(blk p18), 1, none⟩)), .val (.int .i64 x17.fRaw.fN), .val (.int .i64 (w64 (x17.fRaw.fAt + x17.fRaw.fN))), .val (.string (bs x22)), .agg [.val (.string (bs x21)), .val (.string (bs x22)), .val (.bool true)], .sl 3 (List.map e_ref07_Cell [(⟨x21, x22, true⟩ : ref07_Cell)]), .val (env20 20), .val (.pointer (some ⟨(blk p2), 0, none⟩)), .dead]) (fun D env20 => [.var (blk p1) [.val (.slice none 0 0), .val (.int .i64 0), .val (.bool false)] 57, (bif D 22 then .var (blk p2) [.val (env20 20), .val (.int .i64 a1.fEnd), .val (.bool false)] 57 else .var (blk p2) [.val y7, .val (.int .i64 a1.fEnd), .val (.bool false)] 57), (bif D 20 then .row (env20 20) (List.map e_ref07_Cell x23) 3 112 else .row y7 (List.map e_ref07_Cell s8.2) 3 112), .var (blk p18) [.val (.int .i64 x17.fRaw.fAt), .val (.int .i64 x17.fRaw.fN), .val (.int .i64 x17.fKind), .sl 1 (List.map (eI .i64) x17.fBytes)] 152]) [0, 1, 0, 0, 8, 28, 0, 0, 128, 384, 0, 1024, 3072, 0, 8192, 24576, 64512, 131008, 262140, 524284, 1048575, 2097151, 4194303] [0, 4, 5, 6, 8, 18, 19, 20, 21, 22, 23, 24, 25, 26, 27, 29, 30, 31, 32, 33, 34, 35, 36, 37, 38, 39, 40, 41, 42, 43, 44, 45, 46, 47, 48, 49, 50] (fun env20 => [.var (blk p1) [.val (.slice none 0 0), .val (.int .i64 0), .val (.bool false)] 57, .var (blk p2) [.val (env20 20), .val (.int .i64 a1.fEnd), .val (.bool false)] 57, .row (env20 20) (List.map e_ref07_Cell x23) 3 112, .var (blk p18) [.val (.int .i64 x17.fRaw.fAt), .val (.int .i64 x17.fRaw.fN), .val (.int .i64 x17.fKind), .sl 1 (List.map (eI .i64) x17.fBytes)] 152]) (by decide +kernel) (by decide +kernel) (fun _ => rfl) (fun _ => rfl) ?_ (fun _ => rfl) (fun _ => rfl) ?_
 rotate_left
 · intro env20
   show T X _ _ _
   refine T.region ?_
   refine TL.op1 (OpR.pure rfl) rfl ?_
   refine TL.op1 (OpR.pure rfl) rfl ?_
   refine TL.nil ?_
   obtain rfl := Option.some.inj q12
   exact ⟨m10, Nat.lt_succ_self _, _, Gst.trans (Gst.only [0, 4, 5, 6, 18, 19, 20] rfl) (Gst.pick [0, 1, 2] rfl rfl), (env20 20), (w64 (s8.1 + 1), x23), rfl, i13⟩
 refine oS (d := .val (.pointer (some ⟨(blk p2), 0, none⟩))) (fun _ => Want.plain rfl) (fun _ => rfl) (fun _ _ _ => rfl) (fun _ _ => OpR.pure rfl) (fun _ _ _ _ _ _ _ => rfl) ?_
 refine OpsS.cons' true ?_ (fun _ _ _ _ _ _ _ => rfl) ?_
 · intro D env20 hA
   have e20 : D 20 = false := hA.no 20 _ rfl rfl
   have e22 : D 22 = false := hA.no 22 _ rfl rfl
   exact OpS.yes (o0 := [.var (blk p1) [.val (.slice none 0 0), .val (.int .i64 0), .val (.bool false)] 57, .var (blk p2) [.val y7, .val (.int .i64 a1.fEnd), .val (.bool false)] 57, .row y7 (List.map e_ref07_Cell s8.2) 3 112, .var (blk p18) [.val (.int .i64 x17.fRaw.fAt), .val (.int .i64 x17.fRaw.fN), .val (.int .i64 x17.fKind), .sl 1 (List.map (eI .i64) x17.fBytes)] 152]) (o1 := fun x => [.var (blk p1) [.val (.slice none 0 0), .val (.int .i64 0), .val (.bool false)] 57, .var (blk p2) [.val y7, .val (.int .i64 a1.fEnd), .val (.bool false)] 57, .row y7 (List.map e_ref07_Cell s8.2) 3 112, .var (blk p18) [.val (.int .i64 x17.fRaw.fAt), .val (.int .i64 x17.fRaw.fN), .val (.int .i64 x17.fKind), .sl 1 (List.map (eI .i64) x17.fBytes)] 152]) (d := fun x => .val y7) (Want.plain rfl) (by first | rfl | simp only [e20, e22, cond_true, cond_false, List.cons_append, List.nil_append, List.append_nil]) (fun x => by first | rfl | simp only [ins_self, ins_ne D (show 1 ≠ 20 by decide), ins_ne D (show 1 ≠ 22 by decide), upd_self, upd_ne env20 x (show 1 ≠ 20 by decide), e20, e22, cond_true, cond_false, List.cons_append, List.nil_append, List.append_nil]) (fun x => rfl) (OpR.loadPtr 1 rfl rfl rfl rfl)
 refine oS (d := .val (.string (bs a0))) (fun _ => Want.plain rfl) (fun _ => rfl) (fun _ _ _ => rfl) (fun _ _ => OpR.pure rfl) (fun _ _ _ _ _ _ _ => rfl) ?_
 refine oS (d := .val (.pointer (some ⟨(blk p18), 3, none⟩))) (fun _ => Want.plain rfl) (fun _ => rfl) (fun _ _ _ => rfl) (fun _ _ => OpR.pure rfl) (fun _ _ _ _ _ _ _ => rfl) ?_
 refine oS (d := .sl 1 (List.map (eI .i64) x17.fBytes)) (fun _ => Want.plain rfl) (fun _ => rfl) (fun _ _ _ => rfl) (fun _ _ => OpR.loadPtr 3 rfl rfl rfl rfl) (fun _ _ _ _ _ _ _ => rfl) ?_
 refine oS (d := .val (.string (bs x21))) (fun _ => Want.plain rfl) (fun _ => rfl) (fun _ _ _ => rfl) (fun _ _ => OpR.call0 fn69 (ref05_Text_c hx21) rfl) (fun _ _ _ _ _ _ _ => rfl) ?_
 refine oS (d := .val (.string (bs a0))) (fun _ => Want.plain rfl) (fun _ => rfl) (fun _ _ _ => rfl) (fun _ _ => OpR.pure rfl) (fun _ _ _ _ _ _ _ => rfl) ?_
 refine oS (d := .val (.pointer (some ⟨(blk p18), 0, none⟩))) (fun _ => Want.plain rfl) (fun _ => rfl) (fun _ _ _ => rfl) (fun _ _ => OpR.pure rfl) (fun _ _ _ _ _ _ _ => rfl) ?_
 refine oS (d := .val (.pointer (some ⟨(blk p18), 0, none⟩))) (fun _ => Want.plain rfl) (fun _ => rfl) (fun _ _ _ => rfl) (fun _ _ => OpR.pure rfl) (fun _ _ _ _ _ _ _ => rfl) ?_
 refine oS (d := .val (.int .i64 x17.fRaw.fAt)) (fun _ => Want.plain rfl) (fun _ => rfl) (fun _ _ _ => rfl) (fun _ _ => OpR.loadPtr 3 rfl rfl rfl rfl) (fun _ _ _ _ _ _ _ => rfl) ?_
 refine oS (d := .val (.pointer (some ⟨(blk p18), 0, none⟩))) (fun _ => Want.plain rfl) (fun _ => rfl) (fun _ _ _ => rfl) (fun _ _ => OpR.pure rfl) (fun _ _ _ _ _ _ _ => rfl) ?_
 refine oS (d := .val (.pointer (some ⟨(blk p18), 0, none⟩))) (fun _ => Want.plain rfl) (fun _ => rfl) (fun _ _ _ => rfl) (fun _ _ => OpR.pure rfl) (fun _ _ _ _ _ _ _ => rfl) ?_
 refine oS (d := .val (.int .i64 x17.fRaw.fAt)) (fun _ => Want.plain rfl) (fun _ => rfl) (fun _ _ _ => rfl) (fun _ _ => OpR.loadPtr 3 rfl rfl rfl rfl) (fun _ _ _ _ _ _ _ => rfl) ?_
 refine oS (d := .val (.pointer (some ⟨(blk p18), 0, none⟩))) (fun _ => Want.plain rfl) (fun _ => rfl) (fun _ _ _ => rfl) (fun _ _ => OpR.pure rfl) (fun _ _ _ _ _ _ _ => rfl) ?_
 refine oS (d := .val (.pointer (some ⟨(blk p18), 1, none⟩))) (fun _ => Want.plain rfl) (fun _ => rfl) (fun _ _ _ => rfl) (fun _ _ => OpR.pure rfl) (fun _ _ _ _ _ _ _ => rfl) ?_
 refine oS (d := .val (.int .i64 x17.fRaw.fN)) (fun _ => Want.plain rfl) (fun _ => rfl) (fun _ _ _ => rfl) (fun _ _ => OpR.loadPtr 3 rfl rfl rfl rfl) (fun _ _ _ _ _ _ _ => rfl) ?_
 refine oS (d := .val (.int .i64 (w64 (x17.fRaw.fAt + x17.fRaw.fN)))) (fun _ => Want.plain rfl) (fun _ => rfl) (fun _ _ _ => rfl) (fun _ _ => OpR.pure rfl) (fun _ _ _ _ _ _ _ => rfl) ?_
 refine oS (d := .val (.string (bs x22))) (fun _ => Want.plain rfl) (fun _ => rfl) (fun _ _ _ => rfl) (fun _ _ => OpR.sliceS hx22 rfl rfl rfl (BdM.some rfl) (BdM.some rfl)) (fun _ _ _ _ _ _ _ => rfl) ?_
 refine oS (d := .agg [.val (.string (bs x21)), .val (.string (bs x22)), .val (.bool true)]) (fun _ => Want.plain rfl) (fun _ => rfl) (fun _ _ _ => rfl) (fun _ _ => OpR.build rfl rfl rfl rfl rfl) (fun _ _ _ _ _ _ _ => rfl) ?_
 refine oS (d := .sl 3 (List.map e_ref07_Cell [(⟨x21, x22, true⟩ : ref07_Cell)])) (fun _ => Want.plain rfl) (fun _ => rfl) (fun _ _ _ => rfl) (fun _ _ => OpR.lit rfl rfl rfl rfl rfl rfl rfl) (fun _ _ _ _ _ _ _ => rfl) ?_
 refine OpsS.cons' true ?_ (fun D hA env20 x j hj hD => match j, hj, hD with | 0, _, _ => rfl | 1, _, _ => rfl | 2, _, _ => rfl | 3, _, _ => rfl | 4, _, _ => rfl | 5, _, _ => rfl | 6, _, _ => rfl | 7, _, _ => rfl | 8, _, _ => rfl | 9, _, _ => rfl | 10, _, _ => rfl | 11, _, _ => rfl | 12, _, _ => rfl | 13, _, _ => rfl | 14, _, _ => rfl | 15, _, _ => rfl | 16, _, _ => rfl | 17, _, _ => rfl | 18, _, _ => rfl | 19, _, _ => rfl | 20, hj, _ => absurd rfl hj | 21, _, _ => rfl | 22, _, _ => rfl | _ + 23, _, _ => rfl) ?_
 · intro D env20 hA
   have e22 : D 22 = false := hA.no 22 _ rfl rfl
   exact OpS.yes (o0 := [.var (blk p1) [.val (.slice none 0 0), .val (.int .i64 0), .val (.bool false)] 57, .var (blk p2) [.val y7, .val (.int .i64 a1.fEnd), .val (.bool false)] 57, .row y7 (List.map e_ref07_Cell s8.2) 3 112, .var (blk p18) [.val (.int .i64 x17.fRaw.fAt), .val (.int .i64 x17.fRaw.fN), .val (.int .i64 x17.fKind), .sl 1 (List.map (eI .i64) x17.fBytes)] 152]) (o1 := fun x => [.var (blk p1) [.val (.slice none 0 0), .val (.int .i64 0), .val (.bool false)] 57, .var (blk p2) [.val y7, .val (.int .i64 a1.fEnd), .val (.bool false)] 57, .row x (List.map e_ref07_Cell x23) 3 112, .var (blk p18) [.val (.int .i64 x17.fRaw.fAt), .val (.int .i64 x17.fRaw.fN), .val (.int .i64 x17.fKind), .sl 1 (List.map (eI .i64) x17.fBytes)] 152]) (d := fun x => .val x) (Want.plain rfl) (by first | rfl | simp only [e22, hA.me, cond_true, cond_false, List.cons_append, List.nil_append, List.append_nil]) (fun x => by first | rfl | simp only [ins_self, ins_ne D (show 20 ≠ 22 by decide), upd_self, e22, hA.me, cond_true, cond_false, List.cons_append, List.nil_append, List.append_nil]) (fun x => rfl) (OpR.appendM (m := [(⟨x21, x22, true⟩ : ref07_Cell)]) e_ref07_Cell 2 hx23 rfl rfl rfl rfl rfl rfl rfl rfl rfl (fun _ => rfl))
 refine oS (d := .val (.pointer (some ⟨(blk p2), 0, none⟩))) (fun _ => Want.plain rfl) (fun _ => rfl) (fun _ _ _ => rfl) (fun _ _ => OpR.pure rfl) (fun _ _ _ _ _ _ _ => rfl) ?_
 refine OpsS.cons' true ?_ (fun _ _ _ _ _ _ _ => rfl) ?_
 · intro D env20 hA
   have e20 : D 20 = true := hA.yes 20 _ rfl rfl
   exact OpS.yes (o0 := [.var (blk p1) [.val (.slice none 0 0), .val (.int .i64 0), .val (.bool false)] 57, .var (blk p2) [.val y7, .val (.int .i64 a1.fEnd), .val (.bool false)] 57, .row (env20 20) (List.map e_ref07_Cell x23) 3 112, .var (blk p18) [.val (.int .i64 x17.fRaw.fAt), .val (.int .i64 x17.fRaw.fN), .val (.int .i64 x17.fKind), .sl 1 (List.map (eI .i64) x17.fBytes)] 152]) (o1 := fun x => [.var (blk p1) [.val (.slice none 0 0), .val (.int .i64 0), .val (.bool false)] 57, .var (blk p2) [.val (env20 20), .val (.int .i64 a1.fEnd), .val (.bool false)] 57, .row (env20 20) (List.map e_ref07_Cell x23) 3 112, .var (blk p18) [.val (.int .i64 x17.fRaw.fAt), .val (.int .i64 x17.fRaw.fN), .val (.int .i64 x17.fKind), .sl 1 (List.map (eI .i64) x17.fBytes)] 152]) (d := fun x => .dead) (Want.plain rfl) (by first | rfl | simp only [e20, hA.me, cond_true, cond_false, List.cons_append, List.nil_append, List.append_nil]) (fun x => by first | rfl | simp only [ins_self, ins_ne D (show 22 ≠ 20 by decide), upd_self, upd_ne env20 x (show 22 ≠ 20 by decide), e20, hA.me, cond_true, cond_false, List.cons_append, List.nil_append, List.append_nil]) (fun x => rfl) (OpR.store 1 rfl rfl rfl rfl rfl rfl rfl rfl)
 exact trivial
end Go.Proofs.Ytbcbggdgkdfciaa.S
