/- Printed by a program of this session's own (gen.py): Lean functions for Go functions, and the proofs that the Go code comes to their answers. -/
import Derived.Test.YtkjcogmngoogcaaG17xa
import Derived.Test.YtkjcogmngoogcaaG20xa
import Derived.Test.YtkjcogmngoogcaaG19xa
set_option linter.unusedVariables false
set_option linter.unusedSimpArgs false
namespace Go.Proofs.Ytkjcogmngoogcaa.S
open Go Go.Sm
attribute [local irreducible] T TL OpR CallT iter loop
noncomputable def law04_Few.l1 (a0 : List arena_Span) (s6 : Int × (List arena_Span) × (List ref03_Span)) : Option (Lp (Int × (List arena_Span) × (List ref03_Span)) ((List arena_Span) × (List ref03_Span))) :=
  if s6.1 < (a0.length : Int) then
    bnd (idx a0 s6.1) fun x15 =>
    bnd (if s6.1 < 40 then
      if x15.fAt ≥ 0 then
        if x15.fAt < 1048576 then
          some (decide (x15.fN ≤ 60))
        else
          some false
      else
        some false
    else
      some false : Option Bool) fun t17 =>
    bnd (if t17 = true then
      bnd (app 16 s6.2.1 [x15]) fun x25 =>
      bnd (app 16 s6.2.2 [(⟨x15.fAt, x15.fN⟩ : ref03_Span)]) fun x27 =>
      some (x25, x27)
    else
      some (s6.2.1, s6.2.2) : Option ((List arena_Span) × (List ref03_Span))) fun t21 =>
    some (Lp.next (w64 (s6.1 + 1), t21.1, t21.2))
  else
    some (Lp.done (s6.2.1, s6.2.2))
noncomputable def law04_Few (a0 : List arena_Span) : Option ((List arena_Span) × (List ref03_Span)) :=
  bnd (loop (law04_Few.l1 a0) (0, [], []) : Option ((List arena_Span) × (List ref03_Span))) fun t1 =>
  some (t1.1, t1.2)
set_option maxHeartbeats 4000000 in
theorem law04_Few_c {a0 : List arena_Span} {res : (List arena_Span) × (List ref03_Span)} (h0 : law04_Few a0 = some res) : CallF X 65 [.sl 2 (List.map e_arena_Span a0)] [] (fun x => .tup [.sl 2 (List.map e_arena_Span res.1), .sl 2 (List.map e_ref03_Span res.2)]) (fun x => []) := by
 unfold law04_Few at h0
 refine CallF.mkG (X := X) Try.func65 rfl rfl Try.ntmps65 rfl rfl ?_
 refine T.seq ?_
 refine T.region ?_
 refine TL.op1 (OpR.pure rfl) rfl ?_
 refine TL.op1 (OpR.pure rfl) rfl ?_
 refine TL.nil ?_
 show T X _ _ _
 refine T.seq ?_
 refine T.region ?_
 refine TL.op1 (OpR.pure rfl) rfl ?_
 refine TL.nil ?_
 show T X _ _ _
 refine T.seq ?_
 refine T.region ?_
 refine TL.op1 (OpR.pure rfl) rfl ?_
 refine TL.nil ?_
 show T X _ _ _
 refine T.seq ?_
 refine T.seq ?_
 refine T.region ?_
 refine TL.op1 (OpR.pure rfl) rfl ?_
 refine TL.op1 (OpR.cast (OpR.pure rfl) (intE (lenM _ _))) rfl ?_
 refine TL.op1 (OpR.pure rfl) rfl ?_
 refine TL.nil ?_
 show T X _ _ _
 obtain ⟨t1, ht1, h0⟩ := bnd_some h0
 refine T.cutC (fun S' => ∃ y2 : Value, ∃ y3 : Value, S' = ⟨[(5, .val y3), (4, .val y2), (3, .val (.slice none 0 0)), (2, .val (.slice none 0 0))], [.row y2 (List.map e_arena_Span t1.1) 2 50, .row y3 (List.map e_ref03_Span t1.2) 2 98], 47⟩) (fun _ h => h) ?_ ?_
 rotate_left
 · rintro _ ⟨y2, y3, rfl⟩
   show T X _ _ _
   refine T.seq ?_
   refine T.region ?_
   refine TL.op1 (OpR.pure rfl) rfl ?_
   refine TL.op1 (OpR.pure rfl) rfl ?_
   refine TL.op1 (OpR.pure rfl) rfl ?_
   refine TL.op1 (OpR.pure rfl) rfl ?_
   refine TL.nil ?_
   show T X _ _ _
   refine T.ret ?_
   obtain rfl := Option.some.inj h0
   exact PostG.retP (ks := []) (Gst.trans (Gst.only [2, 3] rfl) (Gst.trans (Gst.freezeRow 0 rfl rfl (ReS.cons Re.refl (ReS.cons (Re.base .all) ReS.nil)) (ReO.same (ReO.same ReO.nil))) (Gst.trans (Gst.freezeRow 1 rfl rfl (ReS.cons (Re.base .all) (ReS.cons Re.refl ReS.nil)) (ReO.same (ReO.same ReO.nil))) (Gst.pick [] rfl rfl)))) undef (ResL.cons (ResV.tmp rfl) (ResL.cons (ResV.tmp rfl) ResL.nil)) rfl rfl rfl rfl
 refine T.block ?_
 obtain ⟨n7, n12⟩ := loop_some ht1
 refine T.loop (fun n S' => ∃ S'', Gst S' S'' ∧ ∃ y4 : Value, ∃ y5 : Value, ∃ s6 : Int × (List arena_Span) × (List ref03_Span), S'' = ⟨[(10, .val (.int .i64 s6.1)), (9, .val (.int .i64 (a0.length : Int))), (8, .sl 2 (List.map e_arena_Span a0)), (5, .val y5), (4, .val y4), (3, .val (.slice none 0 0)), (2, .val (.slice none 0 0))], [.row y4 (List.map e_arena_Span s6.2.1) 2 50, .row y5 (List.map e_ref03_Span s6.2.2) 2 98], 47⟩ ∧ iter (law04_Few.l1 a0) n s6 = some t1) n7 ?_ ?_
 · exact ⟨_, Gst.trans (Gst.only [2, 3, 4, 5, 8, 9, 10] rfl) (Gst.trans (Gst.nilRow (ow := []) 2 50 rfl) (Gst.nilRow (ow := [.row (.slice none 0 0) (List.map e_arena_Span []) 2 50]) 2 98 rfl)), (.slice none 0 0), (.slice none 0 0), (0, [], []), rfl, n12⟩
 rintro n7 _ ⟨_, g, y4, y5, s6, rfl, i11⟩
 refine T.ghost g ?_
 obtain ⟨m8, q9, rfl, q10, i11⟩ := iter_succ i11
 unfold law04_Few.l1 at q10
 refine T.seq ?_
 refine T.region ?_
 refine TL.op1 (OpR.pure rfl) rfl ?_
 refine TL.nil ?_
 show T X _ _ _
 refine T.seq ?_
 rcases ite_some q10 with ⟨c14, q10⟩ | ⟨c14, q10⟩
 rotate_left
 · refine T.condF rfl (decide_eq_false c14) ?_
   refine T.exit ?_
   obtain rfl := Option.some.inj q10
   obtain rfl : _ = _ := i11
   exact ⟨_, Gst.only [2, 3, 4, 5] rfl, y4, y5, rfl⟩
 refine T.condT rfl (decide_eq_true c14) ?_
 refine T.skip ?_
 show T X _ _ _
 refine T.seq ?_
 refine T.block ?_
 refine T.seq ?_
 refine T.region ?_
 refine TL.op1 (OpR.pure rfl) rfl ?_
 obtain ⟨x15, hx15, q10⟩ := bnd_some q10
 refine TL.op1 (OpR.indexM e_arena_Span hx15 rfl rfl rfl rfl rfl) rfl ?_
 refine TL.op1 (OpR.pure rfl) rfl ?_
 refine TL.op (OpR.alloc rfl rfl (fun _ => rfl)) rfl (fun p16 => ?_)
 refine TL.op1 (OpR.pure rfl) rfl ?_
 refine TL.op0 (OpR.store 2 rfl rfl rfl rfl rfl rfl rfl rfl) ?_
 refine TL.nil ?_
 show T X _ _ _
 refine T.seq ?_
 obtain ⟨t17, ht17, q10⟩ := bnd_some q10
 refine T.cutC (fun S' => S' = ⟨[(31, .val (.bool t17)), (10, .val (.int .i64 s6.1)), (9, .val (.int .i64 (a0.length : Int))), (8, .sl 2 (List.map e_arena_Span a0)), (7, .val (.pointer (some ⟨(blk p16), 0, none⟩))), (5, .val y5), (4, .val y4), (3, .val (.slice none 0 0)), (2, .val (.slice none 0 0))], [.row y4 (List.map e_arena_Span s6.2.1) 2 50, .row y5 (List.map e_ref03_Span s6.2.2) 2 98, .var (blk p16) [.val (.int .i64 x15.fAt), .val (.int .i64 x15.fN)] 50], 47⟩) (fun _ h => h) ?_ ?_
 rotate_left
 · rintro _ rfl
   show T X _ _ _
   obtain ⟨t21, ht21, q10⟩ := bnd_some q10
   refine T.cutC (fun S' => ∃ y22 : Value, ∃ y23 : Value, S' = ⟨[(10, .val (.int .i64 s6.1)), (9, .val (.int .i64 (a0.length : Int))), (8, .sl 2 (List.map e_arena_Span a0)), (5, .val y23), (4, .val y22), (3, .val (.slice none 0 0)), (2, .val (.slice none 0 0))], [.row y22 (List.map e_arena_Span t21.1) 2 50, .row y23 (List.map e_ref03_Span t21.2) 2 98], 47⟩) (fun _ h => h) ?_ ?_
   rotate_left
   · rintro _ ⟨y22, y23, rfl⟩
     show T X _ _ _
     refine T.region ?_
     refine TL.op1 (OpR.pure rfl) rfl ?_
     refine TL.op1 (OpR.pure rfl) rfl ?_
     refine TL.nil ?_
     obtain rfl := Option.some.inj q10
     exact ⟨m8, Nat.lt_succ_self _, _, Gst.only [2, 3, 4, 5, 8, 9, 10] rfl, y22, y23, (w64 (s6.1 + 1), t21.1, t21.2), rfl, i11⟩
   rcases ite_some ht21 with ⟨c24, ht21⟩ | ⟨c24, ht21⟩
   rotate_left
   · refine T.condF rfl (eq_false_of_ne_true c24) ?_
     refine T.skip ?_
     obtain rfl := Option.some.inj ht21
     exact ⟨_, Gst.trans (Gst.only [2, 3, 4, 5, 8, 9, 10] rfl) (Gst.pick [0, 1] rfl rfl), y4, y5, rfl⟩
   refine T.condT rfl (c24) ?_
   refine T.seq ?_
   refine T.region ?_
   refine TL.op1 (OpR.pure rfl) rfl ?_
   refine TL.op1 (OpR.loadPtr 2 rfl rfl rfl rfl) rfl ?_
   refine TL.op1 (OpR.lit rfl rfl rfl rfl rfl rfl rfl) rfl ?_
   obtain ⟨x25, hx25, ht21⟩ := bnd_some ht21
   refine TL.op (OpR.appendM (m := [x15]) e_arena_Span 0 hx25 rfl rfl rfl rfl rfl rfl rfl rfl rfl (fun _ => rfl)) rfl (fun v26 => ?_)
   refine TL.op1 (OpR.pure rfl) rfl ?_
   refine TL.nil ?_
   show T X _ _ _
   refine T.region ?_
   refine TL.op1 (OpR.pure rfl) rfl ?_
   refine TL.op1 (OpR.pure rfl) rfl ?_
   refine TL.op1 (OpR.loadPtr 2 rfl rfl rfl rfl) rfl ?_
   refine TL.op1 (OpR.pure rfl) rfl ?_
   refine TL.op1 (OpR.loadPtr 2 rfl rfl rfl rfl) rfl ?_
   refine TL.op1 (OpR.build rfl rfl rfl rfl rfl) rfl ?_
   refine TL.op1 (OpR.lit rfl rfl rfl rfl rfl rfl rfl) rfl ?_
   obtain ⟨x27, hx27, ht21⟩ := bnd_some ht21
   refine TL.op (OpR.appendM (m := [(⟨x15.fAt, x15.fN⟩ : ref03_Span)]) e_ref03_Span 1 hx27 rfl rfl rfl rfl rfl rfl rfl rfl rfl (fun _ => rfl)) rfl (fun v28 => ?_)
   refine TL.op1 (OpR.pure rfl) rfl ?_
   refine TL.nil ?_
   obtain rfl := Option.some.inj ht21
   exact ⟨_, Gst.trans (Gst.only [2, 3, 4, 5, 8, 9, 10] rfl) (Gst.pick [0, 1] rfl rfl), v26, v28, rfl⟩
 refine T.region ?_
 refine TL.op1 (OpR.pure rfl) rfl ?_
 refine TL.op1 (OpR.pure rfl) rfl ?_
 refine TL.op1 (OpR.pure rfl) rfl ?_
 rcases ite_some ht17 with ⟨c18, ht17⟩ | ⟨c18, ht17⟩
 rotate_left
 · refine TL.off rfl rfl rfl rfl (decide_eq_false c18) rfl rfl ?_
   refine TL.off rfl rfl rfl rfl (decide_eq_false c18) rfl rfl ?_
   refine TL.off rfl rfl rfl rfl (decide_eq_false c18) rfl rfl ?_
   refine TL.op1 (OpR.pickF rfl (decide_eq_false c18) rfl) rfl ?_
   refine TL.op1 (OpR.pure rfl) rfl ?_
   refine TL.off rfl rfl rfl rfl rfl rfl rfl ?_
   refine TL.off rfl rfl rfl rfl rfl rfl rfl ?_
   refine TL.off rfl rfl rfl rfl rfl rfl rfl ?_
   refine TL.op1 (OpR.pickF rfl rfl rfl) rfl ?_
   refine TL.op1 (OpR.pure rfl) rfl ?_
   refine TL.off rfl rfl rfl rfl rfl rfl rfl ?_
   refine TL.off rfl rfl rfl rfl rfl rfl rfl ?_
   refine TL.off rfl rfl rfl rfl rfl rfl rfl ?_
   refine TL.op1 (OpR.pickF rfl rfl rfl) rfl ?_
   refine TL.nil ?_
   obtain rfl := Option.some.inj ht17
   exact ⟨_, Gst.only [2, 3, 4, 5, 7, 8, 9, 10, 31] rfl, rfl⟩
 refine TL.on rfl rfl rfl rfl (decide_eq_true c18) ?_
 refine TL.op1 (OpR.pure rfl) rfl ?_
 refine TL.on rfl rfl rfl rfl (decide_eq_true c18) ?_
 refine TL.op1 (OpR.loadPtr 2 rfl rfl rfl rfl) rfl ?_
 refine TL.on rfl rfl rfl rfl (decide_eq_true c18) ?_
 refine TL.op1 (OpR.pure rfl) rfl ?_
 refine TL.op1 (OpR.pickT rfl (decide_eq_true c18) rfl) rfl ?_
 refine TL.op1 (OpR.pure rfl) rfl ?_
 rcases ite_some ht17 with ⟨c19, ht17⟩ | ⟨c19, ht17⟩
 rotate_left
 · refine TL.off rfl rfl rfl rfl (decide_eq_false c19) rfl rfl ?_
   refine TL.off rfl rfl rfl rfl (decide_eq_false c19) rfl rfl ?_
   refine TL.off rfl rfl rfl rfl (decide_eq_false c19) rfl rfl ?_
   refine TL.op1 (OpR.pickF rfl (decide_eq_false c19) rfl) rfl ?_
   refine TL.op1 (OpR.pure rfl) rfl ?_
   refine TL.off rfl rfl rfl rfl rfl rfl rfl ?_
   refine TL.off rfl rfl rfl rfl rfl rfl rfl ?_
   refine TL.off rfl rfl rfl rfl rfl rfl rfl ?_
   refine TL.op1 (OpR.pickF rfl rfl rfl) rfl ?_
   refine TL.nil ?_
   obtain rfl := Option.some.inj ht17
   exact ⟨_, Gst.only [2, 3, 4, 5, 7, 8, 9, 10, 31] rfl, rfl⟩
 refine TL.on rfl rfl rfl rfl (decide_eq_true c19) ?_
 refine TL.op1 (OpR.pure rfl) rfl ?_
 refine TL.on rfl rfl rfl rfl (decide_eq_true c19) ?_
 refine TL.op1 (OpR.loadPtr 2 rfl rfl rfl rfl) rfl ?_
 refine TL.on rfl rfl rfl rfl (decide_eq_true c19) ?_
 refine TL.op1 (OpR.pure rfl) rfl ?_
 refine TL.op1 (OpR.pickT rfl (decide_eq_true c19) rfl) rfl ?_
 refine TL.op1 (OpR.pure rfl) rfl ?_
 rcases ite_some ht17 with ⟨c20, ht17⟩ | ⟨c20, ht17⟩
 rotate_left
 · refine TL.off rfl rfl rfl rfl (decide_eq_false c20) rfl rfl ?_
   refine TL.off rfl rfl rfl rfl (decide_eq_false c20) rfl rfl ?_
   refine TL.off rfl rfl rfl rfl (decide_eq_false c20) rfl rfl ?_
   refine TL.op1 (OpR.pickF rfl (decide_eq_false c20) rfl) rfl ?_
   refine TL.nil ?_
   obtain rfl := Option.some.inj ht17
   exact ⟨_, Gst.only [2, 3, 4, 5, 7, 8, 9, 10, 31] rfl, rfl⟩
 refine TL.on rfl rfl rfl rfl (decide_eq_true c20) ?_
 refine TL.op1 (OpR.pure rfl) rfl ?_
 refine TL.on rfl rfl rfl rfl (decide_eq_true c20) ?_
 refine TL.op1 (OpR.loadPtr 2 rfl rfl rfl rfl) rfl ?_
 refine TL.on rfl rfl rfl rfl (decide_eq_true c20) ?_
 refine TL.op1 (OpR.pure rfl) rfl ?_
 refine TL.op1 (OpR.pickT rfl (decide_eq_true c20) rfl) rfl ?_
 refine TL.nil ?_
 obtain rfl := Option.some.inj ht17
 exact ⟨_, Gst.only [2, 3, 4, 5, 7, 8, 9, 10, 31] rfl, rfl⟩
set_option maxHeartbeats 4000000 in
theorem law04_Few_c_2 {a0 : List arena_Span} {v0 : Value} {res : (List arena_Span) × (List ref03_Span)} (h0 : law04_Few a0 = some res) : CallF X 65 [.val v0] [.row v0 (List.map e_arena_Span a0) 2 50] (fun x => .tup [.sl 2 (List.map e_arena_Span res.1), .sl 2 (List.map e_ref03_Span res.2)]) (fun x => [.row v0 (List.map e_arena_Span a0) 2 50]) := by
 unfold law04_Few at h0
 refine CallF.mkG (X := X) Try.func65 rfl rfl Try.ntmps65 rfl rfl ?_
 refine T.seq ?_
 refine T.region ?_
 refine TL.op1 (OpR.pure rfl) rfl ?_
 refine TL.op1 (OpR.pure rfl) rfl ?_
 refine TL.nil ?_
 show T X _ _ _
 refine T.seq ?_
 refine T.region ?_
 refine TL.op1 (OpR.pure rfl) rfl ?_
 refine TL.nil ?_
 show T X _ _ _
 refine T.seq ?_
 refine T.region ?_
 refine TL.op1 (OpR.pure rfl) rfl ?_
 refine TL.nil ?_
 show T X _ _ _
 refine T.seq ?_
 refine T.seq ?_
 refine T.region ?_
 refine TL.op1 (OpR.pure rfl) rfl ?_
 refine TL.op1 (OpR.rowLenM e_arena_Span 0 rfl rfl rfl rfl) rfl ?_
 refine TL.op1 (OpR.pure rfl) rfl ?_
 refine TL.nil ?_
 show T X _ _ _
 obtain ⟨t1, ht1, h0⟩ := bnd_some h0
 refine T.cutC (fun S' => ∃ y2 : Value, ∃ y3 : Value, S' = ⟨[(5, .val y3), (4, .val y2), (3, .val (.slice none 0 0)), (2, .val (.slice none 0 0))], [.row v0 (List.map e_arena_Span a0) 2 50, .row y2 (List.map e_arena_Span t1.1) 2 50, .row y3 (List.map e_ref03_Span t1.2) 2 98], 47⟩) (fun _ h => h) ?_ ?_
 rotate_left
 · rintro _ ⟨y2, y3, rfl⟩
   show T X _ _ _
   refine T.seq ?_
   refine T.region ?_
   refine TL.op1 (OpR.pure rfl) rfl ?_
   refine TL.op1 (OpR.pure rfl) rfl ?_
   refine TL.op1 (OpR.pure rfl) rfl ?_
   refine TL.op1 (OpR.pure rfl) rfl ?_
   refine TL.nil ?_
   show T X _ _ _
   refine T.ret ?_
   obtain rfl := Option.some.inj h0
   exact PostG.retP (ks := [0]) (Gst.trans (Gst.only [2, 3] rfl) (Gst.trans (Gst.freezeRow 1 rfl rfl (ReS.cons Re.refl (ReS.cons (Re.base .all) ReS.nil)) (ReO.same (ReO.same (ReO.same ReO.nil)))) (Gst.trans (Gst.freezeRow 2 rfl rfl (ReS.cons (Re.base .all) (ReS.cons Re.refl ReS.nil)) (ReO.same (ReO.same (ReO.same ReO.nil)))) (Gst.pick [0] rfl rfl)))) undef (ResL.cons (ResV.tmp rfl) (ResL.cons (ResV.tmp rfl) ResL.nil)) rfl rfl rfl rfl
 refine T.block ?_
 obtain ⟨n7, n12⟩ := loop_some ht1
 refine T.loop (fun n S' => ∃ S'', Gst S' S'' ∧ ∃ y4 : Value, ∃ y5 : Value, ∃ s6 : Int × (List arena_Span) × (List ref03_Span), S'' = ⟨[(10, .val (.int .i64 s6.1)), (9, .val (.int .i64 (a0.length : Int))), (8, .val v0), (5, .val y5), (4, .val y4), (3, .val (.slice none 0 0)), (2, .val (.slice none 0 0))], [.row v0 (List.map e_arena_Span a0) 2 50, .row y4 (List.map e_arena_Span s6.2.1) 2 50, .row y5 (List.map e_ref03_Span s6.2.2) 2 98], 47⟩ ∧ iter (law04_Few.l1 a0) n s6 = some t1) n7 ?_ ?_
 · exact ⟨_, Gst.trans (Gst.only [2, 3, 4, 5, 8, 9, 10] rfl) (Gst.trans (Gst.nilRow (ow := [.row v0 (List.map e_arena_Span a0) 2 50]) 2 50 rfl) (Gst.nilRow (ow := [.row v0 (List.map e_arena_Span a0) 2 50, .row (.slice none 0 0) (List.map e_arena_Span []) 2 50]) 2 98 rfl)), (.slice none 0 0), (.slice none 0 0), (0, [], []), rfl, n12⟩
 rintro n7 _ ⟨_, g, y4, y5, s6, rfl, i11⟩
 refine T.ghost g ?_
 obtain ⟨m8, q9, rfl, q10, i11⟩ := iter_succ i11
 unfold law04_Few.l1 at q10
 refine T.seq ?_
 refine T.region ?_
 refine TL.op1 (OpR.pure rfl) rfl ?_
 refine TL.nil ?_
 show T X _ _ _
 refine T.seq ?_
 rcases ite_some q10 with ⟨c14, q10⟩ | ⟨c14, q10⟩
 rotate_left
 · refine T.condF rfl (decide_eq_false c14) ?_
   refine T.exit ?_
   obtain rfl := Option.some.inj q10
   obtain rfl : _ = _ := i11
   exact ⟨_, Gst.only [2, 3, 4, 5] rfl, y4, y5, rfl⟩
 refine T.condT rfl (decide_eq_true c14) ?_
 refine T.skip ?_
 show T X _ _ _
 refine T.seq ?_
 refine T.block ?_
 refine T.seq ?_
 refine T.region ?_
 refine TL.op1 (OpR.pure rfl) rfl ?_
 obtain ⟨x15, hx15, q10⟩ := bnd_some q10
 refine TL.op1 (OpR.rowIndexM e_arena_Span 0 hx15 rfl rfl rfl rfl rfl rfl rfl) rfl ?_
 refine TL.op1 (OpR.rowLoad0M (j := s6.1) e_arena_Span 0 hx15 rfl rfl rfl rfl) rfl ?_
 refine TL.op (OpR.alloc rfl rfl (fun _ => rfl)) rfl (fun p16 => ?_)
 refine TL.op1 (OpR.pure rfl) rfl ?_
 refine TL.op0 (OpR.store 3 rfl rfl rfl rfl rfl rfl rfl rfl) ?_
 refine TL.nil ?_
 show T X _ _ _
 refine T.seq ?_
 obtain ⟨t17, ht17, q10⟩ := bnd_some q10
 refine T.cutC (fun S' => S' = ⟨[(31, .val (.bool t17)), (10, .val (.int .i64 s6.1)), (9, .val (.int .i64 (a0.length : Int))), (8, .val v0), (7, .val (.pointer (some ⟨(blk p16), 0, none⟩))), (5, .val y5), (4, .val y4), (3, .val (.slice none 0 0)), (2, .val (.slice none 0 0))], [.row v0 (List.map e_arena_Span a0) 2 50, .row y4 (List.map e_arena_Span s6.2.1) 2 50, .row y5 (List.map e_ref03_Span s6.2.2) 2 98, .var (blk p16) [.val (.int .i64 x15.fAt), .val (.int .i64 x15.fN)] 50], 47⟩) (fun _ h => h) ?_ ?_
 rotate_left
 · rintro _ rfl
   show T X _ _ _
   obtain ⟨t21, ht21, q10⟩ := bnd_some q10
   refine T.cutC (fun S' => ∃ y22 : Value, ∃ y23 : Value, S' = ⟨[(10, .val (.int .i64 s6.1)), (9, .val (.int .i64 (a0.length : Int))), (8, .val v0), (5, .val y23), (4, .val y22), (3, .val (.slice none 0 0)), (2, .val (.slice none 0 0))], [.row v0 (List.map e_arena_Span a0) 2 50, .row y22 (List.map e_arena_Span t21.1) 2 50, .row y23 (List.map e_ref03_Span t21.2) 2 98], 47⟩) (fun _ h => h) ?_ ?_
   rotate_left
   · rintro _ ⟨y22, y23, rfl⟩
     show T X _ _ _
     refine T.region ?_
     refine TL.op1 (OpR.pure rfl) rfl ?_
     refine TL.op1 (OpR.pure rfl) rfl ?_
     refine TL.nil ?_
     obtain rfl := Option.some.inj q10
     exact ⟨m8, Nat.lt_succ_self _, _, Gst.only [2, 3, 4, 5, 8, 9, 10] rfl, y22, y23, (w64 (s6.1 + 1), t21.1, t21.2), rfl, i11⟩
   rcases ite_some ht21 with ⟨c24, ht21⟩ | ⟨c24, ht21⟩
   rotate_left
   · refine T.condF rfl (eq_false_of_ne_true c24) ?_
     refine T.skip ?_
     obtain rfl := Option.some.inj ht21
     exact ⟨_, Gst.trans (Gst.only [2, 3, 4, 5, 8, 9, 10] rfl) (Gst.pick [0, 1, 2] rfl rfl), y4, y5, rfl⟩
   refine T.condT rfl (c24) ?_
   refine T.seq ?_
   refine T.region ?_
   refine TL.op1 (OpR.pure rfl) rfl ?_
   refine TL.op1 (OpR.loadPtr 3 rfl rfl rfl rfl) rfl ?_
   refine TL.op1 (OpR.lit rfl rfl rfl rfl rfl rfl rfl) rfl ?_
   obtain ⟨x25, hx25, ht21⟩ := bnd_some ht21
   refine TL.op (OpR.appendM (m := [x15]) e_arena_Span 1 hx25 rfl rfl rfl rfl rfl rfl rfl rfl rfl (fun _ => rfl)) rfl (fun v26 => ?_)
   refine TL.op1 (OpR.pure rfl) rfl ?_
   refine TL.nil ?_
   show T X _ _ _
   refine T.region ?_
   refine TL.op1 (OpR.pure rfl) rfl ?_
   refine TL.op1 (OpR.pure rfl) rfl ?_
   refine TL.op1 (OpR.loadPtr 3 rfl rfl rfl rfl) rfl ?_
   refine TL.op1 (OpR.pure rfl) rfl ?_
   refine TL.op1 (OpR.loadPtr 3 rfl rfl rfl rfl) rfl ?_
   refine TL.op1 (OpR.build rfl rfl rfl rfl rfl) rfl ?_
   refine TL.op1 (OpR.lit rfl rfl rfl rfl rfl rfl rfl) rfl ?_
   obtain ⟨x27, hx27, ht21⟩ := bnd_some ht21
   refine TL.op (OpR.appendM (m := [(⟨x15.fAt, x15.fN⟩ : ref03_Span)]) e_ref03_Span 2 hx27 rfl rfl rfl rfl rfl rfl rfl rfl rfl (fun _ => rfl)) rfl (fun v28 => ?_)
   refine TL.op1 (OpR.pure rfl) rfl ?_
   refine TL.nil ?_
   obtain rfl := Option.some.inj ht21
   exact ⟨_, Gst.trans (Gst.only [2, 3, 4, 5, 8, 9, 10] rfl) (Gst.pick [0, 1, 2] rfl rfl), v26, v28, rfl⟩
 refine T.region ?_
 refine TL.op1 (OpR.pure rfl) rfl ?_
 refine TL.op1 (OpR.pure rfl) rfl ?_
 refine TL.op1 (OpR.pure rfl) rfl ?_
 rcases ite_some ht17 with ⟨c18, ht17⟩ | ⟨c18, ht17⟩
 rotate_left
 · refine TL.off rfl rfl rfl rfl (decide_eq_false c18) rfl rfl ?_
   refine TL.off rfl rfl rfl rfl (decide_eq_false c18) rfl rfl ?_
   refine TL.off rfl rfl rfl rfl (decide_eq_false c18) rfl rfl ?_
   refine TL.op1 (OpR.pickF rfl (decide_eq_false c18) rfl) rfl ?_
   refine TL.op1 (OpR.pure rfl) rfl ?_
   refine TL.off rfl rfl rfl rfl rfl rfl rfl ?_
   refine TL.off rfl rfl rfl rfl rfl rfl rfl ?_
   refine TL.off rfl rfl rfl rfl rfl rfl rfl ?_
   refine TL.op1 (OpR.pickF rfl rfl rfl) rfl ?_
   refine TL.op1 (OpR.pure rfl) rfl ?_
   refine TL.off rfl rfl rfl rfl rfl rfl rfl ?_
   refine TL.off rfl rfl rfl rfl rfl rfl rfl ?_
   refine TL.off rfl rfl rfl rfl rfl rfl rfl ?_
   refine TL.op1 (OpR.pickF rfl rfl rfl) rfl ?_
   refine TL.nil ?_
   obtain rfl := Option.some.inj ht17
   exact ⟨_, Gst.only [2, 3, 4, 5, 7, 8, 9, 10, 31] rfl, rfl⟩
 refine TL.on rfl rfl rfl rfl (decide_eq_true c18) ?_
 refine TL.op1 (OpR.pure rfl) rfl ?_
 refine TL.on rfl rfl rfl rfl (decide_eq_true c18) ?_
 refine TL.op1 (OpR.loadPtr 3 rfl rfl rfl rfl) rfl ?_
 refine TL.on rfl rfl rfl rfl (decide_eq_true c18) ?_
 refine TL.op1 (OpR.pure rfl) rfl ?_
 refine TL.op1 (OpR.pickT rfl (decide_eq_true c18) rfl) rfl ?_
 refine TL.op1 (OpR.pure rfl) rfl ?_
 rcases ite_some ht17 with ⟨c19, ht17⟩ | ⟨c19, ht17⟩
 rotate_left
 · refine TL.off rfl rfl rfl rfl (decide_eq_false c19) rfl rfl ?_
   refine TL.off rfl rfl rfl rfl (decide_eq_false c19) rfl rfl ?_
   refine TL.off rfl rfl rfl rfl (decide_eq_false c19) rfl rfl ?_
   refine TL.op1 (OpR.pickF rfl (decide_eq_false c19) rfl) rfl ?_
   refine TL.op1 (OpR.pure rfl) rfl ?_
   refine TL.off rfl rfl rfl rfl rfl rfl rfl ?_
   refine TL.off rfl rfl rfl rfl rfl rfl rfl ?_
   refine TL.off rfl rfl rfl rfl rfl rfl rfl ?_
   refine TL.op1 (OpR.pickF rfl rfl rfl) rfl ?_
   refine TL.nil ?_
   obtain rfl := Option.some.inj ht17
   exact ⟨_, Gst.only [2, 3, 4, 5, 7, 8, 9, 10, 31] rfl, rfl⟩
 refine TL.on rfl rfl rfl rfl (decide_eq_true c19) ?_
 refine TL.op1 (OpR.pure rfl) rfl ?_
 refine TL.on rfl rfl rfl rfl (decide_eq_true c19) ?_
 refine TL.op1 (OpR.loadPtr 3 rfl rfl rfl rfl) rfl ?_
 refine TL.on rfl rfl rfl rfl (decide_eq_true c19) ?_
 refine TL.op1 (OpR.pure rfl) rfl ?_
 refine TL.op1 (OpR.pickT rfl (decide_eq_true c19) rfl) rfl ?_
 refine TL.op1 (OpR.pure rfl) rfl ?_
 rcases ite_some ht17 with ⟨c20, ht17⟩ | ⟨c20, ht17⟩
 rotate_left
 · refine TL.off rfl rfl rfl rfl (decide_eq_false c20) rfl rfl ?_
   refine TL.off rfl rfl rfl rfl (decide_eq_false c20) rfl rfl ?_
   refine TL.off rfl rfl rfl rfl (decide_eq_false c20) rfl rfl ?_
   refine TL.op1 (OpR.pickF rfl (decide_eq_false c20) rfl) rfl ?_
   refine TL.nil ?_
   obtain rfl := Option.some.inj ht17
   exact ⟨_, Gst.only [2, 3, 4, 5, 7, 8, 9, 10, 31] rfl, rfl⟩
 refine TL.on rfl rfl rfl rfl (decide_eq_true c20) ?_
 refine TL.op1 (OpR.pure rfl) rfl ?_
 refine TL.on rfl rfl rfl rfl (decide_eq_true c20) ?_
 refine TL.op1 (OpR.loadPtr 3 rfl rfl rfl rfl) rfl ?_
 refine TL.on rfl rfl rfl rfl (decide_eq_true c20) ?_
 refine TL.op1 (OpR.pure rfl) rfl ?_
 refine TL.op1 (OpR.pickT rfl (decide_eq_true c20) rfl) rfl ?_
 refine TL.nil ?_
 obtain rfl := Option.some.inj ht17
 exact ⟨_, Gst.only [2, 3, 4, 5, 7, 8, 9, 10, 31] rfl, rfl⟩
noncomputable def ref04_Of.l1 (x13 : ref03_Span) (s18 : Int × (List Int)) : Option (Lp (Int × (List Int)) (List Int)) :=
  if s18.1 < x13.fN then
    bnd (app 8 s18.2 [w64 (x13.fAt + s18.1)]) fun x27 =>
    some (Lp.next (w64 (s18.1 + 1), x27))
  else
    some (Lp.done s18.2)
noncomputable def ref04_Of.l2 (a0 : List ref03_Span) (s4 : Int × (List Int)) : Option (Lp (Int × (List Int)) (List Int)) :=
  if s4.1 < (a0.length : Int) then
    bnd (idx a0 s4.1) fun x13 =>
    bnd (loop (ref04_Of.l1 x13) (0, s4.2) : Option (List Int)) fun t15 =>
    some (Lp.next (w64 (s4.1 + 1), t15))
  else
    some (Lp.done s4.2)
noncomputable def ref04_Of (a0 : List ref03_Span) : Option (List Int) :=
  bnd (loop (ref04_Of.l2 a0) (0, []) : Option (List Int)) fun t1 =>
  some t1
set_option maxHeartbeats 4000000 in
theorem ref04_Of_c {a0 : List ref03_Span} {res : (List Int)} (h0 : ref04_Of a0 = some res) : CallF X 66 [.sl 2 (List.map e_ref03_Span a0)] [] (fun x => .sl 1 (List.map (eI .i64) res)) (fun x => []) := by
 unfold ref04_Of at h0
 refine CallF.mkG (X := X) Try.func66 rfl rfl Try.ntmps66 rfl rfl ?_
 refine T.seq ?_
 refine T.region ?_
 refine TL.op1 (OpR.pure rfl) rfl ?_
 refine TL.nil ?_
 show T X _ _ _
 refine T.seq ?_
 refine T.region ?_
 refine TL.op1 (OpR.pure rfl) rfl ?_
 refine TL.nil ?_
 show T X _ _ _
 refine T.seq ?_
 refine T.seq ?_
 refine T.region ?_
 refine TL.op1 (OpR.pure rfl) rfl ?_
 refine TL.op1 (OpR.cast (OpR.pure rfl) (intE (lenM _ _))) rfl ?_
 refine TL.op1 (OpR.pure rfl) rfl ?_
 refine TL.nil ?_
 show T X _ _ _
 obtain ⟨t1, ht1, h0⟩ := bnd_some h0
 refine T.cutC (fun S' => ∃ y2 : Value, S' = ⟨[(3, .val y2), (2, .val (.slice none 0 0))], [.row y2 (List.map (eI .i64) t1) 1 3], 28⟩) (fun _ h => h) ?_ ?_
 rotate_left
 · rintro _ ⟨y2, rfl⟩
   show T X _ _ _
   refine T.seq ?_
   refine T.region ?_
   refine TL.op1 (OpR.pure rfl) rfl ?_
   refine TL.op1 (OpR.pure rfl) rfl ?_
   refine TL.nil ?_
   show T X _ _ _
   refine T.ret ?_
   obtain rfl := Option.some.inj h0
   exact PostG.retP (ks := []) (Gst.trans (Gst.only [2] rfl) (Gst.trans (Gst.freezeRow 0 rfl rfl (ReS.cons (Re.base .all) ReS.nil) (ReO.same ReO.nil)) (Gst.pick [] rfl rfl))) undef (ResL.cons (ResV.tmp rfl) ResL.nil) rfl rfl rfl rfl
 refine T.block ?_
 obtain ⟨n5, n10⟩ := loop_some ht1
 refine T.loop (fun n S' => ∃ S'', Gst S' S'' ∧ ∃ y3 : Value, ∃ s4 : Int × (List Int), S'' = ⟨[(9, .val (.int .i64 s4.1)), (8, .val (.int .i64 (a0.length : Int))), (7, .sl 2 (List.map e_ref03_Span a0)), (3, .val y3), (2, .val (.slice none 0 0))], [.row y3 (List.map (eI .i64) s4.2) 1 3], 28⟩ ∧ iter (ref04_Of.l2 a0) n s4 = some t1) n5 ?_ ?_
 · exact ⟨_, Gst.trans (Gst.only [2, 3, 7, 8, 9] rfl) (Gst.nilRow (ow := []) 1 3 rfl), (.slice none 0 0), (0, []), rfl, n10⟩
 rintro n5 _ ⟨_, g, y3, s4, rfl, i9⟩
 refine T.ghost g ?_
 obtain ⟨m6, q7, rfl, q8, i9⟩ := iter_succ i9
 unfold ref04_Of.l2 at q8
 refine T.seq ?_
 refine T.region ?_
 refine TL.op1 (OpR.pure rfl) rfl ?_
 refine TL.nil ?_
 show T X _ _ _
 refine T.seq ?_
 rcases ite_some q8 with ⟨c12, q8⟩ | ⟨c12, q8⟩
 rotate_left
 · refine T.condF rfl (decide_eq_false c12) ?_
   refine T.exit ?_
   obtain rfl := Option.some.inj q8
   obtain rfl : _ = _ := i9
   exact ⟨_, Gst.only [2, 3] rfl, y3, rfl⟩
 refine T.condT rfl (decide_eq_true c12) ?_
 refine T.skip ?_
 show T X _ _ _
 refine T.seq ?_
 refine T.block ?_
 refine T.seq ?_
 refine T.region ?_
 obtain ⟨x13, hx13, q8⟩ := bnd_some q8
 refine TL.op1 (OpR.indexM e_ref03_Span hx13 rfl rfl rfl rfl rfl) rfl ?_
 refine TL.op1 (OpR.pure rfl) rfl ?_
 refine TL.op (OpR.alloc rfl rfl (fun _ => rfl)) rfl (fun p14 => ?_)
 refine TL.op0 (OpR.store 1 rfl rfl rfl rfl rfl rfl rfl rfl) ?_
 refine TL.nil ?_
 show T X _ _ _
 refine T.seq ?_
 refine T.region ?_
 refine TL.op1 (OpR.pure rfl) rfl ?_
 refine TL.nil ?_
 show T X _ _ _
 obtain ⟨t15, ht15, q8⟩ := bnd_some q8
 refine T.cutC (fun S' => ∃ y16 : Value, S' = ⟨[(9, .val (.int .i64 s4.1)), (8, .val (.int .i64 (a0.length : Int))), (7, .sl 2 (List.map e_ref03_Span a0)), (3, .val y16), (2, .val (.slice none 0 0))], [.row y16 (List.map (eI .i64) t15) 1 3], 28⟩) (fun _ h => h) ?_ ?_
 rotate_left
 · rintro _ ⟨y16, rfl⟩
   show T X _ _ _
   refine T.region ?_
   refine TL.op1 (OpR.pure rfl) rfl ?_
   refine TL.op1 (OpR.pure rfl) rfl ?_
   refine TL.nil ?_
   obtain rfl := Option.some.inj q8
   exact ⟨m6, Nat.lt_succ_self _, _, Gst.only [2, 3, 7, 8, 9] rfl, y16, (w64 (s4.1 + 1), t15), rfl, i9⟩
 refine T.block ?_
 obtain ⟨n19, n24⟩ := loop_some ht15
 refine T.loop (fun n S' => ∃ S'', Gst S' S'' ∧ ∃ y17 : Value, ∃ s18 : Int × (List Int), S'' = ⟨[(9, .val (.int .i64 s4.1)), (8, .val (.int .i64 (a0.length : Int))), (7, .sl 2 (List.map e_ref03_Span a0)), (6, .val (.int .i64 s18.1)), (5, .val (.pointer (some ⟨(blk p14), 0, none⟩))), (3, .val y17), (2, .val (.slice none 0 0))], [.row y17 (List.map (eI .i64) s18.2) 1 3, .var (blk p14) [.val (.int .i64 x13.fAt), .val (.int .i64 x13.fN)] 98], 28⟩ ∧ iter (ref04_Of.l1 x13) n s18 = some t15) n19 ?_ ?_
 · exact ⟨_, Gst.only [2, 3, 5, 6, 7, 8, 9] rfl, y3, (0, s4.2), rfl, n24⟩
 rintro n19 _ ⟨_, g, y17, s18, rfl, i23⟩
 refine T.ghost g ?_
 obtain ⟨m20, q21, rfl, q22, i23⟩ := iter_succ i23
 unfold ref04_Of.l1 at q22
 refine T.seq ?_
 refine T.seq ?_
 refine T.region ?_
 refine TL.op1 (OpR.pure rfl) rfl ?_
 refine TL.op1 (OpR.pure rfl) rfl ?_
 refine TL.op1 (OpR.loadPtr 1 rfl rfl rfl rfl) rfl ?_
 refine TL.op1 (OpR.pure rfl) rfl ?_
 refine TL.nil ?_
 show T X _ _ _
 rcases ite_some q22 with ⟨c26, q22⟩ | ⟨c26, q22⟩
 rotate_left
 · refine T.condF rfl (decide_eq_false c26) ?_
   refine T.exit ?_
   obtain rfl := Option.some.inj q22
   obtain rfl : _ = _ := i23
   exact ⟨_, Gst.trans (Gst.only [2, 3, 7, 8, 9] rfl) (Gst.pick [0] rfl rfl), y17, rfl⟩
 refine T.condT rfl (decide_eq_true c26) ?_
 refine T.skip ?_
 show T X _ _ _
 refine T.seq ?_
 refine T.block ?_
 refine T.region ?_
 refine TL.op1 (OpR.pure rfl) rfl ?_
 refine TL.op1 (OpR.pure rfl) rfl ?_
 refine TL.op1 (OpR.loadPtr 1 rfl rfl rfl rfl) rfl ?_
 refine TL.op1 (OpR.pure rfl) rfl ?_
 refine TL.op1 (OpR.pure rfl) rfl ?_
 refine TL.op1 (OpR.lit rfl rfl rfl rfl rfl rfl rfl) rfl ?_
 obtain ⟨x27, hx27, q22⟩ := bnd_some q22
 refine TL.op (OpR.appendM (m := [w64 (x13.fAt + s18.1)]) (eI .i64) 0 hx27 rfl rfl rfl rfl rfl rfl rfl rfl rfl (fun _ => rfl)) rfl (fun v28 => ?_)
 refine TL.op1 (OpR.pure rfl) rfl ?_
 refine TL.nil ?_
 show T X _ _ _
 refine T.region ?_
 refine TL.op1 (OpR.pure rfl) rfl ?_
 refine TL.op1 (OpR.pure rfl) rfl ?_
 refine TL.op1 (OpR.pure rfl) rfl ?_
 refine TL.nil ?_
 obtain rfl := Option.some.inj q22
 exact ⟨m20, Nat.lt_succ_self _, _, Gst.only [2, 3, 5, 6, 7, 8, 9] rfl, v28, (w64 (s18.1 + 1), x27), rfl, i23⟩
noncomputable def law04_within.l1 (t2 : (List UInt8)) (x7 : (List arena_Span) × (List ref03_Span)) (s11 : Int × (List arena_Span)) : Option (Lp (Int × (List arena_Span)) (List arena_Span)) :=
  if s11.1 < (x7.1.length : Int) then
    bnd (idx x7.1 s11.1) fun x20 =>
    bnd (if x20.fAt ≤ (t2.length : Int) then
      some (decide (x20.fN ≤ (w64 ((t2.length : Int) - x20.fAt))))
    else
      some false : Option Bool) fun t22 =>
    bnd (if t22 = true then
      bnd (app 16 s11.2 [x20]) fun x27 =>
      some x27
    else
      some s11.2 : Option (List arena_Span)) fun t24 =>
    some (Lp.next (w64 (s11.1 + 1), t24))
  else
    some (Lp.done s11.2)
noncomputable def law04_within.l2 (t2 : (List UInt8)) (x34 : (List arena_Span) × (List ref03_Span)) (s38 : Int × (List arena_Span)) : Option (Lp (Int × (List arena_Span)) (List arena_Span)) :=
  if s38.1 < (x34.1.length : Int) then
    bnd (idx x34.1 s38.1) fun x47 =>
    bnd (if x47.fAt ≤ (t2.length : Int) then
      some (decide (x47.fN ≤ (w64 ((t2.length : Int) - x47.fAt))))
    else
      some false : Option Bool) fun t49 =>
    bnd (if t49 = true then
      bnd (app 16 s38.2 [x47]) fun x54 =>
      some x54
    else
      some s38.2 : Option (List arena_Span)) fun t51 =>
    some (Lp.next (w64 (s38.1 + 1), t51))
  else
    some (Lp.done s38.2)
noncomputable def law04_within (a0 : List UInt8) (a1 : List arena_Span) : Option ((piece_Text × (List Int)) ⊕ (piece_Text × (List Int) × (List UInt8))) :=
  bnd (if (a0.length : Int) > 200 then
    bnd (cut a0 0 200) fun x4 =>
    some x4
  else
    some a0 : Option (List UInt8)) fun t2 =>
  bnd (arena_New t2) fun x5 =>
  match x5 with
  | .inl x5 =>
      bnd (law04_Few a1) fun x7 =>
      bnd (loop (law04_within.l1 t2 x7) (0, []) : Option (List arena_Span)) fun t8 =>
      bnd (piece_Of t8) fun x29 =>
      bnd (law04_Few t8) fun x31 =>
      bnd (ref04_Of x31.2) fun x33 =>
      some (Sum.inl (x29, x33))
  | .inr x5 =>
      bnd (law04_Few a1) fun x34 =>
      bnd (loop (law04_within.l2 t2 x34) (0, []) : Option (List arena_Span)) fun t35 =>
      bnd (piece_Of t35) fun x56 =>
      bnd (law04_Few t35) fun x58 =>
      bnd (ref04_Of x58.2) fun x60 =>
      some (Sum.inr (x56, x60, x5.2))
set_option maxHeartbeats 4000000 in
theorem law04_within_c {a0 : List UInt8} {a1 : List arena_Span} {res : (piece_Text × (List Int)) ⊕ (piece_Text × (List Int) × (List UInt8))} (h0 : law04_within a0 a1 = some res) : CallF X 31 [.val (.string (bs a0)), .sl 2 (List.map e_arena_Span a1)] [] (fun x => (match res with | .inl res => .tup [.val (.pointer none), .agg [.sl 2 (List.map e_arena_Span res.1.fL), .val (.int .i64 res.1.fN)], .sl 1 (List.map (eI .i64) res.2)] | .inr res => .tup [.val (.pointer (some ⟨(blk (vn x 0)), 0, none⟩)), .agg [.sl 2 (List.map e_arena_Span res.1.fL), .val (.int .i64 res.1.fN)], .sl 1 (List.map (eI .i64) res.2.1)])) (fun x => (match res with | .inl res => [] | .inr res => [.var (blk (vn x 0)) [.val (vn x 1)] 127, .row (vn x 1) (List.map byteD res.2.2) 1 5])) := by
 unfold law04_within at h0
 refine CallF.mkG (X := X) Try.func31 rfl rfl Try.ntmps31 rfl rfl ?_
 refine T.seq ?_
 refine T.region ?_
 refine TL.op1 (OpR.pure rfl) rfl ?_
 refine TL.op (OpR.alloc rfl rfl (fun _ => rfl)) rfl (fun p1 => ?_)
 refine TL.op1 (OpR.pure rfl) rfl ?_
 refine TL.nil ?_
 show T X _ _ _
 refine T.seq ?_
 refine T.seq ?_
 refine T.region ?_
 refine TL.op1 (OpR.pure rfl) rfl ?_
 refine TL.op1 (OpR.cast (OpR.pure rfl) (intE (lenS _))) rfl ?_
 refine TL.op1 (OpR.pure rfl) rfl ?_
 refine TL.nil ?_
 show T X _ _ _
 obtain ⟨t2, ht2, h0⟩ := bnd_some h0
 refine T.cutC (fun S' => S' = ⟨[(6, .val (.slice none 0 0)), (5, .val (.pointer (some ⟨(blk p1), 0, none⟩))), (4, .val (.pointer none)), (1, .sl 2 (List.map e_arena_Span a1)), (0, .val (.string (bs t2)))], [.var (blk p1) [.val (.slice none 0 0), .val (.int .i64 0)] 59], 70⟩) (fun _ h => h) ?_ ?_
 · rcases ite_some ht2 with ⟨c3, ht2⟩ | ⟨c3, ht2⟩
   rotate_left
   · refine T.condF rfl (decide_eq_false c3) ?_
     refine T.skip ?_
     obtain rfl := Option.some.inj ht2
     exact ⟨_, Gst.only [0, 1, 4, 5, 6] rfl, rfl⟩
   refine T.condT rfl (decide_eq_true c3) ?_
   refine T.region ?_
   refine TL.op1 (OpR.pure rfl) rfl ?_
   obtain ⟨x4, hx4, ht2⟩ := bnd_some ht2
   refine TL.op1 (OpR.sliceS hx4 rfl rfl rfl BdM.none (BdM.some rfl)) rfl ?_
   refine TL.op1 (OpR.pure rfl) rfl ?_
   refine TL.nil ?_
   obtain rfl := Option.some.inj ht2
   exact ⟨_, Gst.only [0, 1, 4, 5, 6] rfl, rfl⟩
 rintro _ rfl
 show T X _ _ _
 refine T.seq ?_
 refine T.region ?_
 refine TL.op1 (OpR.pure rfl) rfl ?_
 refine TL.op1 (OpR.toBytesM rfl rfl rfl rfl rfl rfl rfl) rfl ?_
 obtain ⟨x5, hx5, h0⟩ := bnd_some h0
 rcases x5 with x5 | x5
 · dsimp only at h0
   refine TL.op1 (OpR.call0 fn43 (arena_New_cx1 hx5) rfl) rfl ?_
   refine TL.op1 (OpR.pure rfl) rfl ?_
   refine TL.op1 (OpR.pure rfl) rfl ?_
   refine TL.op1 (OpR.pure rfl) rfl ?_
   refine TL.op1 (OpR.pure rfl) rfl ?_
   refine TL.op1 (OpR.pure rfl) rfl ?_
   refine TL.nil ?_
   show T X _ _ _
   refine T.seq ?_
   refine T.region ?_
   refine TL.op1 (OpR.pure rfl) rfl ?_
   refine TL.nil ?_
   show T X _ _ _
   refine T.seq ?_
   refine T.region ?_
   refine TL.op1 (OpR.pure rfl) rfl ?_
   obtain ⟨x7, hx7, h0⟩ := bnd_some h0
   refine TL.op1 (OpR.call0 fn65 (law04_Few_c hx7) rfl) rfl ?_
   refine TL.op1 (OpR.pure rfl) rfl ?_
   refine TL.op1 (OpR.pure rfl) rfl ?_
   refine TL.op1 (OpR.pure rfl) rfl ?_
   refine TL.op1 (OpR.pure rfl) rfl ?_
   refine TL.op1 (OpR.pure rfl) rfl ?_
   refine TL.nil ?_
   show T X _ _ _
   refine T.seq ?_
   refine T.seq ?_
   refine T.region ?_
   refine TL.op1 (OpR.pure rfl) rfl ?_
   refine TL.op1 (OpR.cast (OpR.pure rfl) (intE (lenM _ _))) rfl ?_
   refine TL.op1 (OpR.pure rfl) rfl ?_
   refine TL.nil ?_
   show T X _ _ _
   obtain ⟨t8, ht8, h0⟩ := bnd_some h0
   refine T.cutC (fun S' => ∃ y9 : Value, S' = ⟨[(9, .val y9), (7, .val (.pointer none)), (6, .val (.slice none 0 0)), (5, .val (.pointer (some ⟨(blk p1), 0, none⟩))), (4, .val (.pointer none))], [.var (blk p1) [.val (.slice none 0 0), .val (.int .i64 0)] 59, .row y9 (List.map e_arena_Span t8) 2 50], 70⟩) (fun _ h => h) ?_ ?_
   rotate_left
   · rintro _ ⟨y9, rfl⟩
     show T X _ _ _
     refine T.seq ?_
     refine T.region ?_
     refine TL.op1 (OpR.pure rfl) rfl ?_
     obtain ⟨x29, hx29, h0⟩ := bnd_some h0
     refine TL.op1 (OpR.call [1] fn57 (piece_Of_c hx29) rfl rfl rfl (fun _ => rfl)) rfl ?_
     refine TL.op (OpR.alloc rfl rfl (fun _ => rfl)) rfl (fun p30 => ?_)
     refine TL.op0 (OpR.store 2 rfl rfl rfl rfl rfl rfl rfl rfl) ?_
     refine TL.nil ?_
     show T X _ _ _
     refine T.seq ?_
     refine T.region ?_
     refine TL.op1 (OpR.pure rfl) rfl ?_
     obtain ⟨x31, hx31, h0⟩ := bnd_some h0
     refine TL.op1 (OpR.call [1] fn65 (law04_Few_c_2 hx31) rfl rfl rfl (fun _ => rfl)) rfl ?_
     refine TL.op1 (OpR.pure rfl) rfl ?_
     refine TL.op1 (OpR.pure rfl) rfl ?_
     refine TL.op1 (OpR.pure rfl) rfl ?_
     refine TL.op1 (OpR.pure rfl) rfl ?_
     refine TL.op1 (OpR.pure rfl) rfl ?_
     refine TL.nil ?_
     show T X _ _ _
     refine T.seq ?_
     obtain ⟨x33, hx33, h0⟩ := bnd_some h0
     refine T.drawS drawsX (fun env32 => [.val (.pointer none), .agg [.sl 2 (List.map e_arena_Span x29.fL), .val (.int .i64 x29.fN)], .sl 2 (List.map e_ref03_Span x31.2), .sl 1 (List.map (eI .i64) x33), .val (.pointer none), .dead, .sl 1 (List.map (eI .i64) x33)]) (fun D env32 => [(bif D 5 then .var (blk p1) [.sl 2 (List.map e_arena_Span x29.fL), .val (.int .i64 x29.fN)] 59 else .var (blk p1) [.val (.slice none 0 0), .val (.int .i64 0)] 59), .row y9 (List.map e_arena_Span t8) 2 50, .var (blk p30) [.sl 2 (List.map e_arena_Span x29.fL), .val (.int .i64 x29.fN)] 59]) [0, 0, 0, 4, 13, 31, 63] [4, 5, 6, 7, 9, 14, 15, 16, 59, 60, 61, 62, 63, 64, 65, 66, 67, 68, 69] (fun env32 => [.var (blk p1) [.sl 2 (List.map e_arena_Span x29.fL), .val (.int .i64 x29.fN)] 59, .row y9 (List.map e_arena_Span t8) 2 50, .var (blk p30) [.sl 2 (List.map e_arena_Span x29.fL), .val (.int .i64 x29.fN)] 59]) (by decide +kernel) (by decide +kernel) (fun _ => rfl) (fun _ => rfl) ?_ (fun _ => rfl) (fun _ => rfl) ?_
     rotate_left
     · intro env32
       show T X _ _ _
       refine T.ret ?_
       obtain rfl := Option.some.inj h0
       exact PostG.retP (ks := []) (Gst.trans (Gst.only [4, 5, 6] rfl) (Gst.pick [0] rfl rfl)) undef (ResL.cons (ResV.tmp rfl) (ResL.cons (ResV.var 0 rfl rfl rfl rfl) (ResL.cons (ResV.tmp rfl) ResL.nil))) rfl rfl rfl rfl
     refine oS (d := .val (.pointer none)) (fun _ => Want.plain rfl) (fun _ => rfl) (fun _ _ _ => rfl) (fun _ _ => OpR.pure rfl) (fun _ _ _ _ _ _ _ => rfl) ?_
     refine oS (d := .agg [.sl 2 (List.map e_arena_Span x29.fL), .val (.int .i64 x29.fN)]) (fun _ => Want.plain rfl) (fun _ => rfl) (fun _ _ _ => rfl) (fun _ _ => OpR.loadPtr 2 rfl rfl rfl rfl) (fun _ _ _ _ _ _ _ => rfl) ?_
     refine oS (d := .sl 2 (List.map e_ref03_Span x31.2)) (fun _ => Want.plain rfl) (fun _ => rfl) (fun _ _ _ => rfl) (fun _ _ => OpR.pure rfl) (fun _ _ _ _ _ _ _ => rfl) ?_
     refine oS (d := .sl 1 (List.map (eI .i64) x33)) (fun _ => Want.plain rfl) (fun _ => rfl) (fun _ _ _ => rfl) (fun _ _ => OpR.call0 fn66 (ref04_Of_c hx33) rfl) (fun _ _ _ _ _ _ _ => rfl) ?_
     refine oS (d := .val (.pointer none)) (fun _ => Want.plain rfl) (fun _ => rfl) (fun _ _ _ => rfl) (fun _ _ => OpR.pure rfl) (fun _ _ _ _ _ _ _ => rfl) ?_
     refine OpsS.cons' true ?_ (fun _ _ _ _ _ _ _ => rfl) ?_
     · intro D env32 hA
       exact OpS.yes (o0 := [.var (blk p1) [.val (.slice none 0 0), .val (.int .i64 0)] 59, .row y9 (List.map e_arena_Span t8) 2 50, .var (blk p30) [.sl 2 (List.map e_arena_Span x29.fL), .val (.int .i64 x29.fN)] 59]) (o1 := fun x => [.var (blk p1) [.sl 2 (List.map e_arena_Span x29.fL), .val (.int .i64 x29.fN)] 59, .row y9 (List.map e_arena_Span t8) 2 50, .var (blk p30) [.sl 2 (List.map e_arena_Span x29.fL), .val (.int .i64 x29.fN)] 59]) (d := fun x => .dead) (Want.plain rfl) (by first | rfl | simp only [hA.me, cond_true, cond_false, List.cons_append, List.nil_append, List.append_nil]) (fun x => by first | rfl | simp only [ins_self, upd_self, hA.me, cond_true, cond_false, List.cons_append, List.nil_append, List.append_nil]) (fun x => rfl) (OpR.store 0 rfl rfl rfl rfl rfl rfl rfl rfl)
     refine oS (d := .sl 1 (List.map (eI .i64) x33)) (fun _ => Want.plain rfl) (fun _ => rfl) (fun _ _ _ => rfl) (fun _ _ => OpR.pure rfl) (fun _ _ _ _ _ _ _ => rfl) ?_
     exact trivial
   refine T.block ?_
   obtain ⟨n12, n17⟩ := loop_some ht8
   refine T.loop (fun n S' => ∃ S'', Gst S' S'' ∧ ∃ y10 : Value, ∃ s11 : Int × (List arena_Span), S'' = ⟨[(35, .val (.int .i64 s11.1)), (34, .val (.int .i64 (x7.1.length : Int))), (33, .sl 2 (List.map e_arena_Span x7.1)), (9, .val y10), (7, .val (.pointer none)), (6, .val (.slice none 0 0)), (5, .val (.pointer (some ⟨(blk p1), 0, none⟩))), (4, .val (.pointer none)), (0, .val (.string (bs t2)))], [.var (blk p1) [.val (.slice none 0 0), .val (.int .i64 0)] 59, .row y10 (List.map e_arena_Span s11.2) 2 50], 70⟩ ∧ iter (law04_within.l1 t2 x7) n s11 = some t8) n12 ?_ ?_
   · exact ⟨_, Gst.trans (Gst.only [0, 4, 5, 6, 7, 9, 33, 34, 35] rfl) (Gst.nilRow (ow := [.var (blk p1) [.val (.slice none 0 0), .val (.int .i64 0)] 59]) 2 50 rfl), (.slice none 0 0), (0, []), rfl, n17⟩
   rintro n12 _ ⟨_, g, y10, s11, rfl, i16⟩
   refine T.ghost g ?_
   obtain ⟨m13, q14, rfl, q15, i16⟩ := iter_succ i16
   unfold law04_within.l1 at q15
   refine T.seq ?_
   refine T.region ?_
   refine TL.op1 (OpR.pure rfl) rfl ?_
   refine TL.nil ?_
   show T X _ _ _
   refine T.seq ?_
   rcases ite_some q15 with ⟨c19, q15⟩ | ⟨c19, q15⟩
   rotate_left
   · refine T.condF rfl (decide_eq_false c19) ?_
     refine T.exit ?_
     obtain rfl := Option.some.inj q15
     obtain rfl : _ = _ := i16
     exact ⟨_, Gst.only [4, 5, 6, 7, 9] rfl, y10, rfl⟩
   refine T.condT rfl (decide_eq_true c19) ?_
   refine T.skip ?_
   show T X _ _ _
   refine T.seq ?_
   refine T.block ?_
   refine T.seq ?_
   refine T.region ?_
   obtain ⟨x20, hx20, q15⟩ := bnd_some q15
   refine TL.op1 (OpR.indexM e_arena_Span hx20 rfl rfl rfl rfl rfl) rfl ?_
   refine TL.op1 (OpR.pure rfl) rfl ?_
   refine TL.op (OpR.alloc rfl rfl (fun _ => rfl)) rfl (fun p21 => ?_)
   refine TL.op0 (OpR.store 2 rfl rfl rfl rfl rfl rfl rfl rfl) ?_
   refine TL.nil ?_
   show T X _ _ _
   refine T.seq ?_
   obtain ⟨t22, ht22, q15⟩ := bnd_some q15
   refine T.cutC (fun S' => S' = ⟨[(53, .val (.bool t22)), (35, .val (.int .i64 s11.1)), (34, .val (.int .i64 (x7.1.length : Int))), (33, .sl 2 (List.map e_arena_Span x7.1)), (13, .val (.pointer (some ⟨(blk p21), 0, none⟩))), (9, .val y10), (7, .val (.pointer none)), (6, .val (.slice none 0 0)), (5, .val (.pointer (some ⟨(blk p1), 0, none⟩))), (4, .val (.pointer none)), (0, .val (.string (bs t2)))], [.var (blk p1) [.val (.slice none 0 0), .val (.int .i64 0)] 59, .row y10 (List.map e_arena_Span s11.2) 2 50, .var (blk p21) [.val (.int .i64 x20.fAt), .val (.int .i64 x20.fN)] 50], 70⟩) (fun _ h => h) ?_ ?_
   rotate_left
   · rintro _ rfl
     show T X _ _ _
     obtain ⟨t24, ht24, q15⟩ := bnd_some q15
     refine T.cutC (fun S' => ∃ y25 : Value, S' = ⟨[(35, .val (.int .i64 s11.1)), (34, .val (.int .i64 (x7.1.length : Int))), (33, .sl 2 (List.map e_arena_Span x7.1)), (9, .val y25), (7, .val (.pointer none)), (6, .val (.slice none 0 0)), (5, .val (.pointer (some ⟨(blk p1), 0, none⟩))), (4, .val (.pointer none)), (0, .val (.string (bs t2)))], [.var (blk p1) [.val (.slice none 0 0), .val (.int .i64 0)] 59, .row y25 (List.map e_arena_Span t24) 2 50], 70⟩) (fun _ h => h) ?_ ?_
     rotate_left
     · rintro _ ⟨y25, rfl⟩
       show T X _ _ _
       refine T.region ?_
       refine TL.op1 (OpR.pure rfl) rfl ?_
       refine TL.op1 (OpR.pure rfl) rfl ?_
       refine TL.nil ?_
       obtain rfl := Option.some.inj q15
       exact ⟨m13, Nat.lt_succ_self _, _, Gst.only [0, 4, 5, 6, 7, 9, 33, 34, 35] rfl, y25, (w64 (s11.1 + 1), t24), rfl, i16⟩
     rcases ite_some ht24 with ⟨c26, ht24⟩ | ⟨c26, ht24⟩
     rotate_left
     · refine T.condF rfl (eq_false_of_ne_true c26) ?_
       refine T.skip ?_
       obtain rfl := Option.some.inj ht24
       exact ⟨_, Gst.trans (Gst.only [0, 4, 5, 6, 7, 9, 33, 34, 35] rfl) (Gst.pick [0, 1] rfl rfl), y10, rfl⟩
     refine T.condT rfl (c26) ?_
     refine T.region ?_
     refine TL.op1 (OpR.pure rfl) rfl ?_
     refine TL.op1 (OpR.loadPtr 2 rfl rfl rfl rfl) rfl ?_
     refine TL.op1 (OpR.lit rfl rfl rfl rfl rfl rfl rfl) rfl ?_
     obtain ⟨x27, hx27, ht24⟩ := bnd_some ht24
     refine TL.op (OpR.appendM (m := [x20]) e_arena_Span 1 hx27 rfl rfl rfl rfl rfl rfl rfl rfl rfl (fun _ => rfl)) rfl (fun v28 => ?_)
     refine TL.op1 (OpR.pure rfl) rfl ?_
     refine TL.nil ?_
     obtain rfl := Option.some.inj ht24
     exact ⟨_, Gst.trans (Gst.only [0, 4, 5, 6, 7, 9, 33, 34, 35] rfl) (Gst.pick [0, 1] rfl rfl), v28, rfl⟩
   refine T.region ?_
   refine TL.op1 (OpR.pure rfl) rfl ?_
   refine TL.op1 (OpR.loadPtr 2 rfl rfl rfl rfl) rfl ?_
   refine TL.op1 (OpR.pure rfl) rfl ?_
   refine TL.op1 (OpR.cast (OpR.pure rfl) (intE (lenS _))) rfl ?_
   refine TL.op1 (OpR.pure rfl) rfl ?_
   refine TL.op1 (OpR.pure rfl) rfl ?_
   rcases ite_some ht22 with ⟨c23, ht22⟩ | ⟨c23, ht22⟩
   rotate_left
   · refine TL.off rfl rfl rfl rfl (decide_eq_false c23) rfl rfl ?_
     refine TL.off rfl rfl rfl rfl (decide_eq_false c23) rfl rfl ?_
     refine TL.off rfl rfl rfl rfl (decide_eq_false c23) rfl rfl ?_
     refine TL.off rfl rfl rfl rfl (decide_eq_false c23) rfl rfl ?_
     refine TL.off rfl rfl rfl rfl (decide_eq_false c23) rfl rfl ?_
     refine TL.off rfl rfl rfl rfl (decide_eq_false c23) rfl rfl ?_
     refine TL.off rfl rfl rfl rfl (decide_eq_false c23) rfl rfl ?_
     refine TL.off rfl rfl rfl rfl (decide_eq_false c23) rfl rfl ?_
     refine TL.op1 (OpR.pickF rfl (decide_eq_false c23) rfl) rfl ?_
     refine TL.nil ?_
     obtain rfl := Option.some.inj ht22
     exact ⟨_, Gst.only [0, 4, 5, 6, 7, 9, 13, 33, 34, 35, 53] rfl, rfl⟩
   refine TL.on rfl rfl rfl rfl (decide_eq_true c23) ?_
   refine TL.op1 (OpR.pure rfl) rfl ?_
   refine TL.on rfl rfl rfl rfl (decide_eq_true c23) ?_
   refine TL.op1 (OpR.loadPtr 2 rfl rfl rfl rfl) rfl ?_
   refine TL.on rfl rfl rfl rfl (decide_eq_true c23) ?_
   refine TL.op1 (OpR.pure rfl) rfl ?_
   refine TL.on rfl rfl rfl rfl (decide_eq_true c23) ?_
   refine TL.op1 (OpR.cast (OpR.pure rfl) (intE (lenS _))) rfl ?_
   refine TL.on rfl rfl rfl rfl (decide_eq_true c23) ?_
   refine TL.op1 (OpR.pure rfl) rfl ?_
   refine TL.on rfl rfl rfl rfl (decide_eq_true c23) ?_
   refine TL.op1 (OpR.loadPtr 2 rfl rfl rfl rfl) rfl ?_
   refine TL.on rfl rfl rfl rfl (decide_eq_true c23) ?_
   refine TL.op1 (OpR.pure rfl) rfl ?_
   refine TL.on rfl rfl rfl rfl (decide_eq_true c23) ?_
   refine TL.op1 (OpR.pure rfl) rfl ?_
   refine TL.op1 (OpR.pickT rfl (decide_eq_true c23) rfl) rfl ?_
   refine TL.nil ?_
   obtain rfl := Option.some.inj ht22
   exact ⟨_, Gst.only [0, 4, 5, 6, 7, 9, 13, 33, 34, 35, 53] rfl, rfl⟩
 dsimp only at h0
 refine TL.op (OpR.call [] fn43 (arena_New_cx2 hx5) rfl rfl rfl (fun _ => rfl)) rfl (fun w6 => ?_)
 refine TL.op1 (OpR.pure rfl) rfl ?_
 refine TL.op1 (OpR.pure rfl) rfl ?_
 refine TL.op1 (OpR.pure rfl) rfl ?_
 refine TL.op1 (OpR.pure rfl) rfl ?_
 refine TL.op1 (OpR.pure rfl) rfl ?_
 refine TL.nil ?_
 show T X _ _ _
 refine T.seq ?_
 refine T.region ?_
 refine TL.op1 (OpR.pure rfl) rfl ?_
 refine TL.nil ?_
 show T X _ _ _
 refine T.seq ?_
 refine T.region ?_
 refine TL.op1 (OpR.pure rfl) rfl ?_
 obtain ⟨x34, hx34, h0⟩ := bnd_some h0
 refine TL.op1 (OpR.call0 fn65 (law04_Few_c hx34) rfl) rfl ?_
 refine TL.op1 (OpR.pure rfl) rfl ?_
 refine TL.op1 (OpR.pure rfl) rfl ?_
 refine TL.op1 (OpR.pure rfl) rfl ?_
 refine TL.op1 (OpR.pure rfl) rfl ?_
 refine TL.op1 (OpR.pure rfl) rfl ?_
 refine TL.nil ?_
 show T X _ _ _
 refine T.seq ?_
 refine T.seq ?_
 refine T.region ?_
 refine TL.op1 (OpR.pure rfl) rfl ?_
 refine TL.op1 (OpR.cast (OpR.pure rfl) (intE (lenM _ _))) rfl ?_
 refine TL.op1 (OpR.pure rfl) rfl ?_
 refine TL.nil ?_
 show T X _ _ _
 obtain ⟨t35, ht35, h0⟩ := bnd_some h0
 refine T.cutC (fun S' => ∃ y36 : Value, S' = ⟨[(9, .val y36), (7, .val (.pointer (some ⟨(blk (vn w6 0)), 0, none⟩))), (6, .val (.slice none 0 0)), (5, .val (.pointer (some ⟨(blk p1), 0, none⟩))), (4, .val (.pointer none))], [.var (blk p1) [.val (.slice none 0 0), .val (.int .i64 0)] 59, .var (blk (vn w6 0)) [.val (vn w6 1)] 127, .row y36 (List.map e_arena_Span t35) 2 50, .row (vn w6 1) (List.map byteD x5.2) 1 5], 70⟩) (fun _ h => h) ?_ ?_
 rotate_left
 · rintro _ ⟨y36, rfl⟩
   show T X _ _ _
   refine T.seq ?_
   refine T.region ?_
   refine TL.op1 (OpR.pure rfl) rfl ?_
   obtain ⟨x56, hx56, h0⟩ := bnd_some h0
   refine TL.op1 (OpR.call [2] fn57 (piece_Of_c hx56) rfl rfl rfl (fun _ => rfl)) rfl ?_
   refine TL.op (OpR.alloc rfl rfl (fun _ => rfl)) rfl (fun p57 => ?_)
   refine TL.op0 (OpR.store 4 rfl rfl rfl rfl rfl rfl rfl rfl) ?_
   refine TL.nil ?_
   show T X _ _ _
   refine T.seq ?_
   refine T.region ?_
   refine TL.op1 (OpR.pure rfl) rfl ?_
   obtain ⟨x58, hx58, h0⟩ := bnd_some h0
   refine TL.op1 (OpR.call [2] fn65 (law04_Few_c_2 hx58) rfl rfl rfl (fun _ => rfl)) rfl ?_
   refine TL.op1 (OpR.pure rfl) rfl ?_
   refine TL.op1 (OpR.pure rfl) rfl ?_
   refine TL.op1 (OpR.pure rfl) rfl ?_
   refine TL.op1 (OpR.pure rfl) rfl ?_
   refine TL.op1 (OpR.pure rfl) rfl ?_
   refine TL.nil ?_
   show T X _ _ _
   refine T.seq ?_
   obtain ⟨x60, hx60, h0⟩ := bnd_some h0
   refine T.drawS drawsX (fun env59 => [.val (.pointer (some ⟨(blk (vn w6 0)), 0, none⟩)), .agg [.sl 2 (List.map e_arena_Span x56.fL), .val (.int .i64 x56.fN)], .sl 2 (List.map e_ref03_Span x58.2), .sl 1 (List.map (eI .i64) x60), .val (.pointer (some ⟨(blk (vn w6 0)), 0, none⟩)), .dead, .sl 1 (List.map (eI .i64) x60)]) (fun D env59 => [(bif D 5 then .var (blk p1) [.sl 2 (List.map e_arena_Span x56.fL), .val (.int .i64 x56.fN)] 59 else .var (blk p1) [.val (.slice none 0 0), .val (.int .i64 0)] 59), .var (blk (vn w6 0)) [.val (vn w6 1)] 127, .row y36 (List.map e_arena_Span t35) 2 50, .row (vn w6 1) (List.map byteD x5.2) 1 5, .var (blk p57) [.sl 2 (List.map e_arena_Span x56.fL), .val (.int .i64 x56.fN)] 59]) [0, 0, 0, 4, 13, 31, 63] [4, 5, 6, 7, 9, 14, 15, 16, 59, 60, 61, 62, 63, 64, 65, 66, 67, 68, 69] (fun env59 => [.var (blk p1) [.sl 2 (List.map e_arena_Span x56.fL), .val (.int .i64 x56.fN)] 59, .var (blk (vn w6 0)) [.val (vn w6 1)] 127, .row y36 (List.map e_arena_Span t35) 2 50, .row (vn w6 1) (List.map byteD x5.2) 1 5, .var (blk p57) [.sl 2 (List.map e_arena_Span x56.fL), .val (.int .i64 x56.fN)] 59]) (by decide +kernel) (by decide +kernel) (fun _ => rfl) (fun _ => rfl) ?_ (fun _ => rfl) (fun _ => rfl) ?_
   rotate_left
   · intro env59
     show T X _ _ _
     refine T.ret ?_
     obtain rfl := Option.some.inj h0
     exact PostG.retP (ks := [0, 2]) (Gst.trans (Gst.only [4, 5, 6] rfl) (Gst.pick [1, 0, 3] rfl rfl)) (.tuple #[(vn w6 0), (vn w6 1)]) (ResL.cons (ResV.tmp rfl) (ResL.cons (ResV.var 1 rfl rfl rfl rfl) (ResL.cons (ResV.tmp rfl) ResL.nil))) rfl rfl rfl rfl
   refine oS (d := .val (.pointer (some ⟨(blk (vn w6 0)), 0, none⟩))) (fun _ => Want.plain rfl) (fun _ => rfl) (fun _ _ _ => rfl) (fun _ _ => OpR.pure rfl) (fun _ _ _ _ _ _ _ => rfl) ?_
   refine oS (d := .agg [.sl 2 (List.map e_arena_Span x56.fL), .val (.int .i64 x56.fN)]) (fun _ => Want.plain rfl) (fun _ => rfl) (fun _ _ _ => rfl) (fun _ _ => OpR.loadPtr 4 rfl rfl rfl rfl) (fun _ _ _ _ _ _ _ => rfl) ?_
   refine oS (d := .sl 2 (List.map e_ref03_Span x58.2)) (fun _ => Want.plain rfl) (fun _ => rfl) (fun _ _ _ => rfl) (fun _ _ => OpR.pure rfl) (fun _ _ _ _ _ _ _ => rfl) ?_
   refine oS (d := .sl 1 (List.map (eI .i64) x60)) (fun _ => Want.plain rfl) (fun _ => rfl) (fun _ _ _ => rfl) (fun _ _ => OpR.call0 fn66 (ref04_Of_c hx60) rfl) (fun _ _ _ _ _ _ _ => rfl) ?_
   refine oS (d := .val (.pointer (some ⟨(blk (vn w6 0)), 0, none⟩))) (fun _ => Want.plain rfl) (fun _ => rfl) (fun _ _ _ => rfl) (fun _ _ => OpR.pure rfl) (fun _ _ _ _ _ _ _ => rfl) ?_
   refine OpsS.cons' true ?_ (fun _ _ _ _ _ _ _ => rfl) ?_
   · intro D env59 hA
     exact OpS.yes (o0 := [.var (blk p1) [.val (.slice none 0 0), .val (.int .i64 0)] 59, .var (blk (vn w6 0)) [.val (vn w6 1)] 127, .row y36 (List.map e_arena_Span t35) 2 50, .row (vn w6 1) (List.map byteD x5.2) 1 5, .var (blk p57) [.sl 2 (List.map e_arena_Span x56.fL), .val (.int .i64 x56.fN)] 59]) (o1 := fun x => [.var (blk p1) [.sl 2 (List.map e_arena_Span x56.fL), .val (.int .i64 x56.fN)] 59, .var (blk (vn w6 0)) [.val (vn w6 1)] 127, .row y36 (List.map e_arena_Span t35) 2 50, .row (vn w6 1) (List.map byteD x5.2) 1 5, .var (blk p57) [.sl 2 (List.map e_arena_Span x56.fL), .val (.int .i64 x56.fN)] 59]) (d := fun x => .dead) (Want.plain rfl) (by first | rfl | simp only [hA.me, cond_true, cond_false, List.cons_append, List.nil_append, List.append_nil]) (fun x => by first | rfl | simp only [ins_self, upd_self, hA.me, cond_true, cond_false, List.cons_append, List.nil_append, List.append_nil]) (fun x => rfl) (OpR.store 0 rfl rfl rfl rfl rfl rfl rfl rfl)
   refine oS (d := .sl 1 (List.map (eI .i64) x60)) (fun _ => Want.plain rfl) (fun _ => rfl) (fun _ _ _ => rfl) (fun _ _ => OpR.pure rfl) (fun _ _ _ _ _ _ _ => rfl) ?_
   exact trivial
 refine T.block ?_
 obtain ⟨n39, n44⟩ := loop_some ht35
 refine T.loop (fun n S' => ∃ S'', Gst S' S'' ∧ ∃ y37 : Value, ∃ s38 : Int × (List arena_Span), S'' = ⟨[(35, .val (.int .i64 s38.1)), (34, .val (.int .i64 (x34.1.length : Int))), (33, .sl 2 (List.map e_arena_Span x34.1)), (9, .val y37), (7, .val (.pointer (some ⟨(blk (vn w6 0)), 0, none⟩))), (6, .val (.slice none 0 0)), (5, .val (.pointer (some ⟨(blk p1), 0, none⟩))), (4, .val (.pointer none)), (0, .val (.string (bs t2)))], [.var (blk p1) [.val (.slice none 0 0), .val (.int .i64 0)] 59, .var (blk (vn w6 0)) [.val (vn w6 1)] 127, .row y37 (List.map e_arena_Span s38.2) 2 50, .row (vn w6 1) (List.map byteD x5.2) 1 5], 70⟩ ∧ iter (law04_within.l2 t2 x34) n s38 = some t35) n39 ?_ ?_
 · exact ⟨_, Gst.trans (Gst.only [0, 4, 5, 6, 7, 9, 33, 34, 35] rfl) (Gst.trans (Gst.nilRow (ow := [.var (blk p1) [.val (.slice none 0 0), .val (.int .i64 0)] 59, .var (blk (vn w6 0)) [.val (vn w6 1)] 127, .row (vn w6 1) (List.map byteD x5.2) 1 5]) 2 50 rfl) (Gst.pick [0, 1, 3, 2] rfl rfl)), (.slice none 0 0), (0, []), rfl, n44⟩
 rintro n39 _ ⟨_, g, y37, s38, rfl, i43⟩
 refine T.ghost g ?_
 obtain ⟨m40, q41, rfl, q42, i43⟩ := iter_succ i43
 unfold law04_within.l2 at q42
 refine T.seq ?_
 refine T.region ?_
 refine TL.op1 (OpR.pure rfl) rfl ?_
 refine TL.nil ?_
 show T X _ _ _
 refine T.seq ?_
 rcases ite_some q42 with ⟨c46, q42⟩ | ⟨c46, q42⟩
 rotate_left
 · refine T.condF rfl (decide_eq_false c46) ?_
   refine T.exit ?_
   obtain rfl := Option.some.inj q42
   obtain rfl : _ = _ := i43
   exact ⟨_, Gst.only [4, 5, 6, 7, 9] rfl, y37, rfl⟩
 refine T.condT rfl (decide_eq_true c46) ?_
 refine T.skip ?_
 show T X _ _ _
 refine T.seq ?_
 refine T.block ?_
 refine T.seq ?_
 refine T.region ?_
 obtain ⟨x47, hx47, q42⟩ := bnd_some q42
 refine TL.op1 (OpR.indexM e_arena_Span hx47 rfl rfl rfl rfl rfl) rfl ?_
 refine TL.op1 (OpR.pure rfl) rfl ?_
 refine TL.op (OpR.alloc rfl rfl (fun _ => rfl)) rfl (fun p48 => ?_)
 refine TL.op0 (OpR.store 4 rfl rfl rfl rfl rfl rfl rfl rfl) ?_
 refine TL.nil ?_
 show T X _ _ _
 refine T.seq ?_
 obtain ⟨t49, ht49, q42⟩ := bnd_some q42
 refine T.cutC (fun S' => S' = ⟨[(53, .val (.bool t49)), (35, .val (.int .i64 s38.1)), (34, .val (.int .i64 (x34.1.length : Int))), (33, .sl 2 (List.map e_arena_Span x34.1)), (13, .val (.pointer (some ⟨(blk p48), 0, none⟩))), (9, .val y37), (7, .val (.pointer (some ⟨(blk (vn w6 0)), 0, none⟩))), (6, .val (.slice none 0 0)), (5, .val (.pointer (some ⟨(blk p1), 0, none⟩))), (4, .val (.pointer none)), (0, .val (.string (bs t2)))], [.var (blk p1) [.val (.slice none 0 0), .val (.int .i64 0)] 59, .var (blk (vn w6 0)) [.val (vn w6 1)] 127, .row y37 (List.map e_arena_Span s38.2) 2 50, .var (blk p48) [.val (.int .i64 x47.fAt), .val (.int .i64 x47.fN)] 50, .row (vn w6 1) (List.map byteD x5.2) 1 5], 70⟩) (fun _ h => h) ?_ ?_
 rotate_left
 · rintro _ rfl
   show T X _ _ _
   obtain ⟨t51, ht51, q42⟩ := bnd_some q42
   refine T.cutC (fun S' => ∃ y52 : Value, S' = ⟨[(35, .val (.int .i64 s38.1)), (34, .val (.int .i64 (x34.1.length : Int))), (33, .sl 2 (List.map e_arena_Span x34.1)), (9, .val y52), (7, .val (.pointer (some ⟨(blk (vn w6 0)), 0, none⟩))), (6, .val (.slice none 0 0)), (5, .val (.pointer (some ⟨(blk p1), 0, none⟩))), (4, .val (.pointer none)), (0, .val (.string (bs t2)))], [.var (blk p1) [.val (.slice none 0 0), .val (.int .i64 0)] 59, .var (blk (vn w6 0)) [.val (vn w6 1)] 127, .row y52 (List.map e_arena_Span t51) 2 50, .row (vn w6 1) (List.map byteD x5.2) 1 5], 70⟩) (fun _ h => h) ?_ ?_
   rotate_left
   · rintro _ ⟨y52, rfl⟩
     show T X _ _ _
     refine T.region ?_
     refine TL.op1 (OpR.pure rfl) rfl ?_
     refine TL.op1 (OpR.pure rfl) rfl ?_
     refine TL.nil ?_
     obtain rfl := Option.some.inj q42
     exact ⟨m40, Nat.lt_succ_self _, _, Gst.only [0, 4, 5, 6, 7, 9, 33, 34, 35] rfl, y52, (w64 (s38.1 + 1), t51), rfl, i43⟩
   rcases ite_some ht51 with ⟨c53, ht51⟩ | ⟨c53, ht51⟩
   rotate_left
   · refine T.condF rfl (eq_false_of_ne_true c53) ?_
     refine T.skip ?_
     obtain rfl := Option.some.inj ht51
     exact ⟨_, Gst.trans (Gst.only [0, 4, 5, 6, 7, 9, 33, 34, 35] rfl) (Gst.pick [0, 1, 2, 4] rfl rfl), y37, rfl⟩
   refine T.condT rfl (c53) ?_
   refine T.region ?_
   refine TL.op1 (OpR.pure rfl) rfl ?_
   refine TL.op1 (OpR.loadPtr 3 rfl rfl rfl rfl) rfl ?_
   refine TL.op1 (OpR.lit rfl rfl rfl rfl rfl rfl rfl) rfl ?_
   obtain ⟨x54, hx54, ht51⟩ := bnd_some ht51
   refine TL.op (OpR.appendM (m := [x47]) e_arena_Span 2 hx54 rfl rfl rfl rfl rfl rfl rfl rfl rfl (fun _ => rfl)) rfl (fun v55 => ?_)
   refine TL.op1 (OpR.pure rfl) rfl ?_
   refine TL.nil ?_
   obtain rfl := Option.some.inj ht51
   exact ⟨_, Gst.trans (Gst.only [0, 4, 5, 6, 7, 9, 33, 34, 35] rfl) (Gst.pick [0, 1, 2, 4] rfl rfl), v55, rfl⟩
 refine T.region ?_
 refine TL.op1 (OpR.pure rfl) rfl ?_
 refine TL.op1 (OpR.loadPtr 4 rfl rfl rfl rfl) rfl ?_
 refine TL.op1 (OpR.pure rfl) rfl ?_
 refine TL.op1 (OpR.cast (OpR.pure rfl) (intE (lenS _))) rfl ?_
 refine TL.op1 (OpR.pure rfl) rfl ?_
 refine TL.op1 (OpR.pure rfl) rfl ?_
 rcases ite_some ht49 with ⟨c50, ht49⟩ | ⟨c50, ht49⟩
 rotate_left
 · refine TL.off rfl rfl rfl rfl (decide_eq_false c50) rfl rfl ?_
   refine TL.off rfl rfl rfl rfl (decide_eq_false c50) rfl rfl ?_
   refine TL.off rfl rfl rfl rfl (decide_eq_false c50) rfl rfl ?_
   refine TL.off rfl rfl rfl rfl (decide_eq_false c50) rfl rfl ?_
   refine TL.off rfl rfl rfl rfl (decide_eq_false c50) rfl rfl ?_
   refine TL.off rfl rfl rfl rfl (decide_eq_false c50) rfl rfl ?_
   refine TL.off rfl rfl rfl rfl (decide_eq_false c50) rfl rfl ?_
   refine TL.off rfl rfl rfl rfl (decide_eq_false c50) rfl rfl ?_
   refine TL.op1 (OpR.pickF rfl (decide_eq_false c50) rfl) rfl ?_
   refine TL.nil ?_
   obtain rfl := Option.some.inj ht49
   exact ⟨_, Gst.trans (Gst.only [0, 4, 5, 6, 7, 9, 13, 33, 34, 35, 53] rfl) (Gst.pick [0, 1, 2, 4, 3] rfl rfl), rfl⟩
 refine TL.on rfl rfl rfl rfl (decide_eq_true c50) ?_
 refine TL.op1 (OpR.pure rfl) rfl ?_
 refine TL.on rfl rfl rfl rfl (decide_eq_true c50) ?_
 refine TL.op1 (OpR.loadPtr 4 rfl rfl rfl rfl) rfl ?_
 refine TL.on rfl rfl rfl rfl (decide_eq_true c50) ?_
 refine TL.op1 (OpR.pure rfl) rfl ?_
 refine TL.on rfl rfl rfl rfl (decide_eq_true c50) ?_
 refine TL.op1 (OpR.cast (OpR.pure rfl) (intE (lenS _))) rfl ?_
 refine TL.on rfl rfl rfl rfl (decide_eq_true c50) ?_
 refine TL.op1 (OpR.pure rfl) rfl ?_
 refine TL.on rfl rfl rfl rfl (decide_eq_true c50) ?_
 refine TL.op1 (OpR.loadPtr 4 rfl rfl rfl rfl) rfl ?_
 refine TL.on rfl rfl rfl rfl (decide_eq_true c50) ?_
 refine TL.op1 (OpR.pure rfl) rfl ?_
 refine TL.on rfl rfl rfl rfl (decide_eq_true c50) ?_
 refine TL.op1 (OpR.pure rfl) rfl ?_
 refine TL.op1 (OpR.pickT rfl (decide_eq_true c50) rfl) rfl ?_
 refine TL.nil ?_
 obtain rfl := Option.some.inj ht49
 exact ⟨_, Gst.trans (Gst.only [0, 4, 5, 6, 7, 9, 13, 33, 34, 35, 53] rfl) (Gst.pick [0, 1, 2, 4, 3] rfl rfl), rfl⟩
theorem law04_within_cx1 {a0 : List UInt8} {a1 : List arena_Span} {res : piece_Text × (List Int)} (h0 : law04_within a0 a1 = some (Sum.inl res)) : CallF X 31 [.val (.string (bs a0)), .sl 2 (List.map e_arena_Span a1)] [] (fun x => .tup [.val (.pointer none), .agg [.sl 2 (List.map e_arena_Span res.1.fL), .val (.int .i64 res.1.fN)], .sl 1 (List.map (eI .i64) res.2)]) (fun x => []) := law04_within_c h0
theorem law04_within_cx2 {a0 : List UInt8} {a1 : List arena_Span} {res : piece_Text × (List Int) × (List UInt8)} (h0 : law04_within a0 a1 = some (Sum.inr res)) : CallF X 31 [.val (.string (bs a0)), .sl 2 (List.map e_arena_Span a1)] [] (fun x => .tup [.val (.pointer (some ⟨(blk (vn x 0)), 0, none⟩)), .agg [.sl 2 (List.map e_arena_Span res.1.fL), .val (.int .i64 res.1.fN)], .sl 1 (List.map (eI .i64) res.2.1)]) (fun x => [.var (blk (vn x 0)) [.val (vn x 1)] 127, .row (vn x 1) (List.map byteD res.2.2) 1 5]) := law04_within_c h0
noncomputable def ref04_Spans.l1 (a0 : List Int) (s4 : Int × (List ref03_Span)) : Option (Lp (Int × (List ref03_Span)) (List ref03_Span)) :=
  if s4.1 < (a0.length : Int) then
    bnd (idx a0 s4.1) fun x13 =>
    bnd (if s4.1 > 0 then
      bnd (idx a0 (w64 (s4.1 - 1))) fun x16 =>
      some ((w64 (x16 + 1)) == x13)
    else
      some false : Option Bool) fun t14 =>
    bnd (if t14 = true then
      bnd (idx s4.2 (w64 ((s4.2.length : Int) - 1))) fun x20 =>
      some (s4.2.set (w64 ((s4.2.length : Int) - 1)).toNat (⟨x20.fAt, w64 (x20.fN + 1)⟩ : ref03_Span))
    else
      bnd (app 16 s4.2 [(⟨x13, 1⟩ : ref03_Span)]) fun x21 =>
      some x21 : Option (List ref03_Span)) fun t17 =>
    some (Lp.next (w64 (s4.1 + 1), t17))
  else
    some (Lp.done s4.2)
noncomputable def ref04_Spans (a0 : List Int) : Option (List ref03_Span) :=
  bnd (loop (ref04_Spans.l1 a0) (0, []) : Option (List ref03_Span)) fun t1 =>
  some t1
set_option maxHeartbeats 4000000 in
theorem ref04_Spans_c {a0 : List Int} {res : (List ref03_Span)} (h0 : ref04_Spans a0 = some res) : CallF X 35 [.sl 1 (List.map (eI .i64) a0)] [] (fun x => .sl 2 (List.map e_ref03_Span res)) (fun x => []) := by
 unfold ref04_Spans at h0
 refine CallF.mkG (X := X) Try.func35 rfl rfl Try.ntmps35 rfl rfl ?_
 refine T.seq ?_
 refine T.region ?_
 refine TL.op1 (OpR.pure rfl) rfl ?_
 refine TL.nil ?_
 show T X _ _ _
 refine T.seq ?_
 refine T.region ?_
 refine TL.op1 (OpR.pure rfl) rfl ?_
 refine TL.nil ?_
 show T X _ _ _
 refine T.seq ?_
 refine T.seq ?_
 refine T.region ?_
 refine TL.op1 (OpR.pure rfl) rfl ?_
 refine TL.op1 (OpR.cast (OpR.pure rfl) (intE (lenM _ _))) rfl ?_
 refine TL.op1 (OpR.pure rfl) rfl ?_
 refine TL.nil ?_
 show T X _ _ _
 obtain ⟨t1, ht1, h0⟩ := bnd_some h0
 refine T.cutC (fun S' => ∃ y2 : Value, S' = ⟨[(3, .val y2), (2, .val (.slice none 0 0))], [.row y2 (List.map e_ref03_Span t1) 2 98], 42⟩) (fun _ h => h) ?_ ?_
 rotate_left
 · rintro _ ⟨y2, rfl⟩
   show T X _ _ _
   refine T.seq ?_
   refine T.region ?_
   refine TL.op1 (OpR.pure rfl) rfl ?_
   refine TL.op1 (OpR.pure rfl) rfl ?_
   refine TL.nil ?_
   show T X _ _ _
   refine T.ret ?_
   obtain rfl := Option.some.inj h0
   exact PostG.retP (ks := []) (Gst.trans (Gst.only [2] rfl) (Gst.trans (Gst.freezeRow 0 rfl rfl (ReS.cons (Re.base .all) ReS.nil) (ReO.same ReO.nil)) (Gst.pick [] rfl rfl))) undef (ResL.cons (ResV.tmp rfl) ResL.nil) rfl rfl rfl rfl
 refine T.block ?_
 obtain ⟨n5, n10⟩ := loop_some ht1
 refine T.loop (fun n S' => ∃ S'', Gst S' S'' ∧ ∃ y3 : Value, ∃ s4 : Int × (List ref03_Span), S'' = ⟨[(8, .val (.int .i64 s4.1)), (7, .val (.int .i64 (a0.length : Int))), (6, .sl 1 (List.map (eI .i64) a0)), (3, .val y3), (2, .val (.slice none 0 0)), (0, .sl 1 (List.map (eI .i64) a0))], [.row y3 (List.map e_ref03_Span s4.2) 2 98], 42⟩ ∧ iter (ref04_Spans.l1 a0) n s4 = some t1) n5 ?_ ?_
 · exact ⟨_, Gst.trans (Gst.only [0, 2, 3, 6, 7, 8] rfl) (Gst.nilRow (ow := []) 2 98 rfl), (.slice none 0 0), (0, []), rfl, n10⟩
 rintro n5 _ ⟨_, g, y3, s4, rfl, i9⟩
 refine T.ghost g ?_
 obtain ⟨m6, q7, rfl, q8, i9⟩ := iter_succ i9
 unfold ref04_Spans.l1 at q8
 refine T.seq ?_
 refine T.region ?_
 refine TL.op1 (OpR.pure rfl) rfl ?_
 refine TL.nil ?_
 show T X _ _ _
 refine T.seq ?_
 rcases ite_some q8 with ⟨c12, q8⟩ | ⟨c12, q8⟩
 rotate_left
 · refine T.condF rfl (decide_eq_false c12) ?_
   refine T.exit ?_
   obtain rfl := Option.some.inj q8
   obtain rfl : _ = _ := i9
   exact ⟨_, Gst.only [2, 3] rfl, y3, rfl⟩
 refine T.condT rfl (decide_eq_true c12) ?_
 refine T.skip ?_
 show T X _ _ _
 refine T.seq ?_
 refine T.block ?_
 refine T.seq ?_
 refine T.region ?_
 refine TL.op1 (OpR.pure rfl) rfl ?_
 obtain ⟨x13, hx13, q8⟩ := bnd_some q8
 refine TL.op1 (OpR.indexM (eI .i64) hx13 rfl rfl rfl rfl rfl) rfl ?_
 refine TL.op1 (OpR.pure rfl) rfl ?_
 refine TL.op1 (OpR.pure rfl) rfl ?_
 refine TL.op1 (OpR.pure rfl) rfl ?_
 refine TL.nil ?_
 show T X _ _ _
 refine T.seq ?_
 obtain ⟨t14, ht14, q8⟩ := bnd_some q8
 refine T.cutC (fun S' => S' = ⟨[(24, .val (.bool t14)), (8, .val (.int .i64 s4.1)), (7, .val (.int .i64 (a0.length : Int))), (6, .sl 1 (List.map (eI .i64) a0)), (5, .val (.int .i64 x13)), (3, .val y3), (2, .val (.slice none 0 0)), (0, .sl 1 (List.map (eI .i64) a0))], [.row y3 (List.map e_ref03_Span s4.2) 2 98], 42⟩) (fun _ h => h) ?_ ?_
 · refine T.region ?_
   refine TL.op1 (OpR.pure rfl) rfl ?_
   refine TL.op1 (OpR.pure rfl) rfl ?_
   refine TL.op1 (OpR.pure rfl) rfl ?_
   rcases ite_some ht14 with ⟨c15, ht14⟩ | ⟨c15, ht14⟩
   rotate_left
   · refine TL.off rfl rfl rfl rfl (decide_eq_false c15) rfl rfl ?_
     refine TL.off rfl rfl rfl rfl (decide_eq_false c15) rfl rfl ?_
     refine TL.off rfl rfl rfl rfl (decide_eq_false c15) rfl rfl ?_
     refine TL.off rfl rfl rfl rfl (decide_eq_false c15) rfl rfl ?_
     refine TL.off rfl rfl rfl rfl (decide_eq_false c15) rfl rfl ?_
     refine TL.off rfl rfl rfl rfl (decide_eq_false c15) rfl rfl ?_
     refine TL.off rfl rfl rfl rfl (decide_eq_false c15) rfl rfl ?_
     refine TL.off rfl rfl rfl rfl (decide_eq_false c15) rfl rfl ?_
     refine TL.op1 (OpR.pickF rfl (decide_eq_false c15) rfl) rfl ?_
     refine TL.nil ?_
     obtain rfl := Option.some.inj ht14
     exact ⟨_, Gst.only [0, 2, 3, 5, 6, 7, 8, 24] rfl, rfl⟩
   refine TL.on rfl rfl rfl rfl (decide_eq_true c15) ?_
   refine TL.op1 (OpR.pure rfl) rfl ?_
   refine TL.on rfl rfl rfl rfl (decide_eq_true c15) ?_
   refine TL.op1 (OpR.pure rfl) rfl ?_
   refine TL.on rfl rfl rfl rfl (decide_eq_true c15) ?_
   refine TL.op1 (OpR.pure rfl) rfl ?_
   refine TL.on rfl rfl rfl rfl (decide_eq_true c15) ?_
   obtain ⟨x16, hx16, ht14⟩ := bnd_some ht14
   refine TL.op1 (OpR.indexM (eI .i64) hx16 rfl rfl rfl rfl rfl) rfl ?_
   refine TL.on rfl rfl rfl rfl (decide_eq_true c15) ?_
   refine TL.op1 (OpR.pure rfl) rfl ?_
   refine TL.on rfl rfl rfl rfl (decide_eq_true c15) ?_
   refine TL.op1 (OpR.pure rfl) rfl ?_
   refine TL.on rfl rfl rfl rfl (decide_eq_true c15) ?_
   refine TL.op1 (OpR.pure rfl) rfl ?_
   refine TL.on rfl rfl rfl rfl (decide_eq_true c15) ?_
   refine TL.op1 (OpR.pure rfl) rfl ?_
   refine TL.op1 (OpR.pickT rfl (decide_eq_true c15) rfl) rfl ?_
   refine TL.nil ?_
   obtain rfl := Option.some.inj ht14
   exact ⟨_, Gst.only [0, 2, 3, 5, 6, 7, 8, 24] rfl, rfl⟩
 rintro _ rfl
 show T X _ _ _
 obtain ⟨t17, ht17, q8⟩ := bnd_some q8
 refine T.cutC (fun S' => ∃ y18 : Value, S' = ⟨[(8, .val (.int .i64 s4.1)), (7, .val (.int .i64 (a0.length : Int))), (6, .sl 1 (List.map (eI .i64) a0)), (3, .val y18), (2, .val (.slice none 0 0)), (0, .sl 1 (List.map (eI .i64) a0))], [.row y18 (List.map e_ref03_Span t17) 2 98], 42⟩) (fun _ h => h) ?_ ?_
 rotate_left
 · rintro _ ⟨y18, rfl⟩
   show T X _ _ _
   refine T.region ?_
   refine TL.op1 (OpR.pure rfl) rfl ?_
   refine TL.op1 (OpR.pure rfl) rfl ?_
   refine TL.nil ?_
   obtain rfl := Option.some.inj q8
   exact ⟨m6, Nat.lt_succ_self _, _, Gst.only [0, 2, 3, 6, 7, 8] rfl, y18, (w64 (s4.1 + 1), t17), rfl, i9⟩
 rcases ite_some ht17 with ⟨c19, ht17⟩ | ⟨c19, ht17⟩
 rotate_left
 · refine T.condF rfl (eq_false_of_ne_true c19) ?_
   refine T.region ?_
   refine TL.op1 (OpR.pure rfl) rfl ?_
   refine TL.op1 (OpR.pure rfl) rfl ?_
   refine TL.op1 (OpR.build rfl rfl rfl rfl rfl) rfl ?_
   refine TL.op1 (OpR.lit rfl rfl rfl rfl rfl rfl rfl) rfl ?_
   obtain ⟨x21, hx21, ht17⟩ := bnd_some ht17
   refine TL.op (OpR.appendM (m := [(⟨x13, 1⟩ : ref03_Span)]) e_ref03_Span 0 hx21 rfl rfl rfl rfl rfl rfl rfl rfl rfl (fun _ => rfl)) rfl (fun v22 => ?_)
   refine TL.op1 (OpR.pure rfl) rfl ?_
   refine TL.nil ?_
   obtain rfl := Option.some.inj ht17
   exact ⟨_, Gst.only [0, 2, 3, 6, 7, 8] rfl, v22, rfl⟩
 refine T.condT rfl (c19) ?_
 refine T.region ?_
 refine TL.op1 (OpR.pure rfl) rfl ?_
 refine TL.op1 (OpR.pure rfl) rfl ?_
 refine TL.op1 (OpR.rowLenM e_ref03_Span 0 rfl rfl rfl rfl) rfl ?_
 refine TL.op1 (OpR.pure rfl) rfl ?_
 obtain ⟨x20, hx20, ht17⟩ := bnd_some ht17
 refine TL.op1 (OpR.rowIndexM e_ref03_Span 0 hx20 rfl rfl rfl rfl rfl rfl rfl) rfl ?_
 refine TL.op1 (OpR.pure rfl) rfl ?_
 refine TL.op1 (OpR.rowLoadM (j := w64 ((s4.2.length : Int) - 1)) e_ref03_Span 0 hx20 rfl rfl rfl rfl) rfl ?_
 refine TL.op1 (OpR.pure rfl) rfl ?_
 refine TL.op1 (OpR.rowIndexM e_ref03_Span 0 hx20 rfl rfl rfl rfl rfl rfl rfl) rfl ?_
 refine TL.op1 (OpR.pure rfl) rfl ?_
 refine TL.op0 (OpR.rowStoreM (j := w64 ((s4.2.length : Int) - 1)) e_ref03_Span (⟨x20.fAt, w64 (x20.fN + 1)⟩ : ref03_Span) 0 hx20 rfl rfl rfl rfl rfl rfl rfl rfl rfl) ?_
 refine TL.nil ?_
 obtain rfl := Option.some.inj ht17
 exact ⟨_, Gst.only [0, 2, 3, 6, 7, 8] rfl, y3, rfl⟩
noncomputable def slices_Equal_arena_Span_arena_Span.l1 (a0 : List arena_Span) (a1 : List arena_Span) (s4 : Int) : Option (Lp Int (Ex Unit Bool)) :=
  if s4 < (a0.length : Int) then
    bnd (idx a0 s4) fun x14 =>
    bnd (idx a1 s4) fun x15 =>
    if x14 = x15 then
      some (Lp.next (w64 (s4 + 1)))
    else
      some (Lp.done (Ex.ret false))
  else
    some (Lp.done (Ex.brk ()))
noncomputable def slices_Equal_arena_Span_arena_Span (a0 : List arena_Span) (a1 : List arena_Span) : Option Bool :=
  if (a0.length : Int) = (a1.length : Int) then
    bnd (loop (slices_Equal_arena_Span_arena_Span.l1 a0 a1) 0 : Option (Ex Unit Bool)) fun t2 => match t2 with
      | .brk u3 =>
        some true
      | .ret u3 => some u3
  else
    some false
set_option maxHeartbeats 4000000 in
theorem slices_Equal_arena_Span_arena_Span_c {a0 : List arena_Span} {a1 : List arena_Span} {res : Bool} (h0 : slices_Equal_arena_Span_arena_Span a0 a1 = some res) : CallF X 69 [.sl 2 (List.map e_arena_Span a0), .sl 2 (List.map e_arena_Span a1)] [] (fun x => .val (.bool res)) (fun x => []) := by
 unfold slices_Equal_arena_Span_arena_Span at h0
 refine CallF.mkG (X := X) Try.func69 rfl rfl Try.ntmps69 rfl rfl ?_
 refine T.seq ?_
 refine T.region ?_
 refine TL.op1 (OpR.pure rfl) rfl ?_
 refine TL.nil ?_
 show T X _ _ _
 refine T.seq ?_
 refine T.seq ?_
 refine T.region ?_
 refine TL.op1 (OpR.pure rfl) rfl ?_
 refine TL.op1 (OpR.cast (OpR.pure rfl) (intE (lenM _ _))) rfl ?_
 refine TL.op1 (OpR.pure rfl) rfl ?_
 refine TL.op1 (OpR.cast (OpR.pure rfl) (intE (lenM _ _))) rfl ?_
 refine TL.op1 (OpR.pure rfl) rfl ?_
 refine TL.nil ?_
 show T X _ _ _
 rcases ite_some h0 with ⟨c1, h0⟩ | ⟨c1, h0⟩
 rotate_left
 · refine T.condT rfl (not_f (beq_eq_false_iff_ne.2 c1)) ?_
   refine T.seq ?_
   refine T.region ?_
   refine TL.op1 (OpR.pure rfl) rfl ?_
   refine TL.nil ?_
   show T X _ _ _
   refine T.ret ?_
   obtain rfl := Option.some.inj h0
   exact PostG.retP (ks := []) (Gst.only [4] rfl) undef (ResL.cons (ResV.tmp rfl) ResL.nil) rfl rfl rfl rfl
 refine T.condF rfl (not_t (beq_iff_eq.2 c1)) ?_
 refine T.skip ?_
 show T X _ _ _
 refine T.seq ?_
 refine T.seq ?_
 refine T.region ?_
 refine TL.op1 (OpR.pure rfl) rfl ?_
 refine TL.op1 (OpR.cast (OpR.pure rfl) (intE (lenM _ _))) rfl ?_
 refine TL.op1 (OpR.pure rfl) rfl ?_
 refine TL.nil ?_
 show T X _ _ _
 obtain ⟨t2, ht2, h0⟩ := bnd_some h0
 refine T.cutC (fun S' => ∃ u3, t2 = Ex.brk u3 ∧ S' = ⟨[(4, .val (.bool false))], [], 26⟩) (fun _ h => h) ?_ ?_
 rotate_left
 · rintro _ ⟨u3, rfl, rfl⟩
   show T X _ _ _
   refine T.seq ?_
   refine T.region ?_
   refine TL.op1 (OpR.pure rfl) rfl ?_
   refine TL.nil ?_
   show T X _ _ _
   refine T.ret ?_
   obtain rfl := Option.some.inj h0
   exact PostG.retP (ks := []) (Gst.only [4] rfl) undef (ResL.cons (ResV.tmp rfl) ResL.nil) rfl rfl rfl rfl
 refine T.block ?_
 obtain ⟨n5, n10⟩ := loop_some ht2
 refine T.loop (fun n S' => ∃ S'', Gst S' S'' ∧ ∃ s4 : Int, S'' = ⟨[(13, .val (.int .i64 s4)), (12, .val (.int .i64 (a0.length : Int))), (4, .val (.bool false)), (1, .sl 2 (List.map e_arena_Span a1)), (0, .sl 2 (List.map e_arena_Span a0))], [], 26⟩ ∧ iter (slices_Equal_arena_Span_arena_Span.l1 a0 a1) n s4 = some t2) n5 ?_ ?_
 · exact ⟨_, Gst.only [0, 1, 4, 12, 13] rfl, 0, rfl, n10⟩
 rintro n5 _ ⟨_, g, s4, rfl, i9⟩
 refine T.ghost g ?_
 obtain ⟨m6, q7, rfl, q8, i9⟩ := iter_succ i9
 unfold slices_Equal_arena_Span_arena_Span.l1 at q8
 refine T.seq ?_
 refine T.region ?_
 refine TL.op1 (OpR.pure rfl) rfl ?_
 refine TL.nil ?_
 show T X _ _ _
 refine T.seq ?_
 rcases ite_some q8 with ⟨c12, q8⟩ | ⟨c12, q8⟩
 rotate_left
 · refine T.condF rfl (decide_eq_false c12) ?_
   refine T.exit ?_
   obtain rfl := Option.some.inj q8
   obtain rfl : _ = _ := i9
   exact ⟨_, Gst.only [4] rfl, _, rfl, rfl⟩
 refine T.condT rfl (decide_eq_true c12) ?_
 refine T.skip ?_
 show T X _ _ _
 refine T.seq ?_
 refine T.block ?_
 refine T.seq ?_
 refine T.region ?_
 refine TL.op1 (OpR.pure rfl) rfl ?_
 refine TL.op1 (OpR.pure rfl) rfl ?_
 refine TL.nil ?_
 show T X _ _ _
 refine T.seq ?_
 obtain ⟨x14, hx14, q8⟩ := bnd_some q8
 obtain ⟨x15, hx15, q8⟩ := bnd_some q8
 refine T.drawQ drawsX [.sl 2 (List.map e_arena_Span a0), .val (.int .i64 s4), .nod [.val (.int .i64 x14.fAt), .val (.int .i64 x14.fN)], .agg [.val (.int .i64 x14.fAt), .val (.int .i64 x14.fN)], .sl 2 (List.map e_arena_Span a1), .val (.int .i64 s4), .nod [.val (.int .i64 x15.fAt), .val (.int .i64 x15.fN)], .agg [.val (.int .i64 x15.fAt), .val (.int .i64 x15.fN)], .val (.bool (!(x14 == x15)))] [0, 1, 4, 5, 12, 13, 14, 15, 16, 17, 18, 19, 20, 21, 22, 23, 24] (by decide +kernel) rfl ?_ rfl ?_
 · refine OpsQ.yes (Want.plain rfl) rfl (OpR.pure rfl) ?_
   refine OpsQ.yes (Want.plain rfl) rfl (OpR.pure rfl) ?_
   refine OpsQ.yes (Want.plain rfl) rfl (OpR.indexM e_arena_Span hx14 rfl rfl rfl rfl rfl) ?_
   refine OpsQ.yes (Want.plain rfl) rfl (OpR.pure rfl) ?_
   refine OpsQ.yes (Want.plain rfl) rfl (OpR.pure rfl) ?_
   refine OpsQ.yes (Want.plain rfl) rfl (OpR.pure rfl) ?_
   refine OpsQ.yes (Want.plain rfl) rfl (OpR.indexM e_arena_Span hx15 rfl rfl rfl rfl rfl) ?_
   refine OpsQ.yes (Want.plain rfl) rfl (OpR.pure rfl) ?_
   refine OpsQ.yes (Want.plain rfl) rfl (OpR.cast (OpR.neStruct rfl rfl rfl rfl rfl (by kernel_rfl) (by kernel_rfl)) (boolE (congrArg (fun b => !b) (beq_arena_Span x14 x15)))) ?_
   exact OpsQ.nil
 show T X _ _ _
 rcases ite_some q8 with ⟨c16, q8⟩ | ⟨c16, q8⟩
 · refine T.condF rfl (not_t (beq_iff_eq.2 c16)) ?_
   refine T.skip ?_
   show T X _ _ _
   refine T.region ?_
   refine TL.op1 (OpR.pure rfl) rfl ?_
   refine TL.op1 (OpR.pure rfl) rfl ?_
   refine TL.nil ?_
   obtain rfl := Option.some.inj q8
   exact ⟨m6, Nat.lt_succ_self _, _, Gst.only [0, 1, 4, 12, 13] rfl, w64 (s4 + 1), rfl, i9⟩
 refine T.condT rfl (not_f (beq_eq_false_iff_ne.2 c16)) ?_
 refine T.seq ?_
 refine T.region ?_
 refine TL.op1 (OpR.pure rfl) rfl ?_
 refine TL.nil ?_
 show T X _ _ _
 refine T.ret ?_
 obtain rfl := Option.some.inj q8
 obtain rfl : _ = _ := i9
 obtain rfl := Option.some.inj h0
 exact PostG.retP (ks := []) (Gst.only [4] rfl) undef (ResL.cons (ResV.tmp rfl) ResL.nil) rfl rfl rfl rfl
noncomputable def piece_Same (a0 : piece_Text) (a1 : piece_Text) : Option Bool :=
  bnd (slices_Equal_arena_Span_arena_Span a0.fL a1.fL) fun x1 =>
  some x1
set_option maxHeartbeats 4000000 in
theorem piece_Same_c {a0 : piece_Text} {a1 : piece_Text} {res : Bool} (h0 : piece_Same a0 a1 = some res) : CallF X 36 [.agg [.sl 2 (List.map e_arena_Span a0.fL), .val (.int .i64 a0.fN)], .agg [.sl 2 (List.map e_arena_Span a1.fL), .val (.int .i64 a1.fN)]] [] (fun x => .val (.bool res)) (fun x => []) := by
 unfold piece_Same at h0
 refine CallF.mkG (X := X) Try.func36 rfl rfl Try.ntmps36 rfl rfl ?_
 refine T.seq ?_
 refine T.region ?_
 refine TL.op1 (OpR.boxImm rfl rfl) rfl ?_
 refine TL.op1 (OpR.boxImm rfl rfl) rfl ?_
 refine TL.op1 (OpR.pure rfl) rfl ?_
 refine TL.nil ?_
 show T X _ _ _
 refine T.seq ?_
 refine T.region ?_
 refine TL.op1 (OpR.pure rfl) rfl ?_
 refine TL.op1 (OpR.pure rfl) rfl ?_
 refine TL.op1 (OpR.pure rfl) rfl ?_
 refine TL.op1 (OpR.pure rfl) rfl ?_
 obtain ⟨x1, hx1, h0⟩ := bnd_some h0
 refine TL.op1 (OpR.call0 fn69 (slices_Equal_arena_Span_arena_Span_c hx1) rfl) rfl ?_
 refine TL.op1 (OpR.pure rfl) rfl ?_
 refine TL.nil ?_
 show T X _ _ _
 refine T.ret ?_
 obtain rfl := Option.some.inj h0
 exact PostG.retP (ks := []) (Gst.only [4] rfl) undef (ResL.cons (ResV.tmp rfl) ResL.nil) rfl rfl rfl rfl
noncomputable def piece_Text_Delete (a0 : piece_Text) (a1 : Int) (a2 : Int) : Option piece_Text :=
  bnd (piece_Text_place a0 a1) fun x2 =>
  bnd (piece_Text_Slice a0 0 x2) fun x4 =>
  bnd (piece_Text_place a0 a2) fun x5 =>
  bnd (piece_Text_Slice a0 (if x5 > x2 then x5 else x2) a0.fN) fun x6 =>
  bnd (piece_Concat [x4, x6]) fun x7 =>
  some x7
set_option maxHeartbeats 4000000 in
theorem piece_Text_Delete_c {a0 : piece_Text} {a1 : Int} {a2 : Int} {res : piece_Text} (h0 : piece_Text_Delete a0 a1 a2 = some res) : CallF X 70 [.agg [.sl 2 (List.map e_arena_Span a0.fL), .val (.int .i64 a0.fN)], .val (.int .i64 a1), .val (.int .i64 a2)] [] (fun x => .agg [.sl 2 (List.map e_arena_Span res.fL), .val (.int .i64 res.fN)]) (fun x => []) := by
 unfold piece_Text_Delete at h0
 refine CallF.mkG (X := X) Try.func70 rfl rfl Try.ntmps70 rfl rfl ?_
 refine T.seq ?_
 refine T.region ?_
 refine TL.op1 (OpR.boxImm rfl rfl) rfl ?_
 refine TL.op (OpR.alloc rfl rfl (fun _ => rfl)) rfl (fun p1 => ?_)
 refine TL.nil ?_
 show T X _ _ _
 refine T.seq ?_
 refine T.region ?_
 refine TL.op1 (OpR.pure rfl) rfl ?_
 refine TL.op1 (OpR.pure rfl) rfl ?_
 obtain ⟨x2, hx2, h0⟩ := bnd_some h0
 refine TL.op1 (OpR.call0 fn75 (piece_Text_place_c hx2) rfl) rfl ?_
 refine TL.op1 (OpR.pure rfl) rfl ?_
 refine TL.nil ?_
 show T X _ _ _
 refine T.seq ?_
 obtain ⟨x4, hx4, h0⟩ := bnd_some h0
 obtain ⟨x5, hx5, h0⟩ := bnd_some h0
 obtain ⟨x6, hx6, h0⟩ := bnd_some h0
 obtain ⟨x7, hx7, h0⟩ := bnd_some h0
 refine T.drawS drawsX (fun env3 => [.agg [.sl 2 (List.map e_arena_Span a0.fL), .val (.int .i64 a0.fN)], .val (.int .i64 x2), .agg [.sl 2 (List.map e_arena_Span x4.fL), .val (.int .i64 x4.fN)], .agg [.sl 2 (List.map e_arena_Span a0.fL), .val (.int .i64 a0.fN)], .val (.int .i64 x2), .agg [.sl 2 (List.map e_arena_Span a0.fL), .val (.int .i64 a0.fN)], .val (.int .i64 a2), .val (.int .i64 x5), .val (.int .i64 (if x5 > x2 then x5 else x2)), .nod [.val (.int .i64 a0.fN)], .val (.int .i64 a0.fN), .agg [.sl 2 (List.map e_arena_Span x6.fL), .val (.int .i64 x6.fN)], .sl 2 (List.map e_piece_Text [x4, x6]), .agg [.sl 2 (List.map e_arena_Span x7.fL), .val (.int .i64 x7.fN)], .dead]) (fun D env3 => [(bif D 14 then .var (blk p1) [.sl 2 (List.map e_arena_Span x7.fL), .val (.int .i64 x7.fN)] 59 else .var (blk p1) [.val (.slice none 0 0), .val (.int .i64 0)] 59)]) [0, 0, 3, 0, 0, 0, 0, 103, 247, 0, 512, 2047, 4095, 8191, 16383] [0, 1, 2, 3, 6, 7, 8, 9, 10, 11, 12, 13, 14, 15, 16, 17, 18, 19, 20, 21, 22, 23] (fun env3 => [.var (blk p1) [.sl 2 (List.map e_arena_Span x7.fL), .val (.int .i64 x7.fN)] 59]) (by decide +kernel) (by decide +kernel) (fun _ => rfl) (fun _ => rfl) ?_ (fun _ => rfl) (fun _ => rfl) ?_
 rotate_left
 · intro env3
   show T X _ _ _
   refine T.ret ?_
   obtain rfl := Option.some.inj h0
   exact PostG.retP (ks := []) (Gst.only [6] rfl) undef (ResL.cons (ResV.var 0 rfl rfl rfl rfl) ResL.nil) rfl rfl rfl rfl
 refine oS (d := .agg [.sl 2 (List.map e_arena_Span a0.fL), .val (.int .i64 a0.fN)]) (fun _ => Want.plain rfl) (fun _ => rfl) (fun _ _ _ => rfl) (fun _ _ => OpR.pure rfl) (fun _ _ _ _ _ _ _ => rfl) ?_
 refine oS (d := .val (.int .i64 x2)) (fun _ => Want.plain rfl) (fun _ => rfl) (fun _ _ _ => rfl) (fun _ _ => OpR.pure rfl) (fun _ _ _ _ _ _ _ => rfl) ?_
 refine oS (d := .agg [.sl 2 (List.map e_arena_Span x4.fL), .val (.int .i64 x4.fN)]) (fun _ => Want.plain rfl) (fun _ => rfl) (fun _ _ _ => rfl) (fun _ _ => OpR.call0 fn55 (piece_Text_Slice_c hx4) rfl) (fun _ _ _ _ _ _ _ => rfl) ?_
 refine oS (d := .agg [.sl 2 (List.map e_arena_Span a0.fL), .val (.int .i64 a0.fN)]) (fun _ => Want.plain rfl) (fun _ => rfl) (fun _ _ _ => rfl) (fun _ _ => OpR.pure rfl) (fun _ _ _ _ _ _ _ => rfl) ?_
 refine oS (d := .val (.int .i64 x2)) (fun _ => Want.plain rfl) (fun _ => rfl) (fun _ _ _ => rfl) (fun _ _ => OpR.pure rfl) (fun _ _ _ _ _ _ _ => rfl) ?_
 refine oS (d := .agg [.sl 2 (List.map e_arena_Span a0.fL), .val (.int .i64 a0.fN)]) (fun _ => Want.plain rfl) (fun _ => rfl) (fun _ _ _ => rfl) (fun _ _ => OpR.pure rfl) (fun _ _ _ _ _ _ _ => rfl) ?_
 refine oS (d := .val (.int .i64 a2)) (fun _ => Want.plain rfl) (fun _ => rfl) (fun _ _ _ => rfl) (fun _ _ => OpR.pure rfl) (fun _ _ _ _ _ _ _ => rfl) ?_
 refine oS (d := .val (.int .i64 x5)) (fun _ => Want.plain rfl) (fun _ => rfl) (fun _ _ _ => rfl) (fun _ _ => OpR.call0 fn75 (piece_Text_place_c hx5) rfl) (fun _ _ _ _ _ _ _ => rfl) ?_
 refine oS (d := .val (.int .i64 (if x5 > x2 then x5 else x2))) (fun _ => Want.plain rfl) (fun _ => rfl) (fun _ _ _ => rfl) (fun _ _ => OpR.pure rfl) (fun _ _ _ _ _ _ _ => rfl) ?_
 refine oS (d := .nod [.val (.int .i64 a0.fN)]) (fun _ => Want.plain rfl) (fun _ => rfl) (fun _ _ _ => rfl) (fun _ _ => OpR.pure rfl) (fun _ _ _ _ _ _ _ => rfl) ?_
 refine oS (d := .val (.int .i64 a0.fN)) (fun _ => Want.plain rfl) (fun _ => rfl) (fun _ _ _ => rfl) (fun _ _ => OpR.pure rfl) (fun _ _ _ _ _ _ _ => rfl) ?_
 refine oS (d := .agg [.sl 2 (List.map e_arena_Span x6.fL), .val (.int .i64 x6.fN)]) (fun _ => Want.plain rfl) (fun _ => rfl) (fun _ _ _ => rfl) (fun _ _ => OpR.call0 fn55 (piece_Text_Slice_c hx6) rfl) (fun _ _ _ _ _ _ _ => rfl) ?_
 refine oS (d := .sl 2 (List.map e_piece_Text [x4, x6])) (fun _ => Want.plain rfl) (fun _ => rfl) (fun _ _ _ => rfl) (fun _ _ => OpR.lit rfl rfl rfl rfl rfl rfl rfl) (fun _ _ _ _ _ _ _ => rfl) ?_
 refine oS (d := .agg [.sl 2 (List.map e_arena_Span x7.fL), .val (.int .i64 x7.fN)]) (fun _ => Want.plain rfl) (fun _ => rfl) (fun _ _ _ => rfl) (fun _ _ => OpR.call0 fn56 (piece_Concat_c hx7) rfl) (fun _ _ _ _ _ _ _ => rfl) ?_
 refine OpsS.cons' true ?_ (fun _ _ _ _ _ _ _ => rfl) ?_
 · intro D env3 hA
   exact OpS.yes (o0 := [.var (blk p1) [.val (.slice none 0 0), .val (.int .i64 0)] 59]) (o1 := fun x => [.var (blk p1) [.sl 2 (List.map e_arena_Span x7.fL), .val (.int .i64 x7.fN)] 59]) (d := fun x => .dead) (Want.plain rfl) (by first | rfl | simp only [hA.me, cond_true, cond_false, List.cons_append, List.nil_append, List.append_nil]) (fun x => by first | rfl | simp only [ins_self, upd_self, hA.me, cond_true, cond_false, List.cons_append, List.nil_append, List.append_nil]) (fun x => rfl) (OpR.store 0 rfl rfl rfl rfl rfl rfl rfl rfl)
 exact trivial
noncomputable def law04_awake : Option Bool :=
  bnd (piece_Of [(⟨0, 2⟩ : arena_Span), (⟨2, 3⟩ : arena_Span)]) fun x1 =>
  bnd (piece_Text_Spans x1) fun x3 =>
  bnd (bnd (piece_Text_Len x1) fun x6 =>
  if x6 = 5 then
    if (x3.length : Int) = 1 then
      bnd (idx x3 0) fun x9 =>
      if x9 = (⟨0, 5⟩ : arena_Span) then
        bnd (piece_Of [(⟨0, 5⟩ : arena_Span)]) fun x11 =>
        bnd (piece_Same x1 x11) fun x12 =>
        if x12 = true then
          bnd (piece_Text_Delete x1 1 3) fun x14 =>
          bnd (piece_Text_Len x14) fun x15 =>
          some (x15 == 3)
        else
          some false
      else
        some false
    else
      some false
  else
    some false : Option Bool) fun t4 =>
  some t4
set_option maxHeartbeats 4000000 in
theorem law04_awake_c {res : Bool} (h0 : law04_awake = some res) : CallF X 37 [] [] (fun x => .val (.bool res)) (fun x => []) := by
 unfold law04_awake at h0
 refine CallF.mkG (X := X) Try.func37 rfl rfl Try.ntmps37 rfl rfl ?_
 refine T.seq ?_
 refine T.region ?_
 refine TL.op1 (OpR.pure rfl) rfl ?_
 refine TL.nil ?_
 show T X _ _ _
 refine T.seq ?_
 refine T.region ?_
 refine TL.op1 (OpR.build rfl rfl rfl rfl rfl) rfl ?_
 refine TL.op1 (OpR.build rfl rfl rfl rfl rfl) rfl ?_
 refine TL.op1 (OpR.lit rfl rfl rfl rfl rfl rfl rfl) rfl ?_
 obtain ⟨x1, hx1, h0⟩ := bnd_some h0
 refine TL.op1 (OpR.call0 fn57 (piece_Of_c_2 hx1) rfl) rfl ?_
 refine TL.op (OpR.alloc rfl rfl (fun _ => rfl)) rfl (fun p2 => ?_)
 refine TL.op0 (OpR.store 0 rfl rfl rfl rfl rfl rfl rfl rfl) ?_
 refine TL.nil ?_
 show T X _ _ _
 refine T.seq ?_
 refine T.region ?_
 refine TL.op1 (OpR.loadPtr 0 rfl rfl rfl rfl) rfl ?_
 obtain ⟨x3, hx3, h0⟩ := bnd_some h0
 refine TL.op1 (OpR.call0 fn39 (piece_Text_Spans_c hx3) rfl) rfl ?_
 refine TL.op1 (OpR.pure rfl) rfl ?_
 refine TL.nil ?_
 show T X _ _ _
 refine T.seq ?_
 obtain ⟨t4, ht4, h0⟩ := bnd_some h0
 refine T.cutC (fun S' => S' = ⟨[(0, .val (.bool t4))], [], 37⟩) (fun _ h => h) ?_ ?_
 rotate_left
 · rintro _ rfl
   show T X _ _ _
   refine T.ret ?_
   obtain rfl := Option.some.inj h0
   exact PostG.retP (ks := []) (Gst.only [0] rfl) undef (ResL.cons (ResV.tmp rfl) ResL.nil) rfl rfl rfl rfl
 obtain ⟨x6, hx6, ht4⟩ := bnd_some ht4
 rcases ite_some ht4 with ⟨c7, ht4⟩ | ⟨c7, ht4⟩
 rotate_left
 · refine T.drawQ drawsX [.agg [.sl 2 (List.map e_arena_Span x1.fL), .val (.int .i64 x1.fN)], .val (.int .i64 x6), .val (.bool (x6 == 5)), .val (.bool (x6 == 5)), .tup [], .tup [], .tup [], .val (.bool false), .val (.bool false), .tup [], .tup [], .tup [], .tup [], .tup [], .val (.bool false), .val (.bool false), .tup [], .tup [], .tup [], .tup [], .tup [], .val (.bool false), .val (.bool false), .tup [], .tup [], .tup [], .tup [], .val (.bool false), .val (.bool false)] [0, 1, 2, 3, 4, 5, 6, 7, 8, 9, 10, 11, 12, 13, 14, 15, 16, 17, 18, 19, 20, 21, 22, 23, 24, 25, 26, 27, 28, 29, 30, 31, 32, 33, 34, 35, 36] (by decide +kernel) rfl ?_ rfl ?_
   rotate_left
   · obtain rfl := Option.some.inj ht4
     exact ⟨_, Gst.trans (Gst.only [0] rfl) (Gst.pick [] rfl rfl), rfl⟩
   refine OpsQ.yes (Want.plain rfl) rfl (OpR.loadPtr 0 rfl rfl rfl rfl) ?_
   refine OpsQ.yes (Want.plain rfl) rfl (OpR.call0 fn38 (piece_Text_Len_c hx6) rfl) ?_
   refine OpsQ.yes (Want.plain rfl) rfl (OpR.pure rfl) ?_
   refine OpsQ.yes (Want.plain rfl) rfl (OpR.pure rfl) ?_
   refine OpsQ.no (Want.bool rfl rfl rfl rfl (by rw [(beq_eq_false_iff_ne.2 c7)]; rfl)) rfl ?_
   refine OpsQ.no (Want.bool rfl rfl rfl rfl (by rw [(beq_eq_false_iff_ne.2 c7)]; rfl)) rfl ?_
   refine OpsQ.no (Want.bool rfl rfl rfl rfl (by rw [(beq_eq_false_iff_ne.2 c7)]; rfl)) rfl ?_
   refine OpsQ.yes (Want.plain rfl) rfl (OpR.pickF rfl (beq_eq_false_iff_ne.2 c7) rfl) ?_
   refine OpsQ.yes (Want.plain rfl) rfl (OpR.pure rfl) ?_
   refine OpsQ.no (Want.bool rfl rfl rfl rfl rfl) rfl ?_
   refine OpsQ.no (Want.bool rfl rfl rfl rfl rfl) rfl ?_
   refine OpsQ.no (Want.bool rfl rfl rfl rfl rfl) rfl ?_
   refine OpsQ.no (Want.bool rfl rfl rfl rfl rfl) rfl ?_
   refine OpsQ.no (Want.bool rfl rfl rfl rfl rfl) rfl ?_
   refine OpsQ.yes (Want.plain rfl) rfl (OpR.pickF rfl rfl rfl) ?_
   refine OpsQ.yes (Want.plain rfl) rfl (OpR.pure rfl) ?_
   refine OpsQ.no (Want.bool rfl rfl rfl rfl rfl) rfl ?_
   refine OpsQ.no (Want.bool rfl rfl rfl rfl rfl) rfl ?_
   refine OpsQ.no (Want.bool rfl rfl rfl rfl rfl) rfl ?_
   refine OpsQ.no (Want.bool rfl rfl rfl rfl rfl) rfl ?_
   refine OpsQ.no (Want.bool rfl rfl rfl rfl rfl) rfl ?_
   refine OpsQ.yes (Want.plain rfl) rfl (OpR.pickF rfl rfl rfl) ?_
   refine OpsQ.yes (Want.plain rfl) rfl (OpR.pure rfl) ?_
   refine OpsQ.no (Want.bool rfl rfl rfl rfl rfl) rfl ?_
   refine OpsQ.no (Want.bool rfl rfl rfl rfl rfl) rfl ?_
   refine OpsQ.no (Want.bool rfl rfl rfl rfl rfl) rfl ?_
   refine OpsQ.no (Want.bool rfl rfl rfl rfl rfl) rfl ?_
   refine OpsQ.yes (Want.plain rfl) rfl (OpR.pickF rfl rfl rfl) ?_
   refine OpsQ.yes (Want.plain rfl) rfl (OpR.pure rfl) ?_
   exact OpsQ.nil
 rcases ite_some ht4 with ⟨c8, ht4⟩ | ⟨c8, ht4⟩
 rotate_left
 · refine T.drawQ drawsX [.agg [.sl 2 (List.map e_arena_Span x1.fL), .val (.int .i64 x1.fN)], .val (.int .i64 x6), .val (.bool (x6 == 5)), .val (.bool (x6 == 5)), .sl 2 (List.map e_arena_Span x3), .val (.int .i64 (x3.length : Int)), .val (.bool ((x3.length : Int) == 1)), .val (.bool ((x3.length : Int) == 1)), .val (.bool ((x3.length : Int) == 1)), .tup [], .tup [], .tup [], .tup [], .tup [], .val (.bool false), .val (.bool false), .tup [], .tup [], .tup [], .tup [], .tup [], .val (.bool false), .val (.bool false), .tup [], .tup [], .tup [], .tup [], .val (.bool false), .val (.bool false)] [0, 1, 2, 3, 4, 5, 6, 7, 8, 9, 10, 11, 12, 13, 14, 15, 16, 17, 18, 19, 20, 21, 22, 23, 24, 25, 26, 27, 28, 29, 30, 31, 32, 33, 34, 35, 36] (by decide +kernel) rfl ?_ rfl ?_
   rotate_left
   · obtain rfl := Option.some.inj ht4
     exact ⟨_, Gst.trans (Gst.only [0] rfl) (Gst.pick [] rfl rfl), rfl⟩
   refine OpsQ.yes (Want.plain rfl) rfl (OpR.loadPtr 0 rfl rfl rfl rfl) ?_
   refine OpsQ.yes (Want.plain rfl) rfl (OpR.call0 fn38 (piece_Text_Len_c hx6) rfl) ?_
   refine OpsQ.yes (Want.plain rfl) rfl (OpR.pure rfl) ?_
   refine OpsQ.yes (Want.plain rfl) rfl (OpR.pure rfl) ?_
   refine OpsQ.yes (Want.bool rfl rfl rfl rfl (by rw [(beq_iff_eq.2 c7)]; rfl)) rfl (OpR.pure rfl) ?_
   refine OpsQ.yes (Want.bool rfl rfl rfl rfl (by rw [(beq_iff_eq.2 c7)]; rfl)) rfl (OpR.cast (OpR.pure rfl) (intE (lenM _ _))) ?_
   refine OpsQ.yes (Want.bool rfl rfl rfl rfl (by rw [(beq_iff_eq.2 c7)]; rfl)) rfl (OpR.pure rfl) ?_
   refine OpsQ.yes (Want.plain rfl) rfl (OpR.pickT rfl (beq_iff_eq.2 c7) rfl) ?_
   refine OpsQ.yes (Want.plain rfl) rfl (OpR.pure rfl) ?_
   refine OpsQ.no (Want.bool rfl rfl rfl rfl (by rw [(beq_eq_false_iff_ne.2 c8)]; rfl)) rfl ?_
   refine OpsQ.no (Want.bool rfl rfl rfl rfl (by rw [(beq_eq_false_iff_ne.2 c8)]; rfl)) rfl ?_
   refine OpsQ.no (Want.bool rfl rfl rfl rfl (by rw [(beq_eq_false_iff_ne.2 c8)]; rfl)) rfl ?_
   refine OpsQ.no (Want.bool rfl rfl rfl rfl (by rw [(beq_eq_false_iff_ne.2 c8)]; rfl)) rfl ?_
   refine OpsQ.no (Want.bool rfl rfl rfl rfl (by rw [(beq_eq_false_iff_ne.2 c8)]; rfl)) rfl ?_
   refine OpsQ.yes (Want.plain rfl) rfl (OpR.pickF rfl (beq_eq_false_iff_ne.2 c8) rfl) ?_
   refine OpsQ.yes (Want.plain rfl) rfl (OpR.pure rfl) ?_
   refine OpsQ.no (Want.bool rfl rfl rfl rfl rfl) rfl ?_
   refine OpsQ.no (Want.bool rfl rfl rfl rfl rfl) rfl ?_
   refine OpsQ.no (Want.bool rfl rfl rfl rfl rfl) rfl ?_
   refine OpsQ.no (Want.bool rfl rfl rfl rfl rfl) rfl ?_
   refine OpsQ.no (Want.bool rfl rfl rfl rfl rfl) rfl ?_
   refine OpsQ.yes (Want.plain rfl) rfl (OpR.pickF rfl rfl rfl) ?_
   refine OpsQ.yes (Want.plain rfl) rfl (OpR.pure rfl) ?_
   refine OpsQ.no (Want.bool rfl rfl rfl rfl rfl) rfl ?_
   refine OpsQ.no (Want.bool rfl rfl rfl rfl rfl) rfl ?_
   refine OpsQ.no (Want.bool rfl rfl rfl rfl rfl) rfl ?_
   refine OpsQ.no (Want.bool rfl rfl rfl rfl rfl) rfl ?_
   refine OpsQ.yes (Want.plain rfl) rfl (OpR.pickF rfl rfl rfl) ?_
   refine OpsQ.yes (Want.plain rfl) rfl (OpR.pure rfl) ?_
   exact OpsQ.nil
 obtain ⟨x9, hx9, ht4⟩ := bnd_some ht4
 rcases ite_some ht4 with ⟨c10, ht4⟩ | ⟨c10, ht4⟩
 rotate_left
 · refine T.drawQ drawsX [.agg [.sl 2 (List.map e_arena_Span x1.fL), .val (.int .i64 x1.fN)], .val (.int .i64 x6), .val (.bool (x6 == 5)), .val (.bool (x6 == 5)), .sl 2 (List.map e_arena_Span x3), .val (.int .i64 (x3.length : Int)), .val (.bool ((x3.length : Int) == 1)), .val (.bool ((x3.length : Int) == 1)), .val (.bool ((x3.length : Int) == 1)), .sl 2 (List.map e_arena_Span x3), .nod [.val (.int .i64 x9.fAt), .val (.int .i64 x9.fN)], .agg [.val (.int .i64 x9.fAt), .val (.int .i64 x9.fN)], .agg [.val (.int .i64 0), .val (.int .i64 5)], .val (.bool (x9 == (⟨0, 5⟩ : arena_Span))), .val (.bool (x9 == (⟨0, 5⟩ : arena_Span))), .val (.bool (x9 == (⟨0, 5⟩ : arena_Span))), .tup [], .tup [], .tup [], .tup [], .tup [], .val (.bool false), .val (.bool false), .tup [], .tup [], .tup [], .tup [], .val (.bool false), .val (.bool false)] [0, 1, 2, 3, 4, 5, 6, 7, 8, 9, 10, 11, 12, 13, 14, 15, 16, 17, 18, 19, 20, 21, 22, 23, 24, 25, 26, 27, 28, 29, 30, 31, 32, 33, 34, 35, 36] (by decide +kernel) rfl ?_ rfl ?_
   rotate_left
   · obtain rfl := Option.some.inj ht4
     exact ⟨_, Gst.trans (Gst.only [0] rfl) (Gst.pick [] rfl rfl), rfl⟩
   refine OpsQ.yes (Want.plain rfl) rfl (OpR.loadPtr 0 rfl rfl rfl rfl) ?_
   refine OpsQ.yes (Want.plain rfl) rfl (OpR.call0 fn38 (piece_Text_Len_c hx6) rfl) ?_
   refine OpsQ.yes (Want.plain rfl) rfl (OpR.pure rfl) ?_
   refine OpsQ.yes (Want.plain rfl) rfl (OpR.pure rfl) ?_
   refine OpsQ.yes (Want.bool rfl rfl rfl rfl (by rw [(beq_iff_eq.2 c7)]; rfl)) rfl (OpR.pure rfl) ?_
   refine OpsQ.yes (Want.bool rfl rfl rfl rfl (by rw [(beq_iff_eq.2 c7)]; rfl)) rfl (OpR.cast (OpR.pure rfl) (intE (lenM _ _))) ?_
   refine OpsQ.yes (Want.bool rfl rfl rfl rfl (by rw [(beq_iff_eq.2 c7)]; rfl)) rfl (OpR.pure rfl) ?_
   refine OpsQ.yes (Want.plain rfl) rfl (OpR.pickT rfl (beq_iff_eq.2 c7) rfl) ?_
   refine OpsQ.yes (Want.plain rfl) rfl (OpR.pure rfl) ?_
   refine OpsQ.yes (Want.bool rfl rfl rfl rfl (by rw [(beq_iff_eq.2 c8)]; rfl)) rfl (OpR.pure rfl) ?_
   refine OpsQ.yes (Want.bool rfl rfl rfl rfl (by rw [(beq_iff_eq.2 c8)]; rfl)) rfl (OpR.indexM e_arena_Span hx9 rfl rfl rfl rfl rfl) ?_
   refine OpsQ.yes (Want.bool rfl rfl rfl rfl (by rw [(beq_iff_eq.2 c8)]; rfl)) rfl (OpR.pure rfl) ?_
   refine OpsQ.yes (Want.bool rfl rfl rfl rfl (by rw [(beq_iff_eq.2 c8)]; rfl)) rfl (OpR.build rfl rfl rfl rfl rfl) ?_
   refine OpsQ.yes (Want.bool rfl rfl rfl rfl (by rw [(beq_iff_eq.2 c8)]; rfl)) rfl (OpR.cast (OpR.eqStruct rfl rfl rfl rfl rfl (by kernel_rfl) (by kernel_rfl)) (boolE (beq_arena_Span x9 (⟨0, 5⟩ : arena_Span)))) ?_
   refine OpsQ.yes (Want.plain rfl) rfl (OpR.pickT rfl (beq_iff_eq.2 c8) rfl) ?_
   refine OpsQ.yes (Want.plain rfl) rfl (OpR.pure rfl) ?_
   refine OpsQ.no (Want.bool rfl rfl rfl rfl (by rw [(beq_eq_false_iff_ne.2 c10)]; rfl)) rfl ?_
   refine OpsQ.no (Want.bool rfl rfl rfl rfl (by rw [(beq_eq_false_iff_ne.2 c10)]; rfl)) rfl ?_
   refine OpsQ.no (Want.bool rfl rfl rfl rfl (by rw [(beq_eq_false_iff_ne.2 c10)]; rfl)) rfl ?_
   refine OpsQ.no (Want.bool rfl rfl rfl rfl (by rw [(beq_eq_false_iff_ne.2 c10)]; rfl)) rfl ?_
   refine OpsQ.no (Want.bool rfl rfl rfl rfl (by rw [(beq_eq_false_iff_ne.2 c10)]; rfl)) rfl ?_
   refine OpsQ.yes (Want.plain rfl) rfl (OpR.pickF rfl (beq_eq_false_iff_ne.2 c10) rfl) ?_
   refine OpsQ.yes (Want.plain rfl) rfl (OpR.pure rfl) ?_
   refine OpsQ.no (Want.bool rfl rfl rfl rfl rfl) rfl ?_
   refine OpsQ.no (Want.bool rfl rfl rfl rfl rfl) rfl ?_
   refine OpsQ.no (Want.bool rfl rfl rfl rfl rfl) rfl ?_
   refine OpsQ.no (Want.bool rfl rfl rfl rfl rfl) rfl ?_
   refine OpsQ.yes (Want.plain rfl) rfl (OpR.pickF rfl rfl rfl) ?_
   refine OpsQ.yes (Want.plain rfl) rfl (OpR.pure rfl) ?_
   exact OpsQ.nil
 obtain ⟨x11, hx11, ht4⟩ := bnd_some ht4
 obtain ⟨x12, hx12, ht4⟩ := bnd_some ht4
 rcases ite_some ht4 with ⟨c13, ht4⟩ | ⟨c13, ht4⟩
 rotate_left
 · refine T.drawQ drawsX [.agg [.sl 2 (List.map e_arena_Span x1.fL), .val (.int .i64 x1.fN)], .val (.int .i64 x6), .val (.bool (x6 == 5)), .val (.bool (x6 == 5)), .sl 2 (List.map e_arena_Span x3), .val (.int .i64 (x3.length : Int)), .val (.bool ((x3.length : Int) == 1)), .val (.bool ((x3.length : Int) == 1)), .val (.bool ((x3.length : Int) == 1)), .sl 2 (List.map e_arena_Span x3), .nod [.val (.int .i64 x9.fAt), .val (.int .i64 x9.fN)], .agg [.val (.int .i64 x9.fAt), .val (.int .i64 x9.fN)], .agg [.val (.int .i64 0), .val (.int .i64 5)], .val (.bool (x9 == (⟨0, 5⟩ : arena_Span))), .val (.bool (x9 == (⟨0, 5⟩ : arena_Span))), .val (.bool (x9 == (⟨0, 5⟩ : arena_Span))), .agg [.sl 2 (List.map e_arena_Span x1.fL), .val (.int .i64 x1.fN)], .agg [.val (.int .i64 0), .val (.int .i64 5)], .sl 2 (List.map e_arena_Span [(⟨0, 5⟩ : arena_Span)]), .agg [.sl 2 (List.map e_arena_Span x11.fL), .val (.int .i64 x11.fN)], .val (.bool x12), .val (.bool x12), .val (.bool x12), .tup [], .tup [], .tup [], .tup [], .val (.bool false), .val (.bool false)] [0, 1, 2, 3, 4, 5, 6, 7, 8, 9, 10, 11, 12, 13, 14, 15, 16, 17, 18, 19, 20, 21, 22, 23, 24, 25, 26, 27, 28, 29, 30, 31, 32, 33, 34, 35, 36] (by decide +kernel) rfl ?_ rfl ?_
   rotate_left
   · obtain rfl := Option.some.inj ht4
     exact ⟨_, Gst.trans (Gst.only [0] rfl) (Gst.pick [] rfl rfl), rfl⟩
   refine OpsQ.yes (Want.plain rfl) rfl (OpR.loadPtr 0 rfl rfl rfl rfl) ?_
   refine OpsQ.yes (Want.plain rfl) rfl (OpR.call0 fn38 (piece_Text_Len_c hx6) rfl) ?_
   refine OpsQ.yes (Want.plain rfl) rfl (OpR.pure rfl) ?_
   refine OpsQ.yes (Want.plain rfl) rfl (OpR.pure rfl) ?_
   refine OpsQ.yes (Want.bool rfl rfl rfl rfl (by rw [(beq_iff_eq.2 c7)]; rfl)) rfl (OpR.pure rfl) ?_
   refine OpsQ.yes (Want.bool rfl rfl rfl rfl (by rw [(beq_iff_eq.2 c7)]; rfl)) rfl (OpR.cast (OpR.pure rfl) (intE (lenM _ _))) ?_
   refine OpsQ.yes (Want.bool rfl rfl rfl rfl (by rw [(beq_iff_eq.2 c7)]; rfl)) rfl (OpR.pure rfl) ?_
   refine OpsQ.yes (Want.plain rfl) rfl (OpR.pickT rfl (beq_iff_eq.2 c7) rfl) ?_
   refine OpsQ.yes (Want.plain rfl) rfl (OpR.pure rfl) ?_
   refine OpsQ.yes (Want.bool rfl rfl rfl rfl (by rw [(beq_iff_eq.2 c8)]; rfl)) rfl (OpR.pure rfl) ?_
   refine OpsQ.yes (Want.bool rfl rfl rfl rfl (by rw [(beq_iff_eq.2 c8)]; rfl)) rfl (OpR.indexM e_arena_Span hx9 rfl rfl rfl rfl rfl) ?_
   refine OpsQ.yes (Want.bool rfl rfl rfl rfl (by rw [(beq_iff_eq.2 c8)]; rfl)) rfl (OpR.pure rfl) ?_
   refine OpsQ.yes (Want.bool rfl rfl rfl rfl (by rw [(beq_iff_eq.2 c8)]; rfl)) rfl (OpR.build rfl rfl rfl rfl rfl) ?_
   refine OpsQ.yes (Want.bool rfl rfl rfl rfl (by rw [(beq_iff_eq.2 c8)]; rfl)) rfl (OpR.cast (OpR.eqStruct rfl rfl rfl rfl rfl (by kernel_rfl) (by kernel_rfl)) (boolE (beq_arena_Span x9 (⟨0, 5⟩ : arena_Span)))) ?_
   refine OpsQ.yes (Want.plain rfl) rfl (OpR.pickT rfl (beq_iff_eq.2 c8) rfl) ?_
   refine OpsQ.yes (Want.plain rfl) rfl (OpR.pure rfl) ?_
   refine OpsQ.yes (Want.bool rfl rfl rfl rfl (by rw [(beq_iff_eq.2 c10)]; rfl)) rfl (OpR.loadPtr 0 rfl rfl rfl rfl) ?_
   refine OpsQ.yes (Want.bool rfl rfl rfl rfl (by rw [(beq_iff_eq.2 c10)]; rfl)) rfl (OpR.build rfl rfl rfl rfl rfl) ?_
   refine OpsQ.yes (Want.bool rfl rfl rfl rfl (by rw [(beq_iff_eq.2 c10)]; rfl)) rfl (OpR.lit rfl rfl rfl rfl rfl rfl rfl) ?_
   refine OpsQ.yes (Want.bool rfl rfl rfl rfl (by rw [(beq_iff_eq.2 c10)]; rfl)) rfl (OpR.call0 fn57 (piece_Of_c_2 hx11) rfl) ?_
   refine OpsQ.yes (Want.bool rfl rfl rfl rfl (by rw [(beq_iff_eq.2 c10)]; rfl)) rfl (OpR.call0 fn36 (piece_Same_c hx12) rfl) ?_
   refine OpsQ.yes (Want.plain rfl) rfl (OpR.pickT rfl (beq_iff_eq.2 c10) rfl) ?_
   refine OpsQ.yes (Want.plain rfl) rfl (OpR.pure rfl) ?_
   refine OpsQ.no (Want.bool rfl rfl rfl rfl (by rw [(eq_false_of_ne_true c13)]; rfl)) rfl ?_
   refine OpsQ.no (Want.bool rfl rfl rfl rfl (by rw [(eq_false_of_ne_true c13)]; rfl)) rfl ?_
   refine OpsQ.no (Want.bool rfl rfl rfl rfl (by rw [(eq_false_of_ne_true c13)]; rfl)) rfl ?_
   refine OpsQ.no (Want.bool rfl rfl rfl rfl (by rw [(eq_false_of_ne_true c13)]; rfl)) rfl ?_
   refine OpsQ.yes (Want.plain rfl) rfl (OpR.pickF rfl (eq_false_of_ne_true c13) rfl) ?_
   refine OpsQ.yes (Want.plain rfl) rfl (OpR.pure rfl) ?_
   exact OpsQ.nil
 obtain ⟨x14, hx14, ht4⟩ := bnd_some ht4
 obtain ⟨x15, hx15, ht4⟩ := bnd_some ht4
 refine T.drawQ drawsX [.agg [.sl 2 (List.map e_arena_Span x1.fL), .val (.int .i64 x1.fN)], .val (.int .i64 x6), .val (.bool (x6 == 5)), .val (.bool (x6 == 5)), .sl 2 (List.map e_arena_Span x3), .val (.int .i64 (x3.length : Int)), .val (.bool ((x3.length : Int) == 1)), .val (.bool ((x3.length : Int) == 1)), .val (.bool ((x3.length : Int) == 1)), .sl 2 (List.map e_arena_Span x3), .nod [.val (.int .i64 x9.fAt), .val (.int .i64 x9.fN)], .agg [.val (.int .i64 x9.fAt), .val (.int .i64 x9.fN)], .agg [.val (.int .i64 0), .val (.int .i64 5)], .val (.bool (x9 == (⟨0, 5⟩ : arena_Span))), .val (.bool (x9 == (⟨0, 5⟩ : arena_Span))), .val (.bool (x9 == (⟨0, 5⟩ : arena_Span))), .agg [.sl 2 (List.map e_arena_Span x1.fL), .val (.int .i64 x1.fN)], .agg [.val (.int .i64 0), .val (.int .i64 5)], .sl 2 (List.map e_arena_Span [(⟨0, 5⟩ : arena_Span)]), .agg [.sl 2 (List.map e_arena_Span x11.fL), .val (.int .i64 x11.fN)], .val (.bool x12), .val (.bool x12), .val (.bool x12), .agg [.sl 2 (List.map e_arena_Span x1.fL), .val (.int .i64 x1.fN)], .agg [.sl 2 (List.map e_arena_Span x14.fL), .val (.int .i64 x14.fN)], .val (.int .i64 x15), .val (.bool (x15 == 3)), .val (.bool (x15 == 3)), .val (.bool (x15 == 3))] [0, 1, 2, 3, 4, 5, 6, 7, 8, 9, 10, 11, 12, 13, 14, 15, 16, 17, 18, 19, 20, 21, 22, 23, 24, 25, 26, 27, 28, 29, 30, 31, 32, 33, 34, 35, 36] (by decide +kernel) rfl ?_ rfl ?_
 rotate_left
 · obtain rfl := Option.some.inj ht4
   exact ⟨_, Gst.trans (Gst.only [0] rfl) (Gst.pick [] rfl rfl), rfl⟩
 refine OpsQ.yes (Want.plain rfl) rfl (OpR.loadPtr 0 rfl rfl rfl rfl) ?_
 refine OpsQ.yes (Want.plain rfl) rfl (OpR.call0 fn38 (piece_Text_Len_c hx6) rfl) ?_
 refine OpsQ.yes (Want.plain rfl) rfl (OpR.pure rfl) ?_
 refine OpsQ.yes (Want.plain rfl) rfl (OpR.pure rfl) ?_
 refine OpsQ.yes (Want.bool rfl rfl rfl rfl (by rw [(beq_iff_eq.2 c7)]; rfl)) rfl (OpR.pure rfl) ?_
 refine OpsQ.yes (Want.bool rfl rfl rfl rfl (by rw [(beq_iff_eq.2 c7)]; rfl)) rfl (OpR.cast (OpR.pure rfl) (intE (lenM _ _))) ?_
 refine OpsQ.yes (Want.bool rfl rfl rfl rfl (by rw [(beq_iff_eq.2 c7)]; rfl)) rfl (OpR.pure rfl) ?_
 refine OpsQ.yes (Want.plain rfl) rfl (OpR.pickT rfl (beq_iff_eq.2 c7) rfl) ?_
 refine OpsQ.yes (Want.plain rfl) rfl (OpR.pure rfl) ?_
 refine OpsQ.yes (Want.bool rfl rfl rfl rfl (by rw [(beq_iff_eq.2 c8)]; rfl)) rfl (OpR.pure rfl) ?_
 refine OpsQ.yes (Want.bool rfl rfl rfl rfl (by rw [(beq_iff_eq.2 c8)]; rfl)) rfl (OpR.indexM e_arena_Span hx9 rfl rfl rfl rfl rfl) ?_
 refine OpsQ.yes (Want.bool rfl rfl rfl rfl (by rw [(beq_iff_eq.2 c8)]; rfl)) rfl (OpR.pure rfl) ?_
 refine OpsQ.yes (Want.bool rfl rfl rfl rfl (by rw [(beq_iff_eq.2 c8)]; rfl)) rfl (OpR.build rfl rfl rfl rfl rfl) ?_
 refine OpsQ.yes (Want.bool rfl rfl rfl rfl (by rw [(beq_iff_eq.2 c8)]; rfl)) rfl (OpR.cast (OpR.eqStruct rfl rfl rfl rfl rfl (by kernel_rfl) (by kernel_rfl)) (boolE (beq_arena_Span x9 (⟨0, 5⟩ : arena_Span)))) ?_
 refine OpsQ.yes (Want.plain rfl) rfl (OpR.pickT rfl (beq_iff_eq.2 c8) rfl) ?_
 refine OpsQ.yes (Want.plain rfl) rfl (OpR.pure rfl) ?_
 refine OpsQ.yes (Want.bool rfl rfl rfl rfl (by rw [(beq_iff_eq.2 c10)]; rfl)) rfl (OpR.loadPtr 0 rfl rfl rfl rfl) ?_
 refine OpsQ.yes (Want.bool rfl rfl rfl rfl (by rw [(beq_iff_eq.2 c10)]; rfl)) rfl (OpR.build rfl rfl rfl rfl rfl) ?_
 refine OpsQ.yes (Want.bool rfl rfl rfl rfl (by rw [(beq_iff_eq.2 c10)]; rfl)) rfl (OpR.lit rfl rfl rfl rfl rfl rfl rfl) ?_
 refine OpsQ.yes (Want.bool rfl rfl rfl rfl (by rw [(beq_iff_eq.2 c10)]; rfl)) rfl (OpR.call0 fn57 (piece_Of_c_2 hx11) rfl) ?_
 refine OpsQ.yes (Want.bool rfl rfl rfl rfl (by rw [(beq_iff_eq.2 c10)]; rfl)) rfl (OpR.call0 fn36 (piece_Same_c hx12) rfl) ?_
 refine OpsQ.yes (Want.plain rfl) rfl (OpR.pickT rfl (beq_iff_eq.2 c10) rfl) ?_
 refine OpsQ.yes (Want.plain rfl) rfl (OpR.pure rfl) ?_
 refine OpsQ.yes (Want.bool rfl rfl rfl rfl (by rw [(c13)]; rfl)) rfl (OpR.loadPtr 0 rfl rfl rfl rfl) ?_
 refine OpsQ.yes (Want.bool rfl rfl rfl rfl (by rw [(c13)]; rfl)) rfl (OpR.call0 fn70 (piece_Text_Delete_c hx14) rfl) ?_
 refine OpsQ.yes (Want.bool rfl rfl rfl rfl (by rw [(c13)]; rfl)) rfl (OpR.call0 fn38 (piece_Text_Len_c hx15) rfl) ?_
 refine OpsQ.yes (Want.bool rfl rfl rfl rfl (by rw [(c13)]; rfl)) rfl (OpR.pure rfl) ?_
 refine OpsQ.yes (Want.plain rfl) rfl (OpR.pickT rfl (c13) rfl) ?_
 refine OpsQ.yes (Want.plain rfl) rfl (OpR.pure rfl) ?_
 exact OpsQ.nil
noncomputable def ref04_Flat.l1 (a0 : List Int) (a1 : List UInt8) (s2 : (List UInt8) × Int) : Option (Lp ((List UInt8) × Int) (List UInt8)) :=
  if s2.2 < (a0.length : Int) then
    bnd (idx a0 s2.2) fun x11 =>
    bnd (if x11 ≥ 0 then
      some (decide (x11 < (a1.length : Int)))
    else
      some false : Option Bool) fun t12 =>
    bnd (if t12 = true then
      bnd (cut a1 x11 (w64 (x11 + 1))) fun x16 =>
      bnd (catS s2.1 x16) fun x17 =>
      some x17
    else
      some s2.1 : Option (List UInt8)) fun t14 =>
    some (Lp.next (t14, w64 (s2.2 + 1)))
  else
    some (Lp.done s2.1)
noncomputable def ref04_Flat (a0 : List Int) (a1 : List UInt8) : Option (List UInt8) :=
  bnd (loop (ref04_Flat.l1 a0 a1) ([], 0) : Option (List UInt8)) fun t1 =>
  some t1
set_option maxHeartbeats 4000000 in
theorem ref04_Flat_c {a0 : List Int} {a1 : List UInt8} {res : (List UInt8)} (h0 : ref04_Flat a0 a1 = some res) : CallF X 41 [.sl 1 (List.map (eI .i64) a0), .val (.string (bs a1))] [] (fun x => .val (.string (bs res))) (fun x => []) := by
 unfold ref04_Flat at h0
 refine CallF.mkG (X := X) Try.func41 rfl rfl Try.ntmps41 rfl rfl ?_
 refine T.seq ?_
 refine T.region ?_
 refine TL.op1 (OpR.pure rfl) rfl ?_
 refine TL.nil ?_
 show T X _ _ _
 refine T.seq ?_
 refine T.region ?_
 refine TL.op1 (OpR.pure rfl) rfl ?_
 refine TL.nil ?_
 show T X _ _ _
 refine T.seq ?_
 refine T.seq ?_
 refine T.region ?_
 refine TL.op1 (OpR.pure rfl) rfl ?_
 refine TL.op1 (OpR.cast (OpR.pure rfl) (intE (lenM _ _))) rfl ?_
 refine TL.op1 (OpR.pure rfl) rfl ?_
 refine TL.nil ?_
 show T X _ _ _
 obtain ⟨t1, ht1, h0⟩ := bnd_some h0
 refine T.cutC (fun S' => S' = ⟨[(5, .val (.string (bs t1))), (4, .val (.string (bs [])))], [], 31⟩) (fun _ h => h) ?_ ?_
 rotate_left
 · rintro _ rfl
   show T X _ _ _
   refine T.seq ?_
   refine T.region ?_
   refine TL.op1 (OpR.pure rfl) rfl ?_
   refine TL.op1 (OpR.pure rfl) rfl ?_
   refine TL.nil ?_
   show T X _ _ _
   refine T.ret ?_
   obtain rfl := Option.some.inj h0
   exact PostG.retP (ks := []) (Gst.only [4] rfl) undef (ResL.cons (ResV.tmp rfl) ResL.nil) rfl rfl rfl rfl
 refine T.block ?_
 obtain ⟨n3, n8⟩ := loop_some ht1
 refine T.loop (fun n S' => ∃ S'', Gst S' S'' ∧ ∃ s2 : (List UInt8) × Int, S'' = ⟨[(10, .val (.int .i64 s2.2)), (9, .val (.int .i64 (a0.length : Int))), (8, .sl 1 (List.map (eI .i64) a0)), (5, .val (.string (bs s2.1))), (4, .val (.string (bs []))), (1, .val (.string (bs a1)))], [], 31⟩ ∧ iter (ref04_Flat.l1 a0 a1) n s2 = some t1) n3 ?_ ?_
 · exact ⟨_, Gst.only [1, 4, 5, 8, 9, 10] rfl, ([], 0), rfl, n8⟩
 rintro n3 _ ⟨_, g, s2, rfl, i7⟩
 refine T.ghost g ?_
 obtain ⟨m4, q5, rfl, q6, i7⟩ := iter_succ i7
 unfold ref04_Flat.l1 at q6
 refine T.seq ?_
 refine T.region ?_
 refine TL.op1 (OpR.pure rfl) rfl ?_
 refine TL.nil ?_
 show T X _ _ _
 refine T.seq ?_
 rcases ite_some q6 with ⟨c10, q6⟩ | ⟨c10, q6⟩
 rotate_left
 · refine T.condF rfl (decide_eq_false c10) ?_
   refine T.exit ?_
   obtain rfl := Option.some.inj q6
   obtain rfl : _ = _ := i7
   exact ⟨_, Gst.only [4, 5] rfl, rfl⟩
 refine T.condT rfl (decide_eq_true c10) ?_
 refine T.skip ?_
 show T X _ _ _
 refine T.seq ?_
 refine T.block ?_
 refine T.seq ?_
 refine T.region ?_
 obtain ⟨x11, hx11, q6⟩ := bnd_some q6
 refine TL.op1 (OpR.indexM (eI .i64) hx11 rfl rfl rfl rfl rfl) rfl ?_
 refine TL.op1 (OpR.pure rfl) rfl ?_
 refine TL.op1 (OpR.pure rfl) rfl ?_
 refine TL.nil ?_
 show T X _ _ _
 refine T.seq ?_
 obtain ⟨t12, ht12, q6⟩ := bnd_some q6
 refine T.cutC (fun S' => S' = ⟨[(21, .val (.bool t12)), (10, .val (.int .i64 s2.2)), (9, .val (.int .i64 (a0.length : Int))), (8, .sl 1 (List.map (eI .i64) a0)), (7, .val (.int .i64 x11)), (5, .val (.string (bs s2.1))), (4, .val (.string (bs []))), (1, .val (.string (bs a1)))], [], 31⟩) (fun _ h => h) ?_ ?_
 · refine T.region ?_
   refine TL.op1 (OpR.pure rfl) rfl ?_
   refine TL.op1 (OpR.pure rfl) rfl ?_
   refine TL.op1 (OpR.pure rfl) rfl ?_
   rcases ite_some ht12 with ⟨c13, ht12⟩ | ⟨c13, ht12⟩
   rotate_left
   · refine TL.off rfl rfl rfl rfl (decide_eq_false c13) rfl rfl ?_
     refine TL.off rfl rfl rfl rfl (decide_eq_false c13) rfl rfl ?_
     refine TL.off rfl rfl rfl rfl (decide_eq_false c13) rfl rfl ?_
     refine TL.off rfl rfl rfl rfl (decide_eq_false c13) rfl rfl ?_
     refine TL.op1 (OpR.pickF rfl (decide_eq_false c13) rfl) rfl ?_
     refine TL.nil ?_
     obtain rfl := Option.some.inj ht12
     exact ⟨_, Gst.only [1, 4, 5, 7, 8, 9, 10, 21] rfl, rfl⟩
   refine TL.on rfl rfl rfl rfl (decide_eq_true c13) ?_
   refine TL.op1 (OpR.pure rfl) rfl ?_
   refine TL.on rfl rfl rfl rfl (decide_eq_true c13) ?_
   refine TL.op1 (OpR.pure rfl) rfl ?_
   refine TL.on rfl rfl rfl rfl (decide_eq_true c13) ?_
   refine TL.op1 (OpR.cast (OpR.pure rfl) (intE (lenS _))) rfl ?_
   refine TL.on rfl rfl rfl rfl (decide_eq_true c13) ?_
   refine TL.op1 (OpR.pure rfl) rfl ?_
   refine TL.op1 (OpR.pickT rfl (decide_eq_true c13) rfl) rfl ?_
   refine TL.nil ?_
   obtain rfl := Option.some.inj ht12
   exact ⟨_, Gst.only [1, 4, 5, 7, 8, 9, 10, 21] rfl, rfl⟩
 rintro _ rfl
 show T X _ _ _
 obtain ⟨t14, ht14, q6⟩ := bnd_some q6
 refine T.cutC (fun S' => S' = ⟨[(10, .val (.int .i64 s2.2)), (9, .val (.int .i64 (a0.length : Int))), (8, .sl 1 (List.map (eI .i64) a0)), (5, .val (.string (bs t14))), (4, .val (.string (bs []))), (1, .val (.string (bs a1)))], [], 31⟩) (fun _ h => h) ?_ ?_
 rotate_left
 · rintro _ rfl
   show T X _ _ _
   refine T.region ?_
   refine TL.op1 (OpR.pure rfl) rfl ?_
   refine TL.op1 (OpR.pure rfl) rfl ?_
   refine TL.nil ?_
   obtain rfl := Option.some.inj q6
   exact ⟨m4, Nat.lt_succ_self _, _, Gst.only [1, 4, 5, 8, 9, 10] rfl, (t14, w64 (s2.2 + 1)), rfl, i7⟩
 rcases ite_some ht14 with ⟨c15, ht14⟩ | ⟨c15, ht14⟩
 rotate_left
 · refine T.condF rfl (eq_false_of_ne_true c15) ?_
   refine T.skip ?_
   obtain rfl := Option.some.inj ht14
   exact ⟨_, Gst.only [1, 4, 5, 8, 9, 10] rfl, rfl⟩
 refine T.condT rfl (c15) ?_
 refine T.region ?_
 refine TL.op1 (OpR.pure rfl) rfl ?_
 refine TL.op1 (OpR.pure rfl) rfl ?_
 refine TL.op1 (OpR.pure rfl) rfl ?_
 refine TL.op1 (OpR.pure rfl) rfl ?_
 refine TL.op1 (OpR.pure rfl) rfl ?_
 obtain ⟨x16, hx16, ht14⟩ := bnd_some ht14
 refine TL.op1 (OpR.sliceS hx16 rfl rfl rfl (BdM.some rfl) (BdM.some rfl)) rfl ?_
 obtain ⟨x17, hx17, ht14⟩ := bnd_some ht14
 refine TL.op1 (OpR.concatM hx17 rfl rfl) rfl ?_
 refine TL.op1 (OpR.pure rfl) rfl ?_
 refine TL.nil ?_
 obtain rfl := Option.some.inj ht14
 exact ⟨_, Gst.only [1, 4, 5, 8, 9, 10] rfl, rfl⟩
noncomputable def law04_PieceTidy (a0 : List UInt8) (a1 : List arena_Span) (a2 : Int) : Option Bool :=
  bnd (law04_within a0 a1) fun x1 =>
  match x1 with
  | .inl x1 =>
      some false
  | .inr x1 =>
      bnd (mkz 1 (rem (w64 a2) 16499) (0 : UInt8)) fun x5 =>
      bnd (arena_Arena_Add x5 x1.2.2) fun x7 =>
      bnd (arena_Arena_Len x7.2.2) fun x9 =>
      bnd (piece_Text_Tidy x1.1 x7.2.2) fun x10 =>
      bnd (ref04_Spans x1.2.1) fun x13 =>
      if (x13.length : Int) ≤ 32 then
        bnd (bnd (piece_Same x1.1 x10.1) fun x16 =>
        if x16 = true then
          if x10.2.1 = 0 then
            bnd (arena_Arena_Len x10.2.2) fun x19 =>
            if x19 = x9 then
              bnd (law04_awake) fun x21 =>
              some x21
            else
              some false
          else
            some false
        else
          some false : Option Bool) fun t15 =>
        some t15
      else
        if x10.2.1 = 0 then
          bnd (bnd (piece_Text_Spans x10.1) fun x25 =>
          if (x25.length : Int) = 1 then
            bnd (piece_Text_Flat x10.1 x10.2.2) fun x27 =>
            bnd (ref04_Flat x1.2.1 a0) fun x28 =>
            if x27 = x28 then
              bnd (law04_awake) fun x30 =>
              some x30
            else
              some false
          else
            some false : Option Bool) fun t23 =>
          some t23
        else
          bnd (if x10.2.1 = 6 then
            bnd (piece_Text_Len x10.1) fun x33 =>
            if x33 = 0 then
              if (w64 (x9 + (x1.2.1.length : Int))) > 16384 then
                bnd (arena_Arena_Len x10.2.2) fun x36 =>
                if x36 = x9 then
                  bnd (law04_awake) fun x38 =>
                  some x38
                else
                  some false
              else
                some false
            else
              some false
          else
            some false : Option Bool) fun t31 =>
          some t31
set_option maxHeartbeats 4000000 in
theorem law04_PieceTidy_c {a0 : List UInt8} {a1 : List arena_Span} {a2 : Int} {res : Bool} (h0 : law04_PieceTidy a0 a1 a2 = some res) : CallF X 8 [.val (.string (bs a0)), .sl 2 (List.map e_arena_Span a1), .val (.int .u16 a2)] [] (fun x => .val (.bool res)) (fun x => []) := by
 unfold law04_PieceTidy at h0
 refine CallF.mkG (X := X) Try.func8 rfl rfl Try.ntmps8 rfl rfl ?_
 refine T.seq ?_
 refine T.region ?_
 refine TL.op1 (OpR.pure rfl) rfl ?_
 refine TL.nil ?_
 show T X _ _ _
 refine T.seq ?_
 refine T.region ?_
 refine TL.op1 (OpR.pure rfl) rfl ?_
 refine TL.op1 (OpR.pure rfl) rfl ?_
 obtain ⟨x1, hx1, h0⟩ := bnd_some h0
 rcases x1 with x1 | x1
 · dsimp only at h0
   refine TL.op1 (OpR.call0 fn31 (law04_within_cx1 hx1) rfl) rfl ?_
   refine TL.op1 (OpR.pure rfl) rfl ?_
   refine TL.op1 (OpR.pure rfl) rfl ?_
   refine TL.op1 (OpR.pure rfl) rfl ?_
   refine TL.op1 (OpR.pure rfl) rfl ?_
   refine TL.op (OpR.alloc rfl rfl (fun _ => rfl)) rfl (fun p3 => ?_)
   refine TL.op1 (OpR.pure rfl) rfl ?_
   refine TL.op0 (OpR.store 0 rfl rfl rfl rfl rfl rfl rfl rfl) ?_
   refine TL.op1 (OpR.pure rfl) rfl ?_
   refine TL.nil ?_
   show T X _ _ _
   refine T.seq ?_
   refine T.seq ?_
   refine T.region ?_
   refine TL.op1 (OpR.pure rfl) rfl ?_
   refine TL.op1 (OpR.ptrNil rfl rfl rfl) rfl ?_
   refine TL.nil ?_
   show T X _ _ _
   refine T.condT rfl rfl ?_
   refine T.seq ?_
   refine T.region ?_
   refine TL.op1 (OpR.pure rfl) rfl ?_
   refine TL.nil ?_
   show T X _ _ _
   refine T.ret ?_
   obtain rfl := Option.some.inj h0
   exact PostG.retP (ks := []) (Gst.trans (Gst.only [6] rfl) (Gst.pick [] rfl rfl)) undef (ResL.cons (ResV.tmp rfl) ResL.nil) rfl rfl rfl rfl
 dsimp only at h0
 refine TL.op (OpR.call [] fn31 (law04_within_cx2 hx1) rfl rfl rfl (fun _ => rfl)) rfl (fun w2 => ?_)
 refine TL.op1 (OpR.pure rfl) rfl ?_
 refine TL.op1 (OpR.pure rfl) rfl ?_
 refine TL.op1 (OpR.pure rfl) rfl ?_
 refine TL.op1 (OpR.pure rfl) rfl ?_
 refine TL.op (OpR.alloc rfl rfl (fun _ => rfl)) rfl (fun p4 => ?_)
 refine TL.op1 (OpR.pure rfl) rfl ?_
 refine TL.op0 (OpR.store 2 rfl rfl rfl rfl rfl rfl rfl rfl) ?_
 refine TL.op1 (OpR.pure rfl) rfl ?_
 refine TL.nil ?_
 show T X _ _ _
 refine T.seq ?_
 refine T.seq ?_
 refine T.region ?_
 refine TL.op1 (OpR.pure rfl) rfl ?_
 refine TL.op1 (OpR.ptrNil rfl rfl rfl) rfl ?_
 refine TL.nil ?_
 show T X _ _ _
 refine T.condF rfl rfl ?_
 refine T.skip ?_
 show T X _ _ _
 refine T.seq ?_
 refine T.region ?_
 refine TL.op1 (OpR.pure rfl) rfl ?_
 refine TL.op1 (OpR.pure rfl) rfl ?_
 refine TL.op1 (OpR.pure rfl) rfl ?_
 refine TL.op1 (OpR.pure rfl) rfl ?_
 obtain ⟨x5, hx5, h0⟩ := bnd_some h0
 refine TL.op (OpR.makeM byteD hx5 rfl rfl rfl rfl rfl rfl rfl rfl rfl rfl rfl (fun _ => rfl)) rfl (fun v6 => ?_)
 obtain ⟨x7, hx7, h0⟩ := bnd_some h0
 refine TL.op (OpR.call [0, 3, 1] fn32 (arena_Arena_Add_c hx7) rfl rfl rfl (fun _ => rfl)) rfl (fun w8 => ?_)
 refine TL.nil ?_
 show T X _ _ _
 refine T.seq ?_
 refine T.region ?_
 refine TL.op1 (OpR.pure rfl) rfl ?_
 obtain ⟨x9, hx9, h0⟩ := bnd_some h0
 refine TL.op1 (OpR.call [0, 1] fn33 (arena_Arena_Len_c hx9) rfl rfl rfl (fun _ => rfl)) rfl ?_
 refine TL.op1 (OpR.pure rfl) rfl ?_
 refine TL.nil ?_
 show T X _ _ _
 refine T.seq ?_
 refine T.region ?_
 refine TL.op1 (OpR.loadPtr 2 rfl rfl rfl rfl) rfl ?_
 refine TL.op1 (OpR.pure rfl) rfl ?_
 obtain ⟨x10, hx10, h0⟩ := bnd_some h0
 refine TL.op (OpR.call [0, 1] fn34 (piece_Text_Tidy_c hx10) rfl rfl rfl (fun _ => rfl)) rfl (fun w11 => ?_)
 refine TL.op1 (OpR.pure rfl) rfl ?_
 refine TL.op1 (OpR.pure rfl) rfl ?_
 refine TL.op1 (OpR.pure rfl) rfl ?_
 refine TL.op (OpR.alloc rfl rfl (fun _ => rfl)) rfl (fun p12 => ?_)
 refine TL.op0 (OpR.store 4 rfl rfl rfl rfl rfl rfl rfl rfl) ?_
 refine TL.op1 (OpR.pure rfl) rfl ?_
 refine TL.nil ?_
 show T X _ _ _
 refine T.seq ?_
 refine T.seq ?_
 refine T.region ?_
 refine TL.op1 (OpR.pure rfl) rfl ?_
 obtain ⟨x13, hx13, h0⟩ := bnd_some h0
 refine TL.op1 (OpR.call0 fn35 (ref04_Spans_c hx13) rfl) rfl ?_
 refine TL.op1 (OpR.cast (OpR.pure rfl) (intE (lenM _ _))) rfl ?_
 refine TL.op1 (OpR.pure rfl) rfl ?_
 refine TL.nil ?_
 show T X _ _ _
 rcases ite_some h0 with ⟨c14, h0⟩ | ⟨c14, h0⟩
 · refine T.condT rfl (decide_eq_true c14) ?_
   refine T.seq ?_
   obtain ⟨t15, ht15, h0⟩ := bnd_some h0
   refine T.cutC (fun S' => S' = ⟨[(12, .val (.int .i64 x10.2.1)), (11, .val (.pointer (some ⟨(blk p12), 0, none⟩))), (10, .val (.int .i64 x9)), (9, .sl 1 (List.map (eI .i64) x1.2.1)), (7, .val (.pointer (some ⟨(blk (vn w2 0)), 0, none⟩))), (6, .val (.bool t15)), (0, .val (.string (bs a0)))], [.var (blk (vn w2 0)) [.val (vn w11 0)] 127, .var (blk p12) [.sl 2 (List.map e_arena_Span x10.1.fL), .val (.int .i64 x10.1.fN)] 59, .row (vn w11 0) (List.map byteD x10.2.2) 1 5], 98⟩) (fun _ h => h) ?_ ?_
   rotate_left
   · rintro _ rfl
     show T X _ _ _
     refine T.ret ?_
     obtain rfl := Option.some.inj h0
     exact PostG.retP (ks := []) (Gst.trans (Gst.only [6] rfl) (Gst.pick [] rfl rfl)) undef (ResL.cons (ResV.tmp rfl) ResL.nil) rfl rfl rfl rfl
   refine T.region ?_
   refine TL.op1 (OpR.loadPtr 2 rfl rfl rfl rfl) rfl ?_
   refine TL.op1 (OpR.loadPtr 4 rfl rfl rfl rfl) rfl ?_
   obtain ⟨x16, hx16, ht15⟩ := bnd_some ht15
   refine TL.op1 (OpR.call0 fn36 (piece_Same_c hx16) rfl) rfl ?_
   refine TL.op1 (OpR.pure rfl) rfl ?_
   rcases ite_some ht15 with ⟨c17, ht15⟩ | ⟨c17, ht15⟩
   rotate_left
   · refine TL.off rfl rfl rfl rfl (eq_false_of_ne_true c17) rfl rfl ?_
     refine TL.off rfl rfl rfl rfl (eq_false_of_ne_true c17) rfl rfl ?_
     refine TL.op1 (OpR.pickF rfl (eq_false_of_ne_true c17) rfl) rfl ?_
     refine TL.op1 (OpR.pure rfl) rfl ?_
     refine TL.off rfl rfl rfl rfl rfl rfl rfl ?_
     refine TL.off rfl rfl rfl rfl rfl rfl rfl ?_
     refine TL.off rfl rfl rfl rfl rfl rfl rfl ?_
     refine TL.off rfl rfl rfl rfl rfl rfl rfl ?_
     refine TL.op1 (OpR.pickF rfl rfl rfl) rfl ?_
     refine TL.op1 (OpR.pure rfl) rfl ?_
     refine TL.off rfl rfl rfl rfl rfl rfl rfl ?_
     refine TL.op1 (OpR.pickF rfl rfl rfl) rfl ?_
     refine TL.op1 (OpR.pure rfl) rfl ?_
     refine TL.nil ?_
     obtain rfl := Option.some.inj ht15
     exact ⟨_, Gst.trans (Gst.only [0, 6, 7, 9, 10, 11, 12] rfl) (Gst.pick [0, 4, 1] rfl rfl), rfl⟩
   refine TL.on rfl rfl rfl rfl (c17) ?_
   refine TL.op1 (OpR.pure rfl) rfl ?_
   refine TL.on rfl rfl rfl rfl (c17) ?_
   refine TL.op1 (OpR.pure rfl) rfl ?_
   refine TL.op1 (OpR.pickT rfl (c17) rfl) rfl ?_
   refine TL.op1 (OpR.pure rfl) rfl ?_
   rcases ite_some ht15 with ⟨c18, ht15⟩ | ⟨c18, ht15⟩
   rotate_left
   · refine TL.off rfl rfl rfl rfl (beq_eq_false_iff_ne.2 c18) rfl rfl ?_
     refine TL.off rfl rfl rfl rfl (beq_eq_false_iff_ne.2 c18) rfl rfl ?_
     refine TL.off rfl rfl rfl rfl (beq_eq_false_iff_ne.2 c18) rfl rfl ?_
     refine TL.off rfl rfl rfl rfl (beq_eq_false_iff_ne.2 c18) rfl rfl ?_
     refine TL.op1 (OpR.pickF rfl (beq_eq_false_iff_ne.2 c18) rfl) rfl ?_
     refine TL.op1 (OpR.pure rfl) rfl ?_
     refine TL.off rfl rfl rfl rfl rfl rfl rfl ?_
     refine TL.op1 (OpR.pickF rfl rfl rfl) rfl ?_
     refine TL.op1 (OpR.pure rfl) rfl ?_
     refine TL.nil ?_
     obtain rfl := Option.some.inj ht15
     exact ⟨_, Gst.trans (Gst.only [0, 6, 7, 9, 10, 11, 12] rfl) (Gst.pick [0, 4, 1] rfl rfl), rfl⟩
   refine TL.on rfl rfl rfl rfl (beq_iff_eq.2 c18) ?_
   refine TL.op1 (OpR.pure rfl) rfl ?_
   refine TL.on rfl rfl rfl rfl (beq_iff_eq.2 c18) ?_
   obtain ⟨x19, hx19, ht15⟩ := bnd_some ht15
   refine TL.op1 (OpR.call [0, 1] fn33 (arena_Arena_Len_c hx19) rfl rfl rfl (fun _ => rfl)) rfl ?_
   refine TL.on rfl rfl rfl rfl (beq_iff_eq.2 c18) ?_
   refine TL.op1 (OpR.pure rfl) rfl ?_
   refine TL.on rfl rfl rfl rfl (beq_iff_eq.2 c18) ?_
   refine TL.op1 (OpR.pure rfl) rfl ?_
   refine TL.op1 (OpR.pickT rfl (beq_iff_eq.2 c18) rfl) rfl ?_
   refine TL.op1 (OpR.pure rfl) rfl ?_
   rcases ite_some ht15 with ⟨c20, ht15⟩ | ⟨c20, ht15⟩
   rotate_left
   · refine TL.off rfl rfl rfl rfl (beq_eq_false_iff_ne.2 c20) rfl rfl ?_
     refine TL.op1 (OpR.pickF rfl (beq_eq_false_iff_ne.2 c20) rfl) rfl ?_
     refine TL.op1 (OpR.pure rfl) rfl ?_
     refine TL.nil ?_
     obtain rfl := Option.some.inj ht15
     exact ⟨_, Gst.trans (Gst.only [0, 6, 7, 9, 10, 11, 12] rfl) (Gst.pick [0, 4, 1] rfl rfl), rfl⟩
   refine TL.on rfl rfl rfl rfl (beq_iff_eq.2 c20) ?_
   obtain ⟨x21, hx21, ht15⟩ := bnd_some ht15
   refine TL.op1 (OpR.call0 fn37 (law04_awake_c hx21) rfl) rfl ?_
   refine TL.op1 (OpR.pickT rfl (beq_iff_eq.2 c20) rfl) rfl ?_
   refine TL.op1 (OpR.pure rfl) rfl ?_
   refine TL.nil ?_
   obtain rfl := Option.some.inj ht15
   exact ⟨_, Gst.trans (Gst.only [0, 6, 7, 9, 10, 11, 12] rfl) (Gst.pick [0, 4, 1] rfl rfl), rfl⟩
 refine T.condF rfl (decide_eq_false c14) ?_
 refine T.skip ?_
 show T X _ _ _
 refine T.seq ?_
 refine T.seq ?_
 refine T.region ?_
 refine TL.op1 (OpR.pure rfl) rfl ?_
 refine TL.op1 (OpR.pure rfl) rfl ?_
 refine TL.nil ?_
 show T X _ _ _
 rcases ite_some h0 with ⟨c22, h0⟩ | ⟨c22, h0⟩
 rotate_left
 · refine T.condT rfl (not_f (beq_eq_false_iff_ne.2 c22)) ?_
   refine T.seq ?_
   obtain ⟨t31, ht31, h0⟩ := bnd_some h0
   refine T.cutC (fun S' => S' = ⟨[(11, .val (.pointer (some ⟨(blk p12), 0, none⟩))), (9, .sl 1 (List.map (eI .i64) x1.2.1)), (7, .val (.pointer (some ⟨(blk (vn w2 0)), 0, none⟩))), (6, .val (.bool t31)), (0, .val (.string (bs a0)))], [.var (blk (vn w2 0)) [.val (vn w11 0)] 127, .var (blk p12) [.sl 2 (List.map e_arena_Span x10.1.fL), .val (.int .i64 x10.1.fN)] 59, .row (vn w11 0) (List.map byteD x10.2.2) 1 5], 98⟩) (fun _ h => h) ?_ ?_
   rotate_left
   · rintro _ rfl
     show T X _ _ _
     refine T.ret ?_
     obtain rfl := Option.some.inj h0
     exact PostG.retP (ks := []) (Gst.trans (Gst.only [6] rfl) (Gst.pick [] rfl rfl)) undef (ResL.cons (ResV.tmp rfl) ResL.nil) rfl rfl rfl rfl
   refine T.region ?_
   refine TL.op1 (OpR.pure rfl) rfl ?_
   refine TL.op1 (OpR.pure rfl) rfl ?_
   refine TL.op1 (OpR.pure rfl) rfl ?_
   rcases ite_some ht31 with ⟨c32, ht31⟩ | ⟨c32, ht31⟩
   rotate_left
   · refine TL.off rfl rfl rfl rfl (beq_eq_false_iff_ne.2 c32) rfl rfl ?_
     refine TL.off rfl rfl rfl rfl (beq_eq_false_iff_ne.2 c32) rfl rfl ?_
     refine TL.off rfl rfl rfl rfl (beq_eq_false_iff_ne.2 c32) rfl rfl ?_
     refine TL.op1 (OpR.pickF rfl (beq_eq_false_iff_ne.2 c32) rfl) rfl ?_
     refine TL.op1 (OpR.pure rfl) rfl ?_
     refine TL.off rfl rfl rfl rfl rfl rfl rfl ?_
     refine TL.off rfl rfl rfl rfl rfl rfl rfl ?_
     refine TL.off rfl rfl rfl rfl rfl rfl rfl ?_
     refine TL.off rfl rfl rfl rfl rfl rfl rfl ?_
     refine TL.off rfl rfl rfl rfl rfl rfl rfl ?_
     refine TL.op1 (OpR.pickF rfl rfl rfl) rfl ?_
     refine TL.op1 (OpR.pure rfl) rfl ?_
     refine TL.off rfl rfl rfl rfl rfl rfl rfl ?_
     refine TL.off rfl rfl rfl rfl rfl rfl rfl ?_
     refine TL.off rfl rfl rfl rfl rfl rfl rfl ?_
     refine TL.off rfl rfl rfl rfl rfl rfl rfl ?_
     refine TL.op1 (OpR.pickF rfl rfl rfl) rfl ?_
     refine TL.op1 (OpR.pure rfl) rfl ?_
     refine TL.off rfl rfl rfl rfl rfl rfl rfl ?_
     refine TL.op1 (OpR.pickF rfl rfl rfl) rfl ?_
     refine TL.op1 (OpR.pure rfl) rfl ?_
     refine TL.nil ?_
     obtain rfl := Option.some.inj ht31
     exact ⟨_, Gst.trans (Gst.only [0, 6, 7, 9, 11] rfl) (Gst.pick [0, 4, 1] rfl rfl), rfl⟩
   refine TL.on rfl rfl rfl rfl (beq_iff_eq.2 c32) ?_
   refine TL.op1 (OpR.loadPtr 4 rfl rfl rfl rfl) rfl ?_
   refine TL.on rfl rfl rfl rfl (beq_iff_eq.2 c32) ?_
   obtain ⟨x33, hx33, ht31⟩ := bnd_some ht31
   refine TL.op1 (OpR.call0 fn38 (piece_Text_Len_c hx33) rfl) rfl ?_
   refine TL.on rfl rfl rfl rfl (beq_iff_eq.2 c32) ?_
   refine TL.op1 (OpR.pure rfl) rfl ?_
   refine TL.op1 (OpR.pickT rfl (beq_iff_eq.2 c32) rfl) rfl ?_
   refine TL.op1 (OpR.pure rfl) rfl ?_
   rcases ite_some ht31 with ⟨c34, ht31⟩ | ⟨c34, ht31⟩
   rotate_left
   · refine TL.off rfl rfl rfl rfl (beq_eq_false_iff_ne.2 c34) rfl rfl ?_
     refine TL.off rfl rfl rfl rfl (beq_eq_false_iff_ne.2 c34) rfl rfl ?_
     refine TL.off rfl rfl rfl rfl (beq_eq_false_iff_ne.2 c34) rfl rfl ?_
     refine TL.off rfl rfl rfl rfl (beq_eq_false_iff_ne.2 c34) rfl rfl ?_
     refine TL.off rfl rfl rfl rfl (beq_eq_false_iff_ne.2 c34) rfl rfl ?_
     refine TL.op1 (OpR.pickF rfl (beq_eq_false_iff_ne.2 c34) rfl) rfl ?_
     refine TL.op1 (OpR.pure rfl) rfl ?_
     refine TL.off rfl rfl rfl rfl rfl rfl rfl ?_
     refine TL.off rfl rfl rfl rfl rfl rfl rfl ?_
     refine TL.off rfl rfl rfl rfl rfl rfl rfl ?_
     refine TL.off rfl rfl rfl rfl rfl rfl rfl ?_
     refine TL.op1 (OpR.pickF rfl rfl rfl) rfl ?_
     refine TL.op1 (OpR.pure rfl) rfl ?_
     refine TL.off rfl rfl rfl rfl rfl rfl rfl ?_
     refine TL.op1 (OpR.pickF rfl rfl rfl) rfl ?_
     refine TL.op1 (OpR.pure rfl) rfl ?_
     refine TL.nil ?_
     obtain rfl := Option.some.inj ht31
     exact ⟨_, Gst.trans (Gst.only [0, 6, 7, 9, 11] rfl) (Gst.pick [0, 4, 1] rfl rfl), rfl⟩
   refine TL.on rfl rfl rfl rfl (beq_iff_eq.2 c34) ?_
   refine TL.op1 (OpR.pure rfl) rfl ?_
   refine TL.on rfl rfl rfl rfl (beq_iff_eq.2 c34) ?_
   refine TL.op1 (OpR.pure rfl) rfl ?_
   refine TL.on rfl rfl rfl rfl (beq_iff_eq.2 c34) ?_
   refine TL.op1 (OpR.cast (OpR.pure rfl) (intE (lenM _ _))) rfl ?_
   refine TL.on rfl rfl rfl rfl (beq_iff_eq.2 c34) ?_
   refine TL.op1 (OpR.pure rfl) rfl ?_
   refine TL.on rfl rfl rfl rfl (beq_iff_eq.2 c34) ?_
   refine TL.op1 (OpR.pure rfl) rfl ?_
   refine TL.op1 (OpR.pickT rfl (beq_iff_eq.2 c34) rfl) rfl ?_
   refine TL.op1 (OpR.pure rfl) rfl ?_
   rcases ite_some ht31 with ⟨c35, ht31⟩ | ⟨c35, ht31⟩
   rotate_left
   · refine TL.off rfl rfl rfl rfl (decide_eq_false c35) rfl rfl ?_
     refine TL.off rfl rfl rfl rfl (decide_eq_false c35) rfl rfl ?_
     refine TL.off rfl rfl rfl rfl (decide_eq_false c35) rfl rfl ?_
     refine TL.off rfl rfl rfl rfl (decide_eq_false c35) rfl rfl ?_
     refine TL.op1 (OpR.pickF rfl (decide_eq_false c35) rfl) rfl ?_
     refine TL.op1 (OpR.pure rfl) rfl ?_
     refine TL.off rfl rfl rfl rfl rfl rfl rfl ?_
     refine TL.op1 (OpR.pickF rfl rfl rfl) rfl ?_
     refine TL.op1 (OpR.pure rfl) rfl ?_
     refine TL.nil ?_
     obtain rfl := Option.some.inj ht31
     exact ⟨_, Gst.trans (Gst.only [0, 6, 7, 9, 11] rfl) (Gst.pick [0, 4, 1] rfl rfl), rfl⟩
   refine TL.on rfl rfl rfl rfl (decide_eq_true c35) ?_
   refine TL.op1 (OpR.pure rfl) rfl ?_
   refine TL.on rfl rfl rfl rfl (decide_eq_true c35) ?_
   obtain ⟨x36, hx36, ht31⟩ := bnd_some ht31
   refine TL.op1 (OpR.call [0, 1] fn33 (arena_Arena_Len_c hx36) rfl rfl rfl (fun _ => rfl)) rfl ?_
   refine TL.on rfl rfl rfl rfl (decide_eq_true c35) ?_
   refine TL.op1 (OpR.pure rfl) rfl ?_
   refine TL.on rfl rfl rfl rfl (decide_eq_true c35) ?_
   refine TL.op1 (OpR.pure rfl) rfl ?_
   refine TL.op1 (OpR.pickT rfl (decide_eq_true c35) rfl) rfl ?_
   refine TL.op1 (OpR.pure rfl) rfl ?_
   rcases ite_some ht31 with ⟨c37, ht31⟩ | ⟨c37, ht31⟩
   rotate_left
   · refine TL.off rfl rfl rfl rfl (beq_eq_false_iff_ne.2 c37) rfl rfl ?_
     refine TL.op1 (OpR.pickF rfl (beq_eq_false_iff_ne.2 c37) rfl) rfl ?_
     refine TL.op1 (OpR.pure rfl) rfl ?_
     refine TL.nil ?_
     obtain rfl := Option.some.inj ht31
     exact ⟨_, Gst.trans (Gst.only [0, 6, 7, 9, 11] rfl) (Gst.pick [0, 4, 1] rfl rfl), rfl⟩
   refine TL.on rfl rfl rfl rfl (beq_iff_eq.2 c37) ?_
   obtain ⟨x38, hx38, ht31⟩ := bnd_some ht31
   refine TL.op1 (OpR.call0 fn37 (law04_awake_c hx38) rfl) rfl ?_
   refine TL.op1 (OpR.pickT rfl (beq_iff_eq.2 c37) rfl) rfl ?_
   refine TL.op1 (OpR.pure rfl) rfl ?_
   refine TL.nil ?_
   obtain rfl := Option.some.inj ht31
   exact ⟨_, Gst.trans (Gst.only [0, 6, 7, 9, 11] rfl) (Gst.pick [0, 4, 1] rfl rfl), rfl⟩
 refine T.condF rfl (not_t (beq_iff_eq.2 c22)) ?_
 refine T.skip ?_
 show T X _ _ _
 refine T.seq ?_
 obtain ⟨t23, ht23, h0⟩ := bnd_some h0
 refine T.cutC (fun S' => S' = ⟨[(6, .val (.bool t23))], [], 98⟩) (fun _ h => h) ?_ ?_
 rotate_left
 · rintro _ rfl
   show T X _ _ _
   refine T.ret ?_
   obtain rfl := Option.some.inj h0
   exact PostG.retP (ks := []) (Gst.only [6] rfl) undef (ResL.cons (ResV.tmp rfl) ResL.nil) rfl rfl rfl rfl
 obtain ⟨x25, hx25, ht23⟩ := bnd_some ht23
 rcases ite_some ht23 with ⟨c26, ht23⟩ | ⟨c26, ht23⟩
 rotate_left
 · refine T.drawQ drawsX [.agg [.sl 2 (List.map e_arena_Span x10.1.fL), .val (.int .i64 x10.1.fN)], .sl 2 (List.map e_arena_Span x25), .val (.int .i64 (x25.length : Int)), .val (.bool ((x25.length : Int) == 1)), .val (.bool ((x25.length : Int) == 1)), .tup [], .tup [], .tup [], .tup [], .tup [], .tup [], .tup [], .tup [], .val (.bool false), .val (.bool false), .tup [], .val (.bool false), .val (.bool false)] [0, 1, 2, 6, 7, 8, 9, 10, 11, 12, 13, 14, 15, 16, 17, 18, 19, 20, 21, 22, 23, 24, 25, 26, 27, 28, 29, 30, 31, 32, 33, 34, 35, 36, 37, 38, 39, 56, 57, 81, 82, 83, 84, 85, 86, 87, 88, 89, 90, 91, 92, 93, 94, 95, 96, 97] (by decide +kernel) rfl ?_ rfl ?_
   rotate_left
   · obtain rfl := Option.some.inj ht23
     exact ⟨_, Gst.trans (Gst.only [6] rfl) (Gst.pick [] rfl rfl), rfl⟩
   refine OpsQ.yes (Want.plain rfl) rfl (OpR.loadPtr 4 rfl rfl rfl rfl) ?_
   refine OpsQ.yes (Want.plain rfl) rfl (OpR.call0 fn39 (piece_Text_Spans_c hx25) rfl) ?_
   refine OpsQ.yes (Want.plain rfl) rfl (OpR.cast (OpR.pure rfl) (intE (lenM _ _))) ?_
   refine OpsQ.yes (Want.plain rfl) rfl (OpR.pure rfl) ?_
   refine OpsQ.yes (Want.plain rfl) rfl (OpR.pure rfl) ?_
   refine OpsQ.no (Want.bool rfl rfl rfl rfl (by rw [(beq_eq_false_iff_ne.2 c26)]; rfl)) rfl ?_
   refine OpsQ.no (Want.bool rfl rfl rfl rfl (by rw [(beq_eq_false_iff_ne.2 c26)]; rfl)) rfl ?_
   refine OpsQ.no (Want.bool rfl rfl rfl rfl (by rw [(beq_eq_false_iff_ne.2 c26)]; rfl)) rfl ?_
   refine OpsQ.no (Want.bool rfl rfl rfl rfl (by rw [(beq_eq_false_iff_ne.2 c26)]; rfl)) rfl ?_
   refine OpsQ.no (Want.bool rfl rfl rfl rfl (by rw [(beq_eq_false_iff_ne.2 c26)]; rfl)) rfl ?_
   refine OpsQ.no (Want.bool rfl rfl rfl rfl (by rw [(beq_eq_false_iff_ne.2 c26)]; rfl)) rfl ?_
   refine OpsQ.no (Want.bool rfl rfl rfl rfl (by rw [(beq_eq_false_iff_ne.2 c26)]; rfl)) rfl ?_
   refine OpsQ.no (Want.bool rfl rfl rfl rfl (by rw [(beq_eq_false_iff_ne.2 c26)]; rfl)) rfl ?_
   refine OpsQ.yes (Want.plain rfl) rfl (OpR.pickF rfl (beq_eq_false_iff_ne.2 c26) rfl) ?_
   refine OpsQ.yes (Want.plain rfl) rfl (OpR.pure rfl) ?_
   refine OpsQ.no (Want.bool rfl rfl rfl rfl rfl) rfl ?_
   refine OpsQ.yes (Want.plain rfl) rfl (OpR.pickF rfl rfl rfl) ?_
   refine OpsQ.yes (Want.plain rfl) rfl (OpR.pure rfl) ?_
   exact OpsQ.nil
 obtain ⟨x27, hx27, ht23⟩ := bnd_some ht23
 obtain ⟨x28, hx28, ht23⟩ := bnd_some ht23
 rcases ite_some ht23 with ⟨c29, ht23⟩ | ⟨c29, ht23⟩
 rotate_left
 · refine T.drawQ drawsX [.agg [.sl 2 (List.map e_arena_Span x10.1.fL), .val (.int .i64 x10.1.fN)], .sl 2 (List.map e_arena_Span x25), .val (.int .i64 (x25.length : Int)), .val (.bool ((x25.length : Int) == 1)), .val (.bool ((x25.length : Int) == 1)), .agg [.sl 2 (List.map e_arena_Span x10.1.fL), .val (.int .i64 x10.1.fN)], .val (.pointer (some ⟨(blk (vn w2 0)), 0, none⟩)), .sl 1 (List.map byteD x27), .val (.string (bs x27)), .sl 1 (List.map (eI .i64) x1.2.1), .val (.string (bs a0)), .val (.string (bs x28)), .val (.bool (x27 == x28)), .val (.bool (x27 == x28)), .val (.bool (x27 == x28)), .tup [], .val (.bool false), .val (.bool false)] [0, 1, 2, 6, 7, 8, 9, 10, 11, 12, 13, 14, 15, 16, 17, 18, 19, 20, 21, 22, 23, 24, 25, 26, 27, 28, 29, 30, 31, 32, 33, 34, 35, 36, 37, 38, 39, 56, 57, 81, 82, 83, 84, 85, 86, 87, 88, 89, 90, 91, 92, 93, 94, 95, 96, 97] (by decide +kernel) rfl ?_ rfl ?_
   rotate_left
   · obtain rfl := Option.some.inj ht23
     exact ⟨_, Gst.trans (Gst.only [6] rfl) (Gst.pick [] rfl rfl), rfl⟩
   refine OpsQ.yes (Want.plain rfl) rfl (OpR.loadPtr 4 rfl rfl rfl rfl) ?_
   refine OpsQ.yes (Want.plain rfl) rfl (OpR.call0 fn39 (piece_Text_Spans_c hx25) rfl) ?_
   refine OpsQ.yes (Want.plain rfl) rfl (OpR.cast (OpR.pure rfl) (intE (lenM _ _))) ?_
   refine OpsQ.yes (Want.plain rfl) rfl (OpR.pure rfl) ?_
   refine OpsQ.yes (Want.plain rfl) rfl (OpR.pure rfl) ?_
   refine OpsQ.yes (Want.bool rfl rfl rfl rfl (by rw [(beq_iff_eq.2 c26)]; rfl)) rfl (OpR.loadPtr 4 rfl rfl rfl rfl) ?_
   refine OpsQ.yes (Want.bool rfl rfl rfl rfl (by rw [(beq_iff_eq.2 c26)]; rfl)) rfl (OpR.pure rfl) ?_
   refine OpsQ.yes (Want.bool rfl rfl rfl rfl (by rw [(beq_iff_eq.2 c26)]; rfl)) rfl (OpR.call [0, 1] fn40 (piece_Text_Flat_c hx27) rfl rfl rfl (fun _ => rfl)) ?_
   refine OpsQ.yes (Want.bool rfl rfl rfl rfl (by rw [(beq_iff_eq.2 c26)]; rfl)) rfl (OpR.toStr (bs := x27) rfl rfl rfl rfl rfl rfl rfl) ?_
   refine OpsQ.yes (Want.bool rfl rfl rfl rfl (by rw [(beq_iff_eq.2 c26)]; rfl)) rfl (OpR.pure rfl) ?_
   refine OpsQ.yes (Want.bool rfl rfl rfl rfl (by rw [(beq_iff_eq.2 c26)]; rfl)) rfl (OpR.pure rfl) ?_
   refine OpsQ.yes (Want.bool rfl rfl rfl rfl (by rw [(beq_iff_eq.2 c26)]; rfl)) rfl (OpR.call0 fn41 (ref04_Flat_c hx28) rfl) ?_
   refine OpsQ.yes (Want.bool rfl rfl rfl rfl (by rw [(beq_iff_eq.2 c26)]; rfl)) rfl (OpR.cast (OpR.pure rfl) (boolE (strEq _ _))) ?_
   refine OpsQ.yes (Want.plain rfl) rfl (OpR.pickT rfl (beq_iff_eq.2 c26) rfl) ?_
   refine OpsQ.yes (Want.plain rfl) rfl (OpR.pure rfl) ?_
   refine OpsQ.no (Want.bool rfl rfl rfl rfl (by rw [(beq_eq_false_iff_ne.2 c29)]; rfl)) rfl ?_
   refine OpsQ.yes (Want.plain rfl) rfl (OpR.pickF rfl (beq_eq_false_iff_ne.2 c29) rfl) ?_
   refine OpsQ.yes (Want.plain rfl) rfl (OpR.pure rfl) ?_
   exact OpsQ.nil
 obtain ⟨x30, hx30, ht23⟩ := bnd_some ht23
 refine T.drawQ drawsX [.agg [.sl 2 (List.map e_arena_Span x10.1.fL), .val (.int .i64 x10.1.fN)], .sl 2 (List.map e_arena_Span x25), .val (.int .i64 (x25.length : Int)), .val (.bool ((x25.length : Int) == 1)), .val (.bool ((x25.length : Int) == 1)), .agg [.sl 2 (List.map e_arena_Span x10.1.fL), .val (.int .i64 x10.1.fN)], .val (.pointer (some ⟨(blk (vn w2 0)), 0, none⟩)), .sl 1 (List.map byteD x27), .val (.string (bs x27)), .sl 1 (List.map (eI .i64) x1.2.1), .val (.string (bs a0)), .val (.string (bs x28)), .val (.bool (x27 == x28)), .val (.bool (x27 == x28)), .val (.bool (x27 == x28)), .val (.bool x30), .val (.bool x30), .val (.bool x30)] [0, 1, 2, 6, 7, 8, 9, 10, 11, 12, 13, 14, 15, 16, 17, 18, 19, 20, 21, 22, 23, 24, 25, 26, 27, 28, 29, 30, 31, 32, 33, 34, 35, 36, 37, 38, 39, 56, 57, 81, 82, 83, 84, 85, 86, 87, 88, 89, 90, 91, 92, 93, 94, 95, 96, 97] (by decide +kernel) rfl ?_ rfl ?_
 rotate_left
 · obtain rfl := Option.some.inj ht23
   exact ⟨_, Gst.trans (Gst.only [6] rfl) (Gst.pick [] rfl rfl), rfl⟩
 refine OpsQ.yes (Want.plain rfl) rfl (OpR.loadPtr 4 rfl rfl rfl rfl) ?_
 refine OpsQ.yes (Want.plain rfl) rfl (OpR.call0 fn39 (piece_Text_Spans_c hx25) rfl) ?_
 refine OpsQ.yes (Want.plain rfl) rfl (OpR.cast (OpR.pure rfl) (intE (lenM _ _))) ?_
 refine OpsQ.yes (Want.plain rfl) rfl (OpR.pure rfl) ?_
 refine OpsQ.yes (Want.plain rfl) rfl (OpR.pure rfl) ?_
 refine OpsQ.yes (Want.bool rfl rfl rfl rfl (by rw [(beq_iff_eq.2 c26)]; rfl)) rfl (OpR.loadPtr 4 rfl rfl rfl rfl) ?_
 refine OpsQ.yes (Want.bool rfl rfl rfl rfl (by rw [(beq_iff_eq.2 c26)]; rfl)) rfl (OpR.pure rfl) ?_
 refine OpsQ.yes (Want.bool rfl rfl rfl rfl (by rw [(beq_iff_eq.2 c26)]; rfl)) rfl (OpR.call [0, 1] fn40 (piece_Text_Flat_c hx27) rfl rfl rfl (fun _ => rfl)) ?_
 refine OpsQ.yes (Want.bool rfl rfl rfl rfl (by rw [(beq_iff_eq.2 c26)]; rfl)) rfl (OpR.toStr (bs := x27) rfl rfl rfl rfl rfl rfl rfl) ?_
 refine OpsQ.yes (Want.bool rfl rfl rfl rfl (by rw [(beq_iff_eq.2 c26)]; rfl)) rfl (OpR.pure rfl) ?_
 refine OpsQ.yes (Want.bool rfl rfl rfl rfl (by rw [(beq_iff_eq.2 c26)]; rfl)) rfl (OpR.pure rfl) ?_
 refine OpsQ.yes (Want.bool rfl rfl rfl rfl (by rw [(beq_iff_eq.2 c26)]; rfl)) rfl (OpR.call0 fn41 (ref04_Flat_c hx28) rfl) ?_
 refine OpsQ.yes (Want.bool rfl rfl rfl rfl (by rw [(beq_iff_eq.2 c26)]; rfl)) rfl (OpR.cast (OpR.pure rfl) (boolE (strEq _ _))) ?_
 refine OpsQ.yes (Want.plain rfl) rfl (OpR.pickT rfl (beq_iff_eq.2 c26) rfl) ?_
 refine OpsQ.yes (Want.plain rfl) rfl (OpR.pure rfl) ?_
 refine OpsQ.yes (Want.bool rfl rfl rfl rfl (by rw [(beq_iff_eq.2 c29)]; rfl)) rfl (OpR.call0 fn37 (law04_awake_c hx30) rfl) ?_
 refine OpsQ.yes (Want.plain rfl) rfl (OpR.pickT rfl (beq_iff_eq.2 c29) rfl) ?_
 refine OpsQ.yes (Want.plain rfl) rfl (OpR.pure rfl) ?_
 exact OpsQ.nil
end Go.Proofs.Ytkjcogmngoogcaa.S
