/- Printed by a program of this session's own (gen.py): Lean functions for Go functions, and the proofs that the Go code comes to their answers. -/
import Derived.Test.YtkjcogmngoogcaaGb
set_option linter.unusedVariables false
set_option linter.unusedSimpArgs false
namespace Go.Proofs.Ytkjcogmngoogcaa.S
open Go Go.Sm
attribute [local irreducible] T TL OpR CallT iter loop
theorem fn27 : IsFn X 27 := ⟨Try.f27, Try.func27, by kernel_rfl, rfl⟩
noncomputable def quote_Join.l1 (a0 : List (List UInt8)) (s4 : Int × (List UInt8)) : Option (Lp (Int × (List UInt8)) (List UInt8)) :=
  if s4.1 < (a0.length : Int) then
    bnd (idx a0 s4.1) fun x13 =>
    bnd (if s4.1 > 0 then
      bnd (app 1 s4.2 [44]) fun x17 =>
      some x17
    else
      some s4.2 : Option (List UInt8)) fun t14 =>
    bnd (quote_Put x13) fun x19 =>
    bnd (app 1 t14 x19) fun x20 =>
    some (Lp.next (w64 (s4.1 + 1), x20))
  else
    some (Lp.done s4.2)
noncomputable def quote_Join (a0 : List (List UInt8)) : Option (List UInt8) :=
  bnd (loop (quote_Join.l1 a0) (0, []) : Option (List UInt8)) fun t1 =>
  some t1
set_option maxHeartbeats 4000000 in
theorem quote_Join_c {a0 : List (List UInt8)} {res : (List UInt8)} (h0 : quote_Join a0 = some res) : CallF X 27 [.sl 1 (List.map e_sl25 a0)] [] (fun x => .sl 1 (List.map byteD res)) (fun x => []) := by
  unfold quote_Join at h0
  refine CallF.mkG (X := X) Try.func27 rfl rfl Try.ntmps27 rfl rfl ?_
  refine T.seq ?_
  refine T.region ?_
  refine TL.op1 (OpR.pure rfl) rfl ?_
  refine TL.nil ?_
  show T X _ _ _
  refine T.seq ?_
  refine T.region ?_
  refine TL.op1 (OpR.pure rfl) rfl ?_
  refine TL.nil ?_
  show T X _ _ _
  refine T.seq ?_
  refine T.seq ?_
  refine T.region ?_
  refine TL.op1 (OpR.pure rfl) rfl ?_
  refine TL.op1 (OpR.cast (OpR.pure rfl) (intE (lenM _ _))) rfl ?_
  refine TL.op1 (OpR.pure rfl) rfl ?_
  refine TL.nil ?_
  show T X _ _ _
  obtain ⟨t1, ht1, h0⟩ := bnd_some h0
  refine T.cutC (fun S' => ∃ y2 : Value, S' = ⟨[(3, .val y2), (2, .val (.slice none 0 0))], [.row y2 (List.map byteD t1) 1 5], 24⟩) (fun _ h => h) ?_ ?_
  · refine T.block ?_
    obtain ⟨n5, n10⟩ := loop_some ht1
    refine T.loop (fun n S' => ∃ S'', Gst S' S'' ∧ ∃ y3 : Value, ∃ s4 : Int × (List UInt8), S'' = ⟨[(8, .val (.int .i64 s4.1)), (7, .val (.int .i64 (a0.length : Int))), (6, .sl 1 (List.map e_sl25 a0)), (3, .val y3), (2, .val (.slice none 0 0))], [.row y3 (List.map byteD s4.2) 1 5], 24⟩ ∧ iter (quote_Join.l1 a0) n s4 = some t1) n5 ?_ ?_
    · exact ⟨_, Gst.trans (Gst.only [2, 3, 6, 7, 8] rfl) (Gst.nilRow (ow := []) 1 5 rfl), (.slice none 0 0), (0, []), rfl, n10⟩
    rintro n5 _ ⟨_, g, y3, s4, rfl, i9⟩
    refine T.ghost g ?_
    obtain ⟨m6, q7, rfl, q8, i9⟩ := iter_succ i9
    unfold quote_Join.l1 at q8
    refine T.seq ?_
    refine T.region ?_
    refine TL.op1 (OpR.pure rfl) rfl ?_
    refine TL.nil ?_
    show T X _ _ _
    refine T.seq ?_
    rcases ite_some q8 with ⟨c12, q8⟩ | ⟨c12, q8⟩
    · refine T.condT rfl (decide_eq_true c12) ?_
      refine T.skip ?_
      show T X _ _ _
      refine T.seq ?_
      refine T.block ?_
      refine T.seq ?_
      refine T.region ?_
      refine TL.op1 (OpR.pure rfl) rfl ?_
      obtain ⟨x13, hx13, q8⟩ := bnd_some q8
      refine TL.op1 (OpR.indexM e_sl25 hx13 rfl rfl rfl rfl rfl) rfl ?_
      refine TL.op1 (OpR.pure rfl) rfl ?_
      refine TL.op1 (OpR.pure rfl) rfl ?_
      refine TL.op1 (OpR.pure rfl) rfl ?_
      refine TL.nil ?_
      show T X _ _ _
      refine T.seq ?_
      refine T.seq ?_
      refine T.region ?_
      refine TL.op1 (OpR.pure rfl) rfl ?_
      refine TL.op1 (OpR.pure rfl) rfl ?_
      refine TL.nil ?_
      show T X _ _ _
      obtain ⟨t14, ht14, q8⟩ := bnd_some q8
      refine T.cutC (fun S' => ∃ y15 : Value, S' = ⟨[(8, .val (.int .i64 s4.1)), (7, .val (.int .i64 (a0.length : Int))), (6, .sl 1 (List.map e_sl25 a0)), (5, .sl 1 (List.map byteD x13)), (3, .val y15), (2, .val (.slice none 0 0))], [.row y15 (List.map byteD t14) 1 5], 24⟩) (fun _ h => h) ?_ ?_
      · rcases ite_some ht14 with ⟨c16, ht14⟩ | ⟨c16, ht14⟩
        · refine T.condT rfl (decide_eq_true c16) ?_
          refine T.region ?_
          refine TL.op1 (OpR.pure rfl) rfl ?_
          refine TL.op1 (OpR.lit rfl rfl rfl rfl rfl rfl rfl) rfl ?_
          obtain ⟨x17, hx17, ht14⟩ := bnd_some ht14
          refine TL.op (OpR.appendM (m := [44]) byteD 0 hx17 rfl rfl rfl rfl rfl rfl rfl rfl rfl (fun _ => rfl)) rfl (fun v18 => ?_)
          refine TL.op1 (OpR.pure rfl) rfl ?_
          refine TL.nil ?_
          obtain rfl := Option.some.inj ht14
          exact ⟨_, Gst.only [2, 3, 5, 6, 7, 8] rfl, v18, rfl⟩
        · refine T.condF rfl (decide_eq_false c16) ?_
          refine T.skip ?_
          obtain rfl := Option.some.inj ht14
          exact ⟨_, Gst.only [2, 3, 5, 6, 7, 8] rfl, y3, rfl⟩
      · rintro _ ⟨y15, rfl⟩
        show T X _ _ _
        refine T.region ?_
        refine TL.op1 (OpR.pure rfl) rfl ?_
        refine TL.op1 (OpR.pure rfl) rfl ?_
        obtain ⟨x19, hx19, q8⟩ := bnd_some q8
        refine TL.op1 (OpR.call0 fn18 (quote_Put_c hx19) rfl) rfl ?_
        obtain ⟨x20, hx20, q8⟩ := bnd_some q8
        refine TL.op (OpR.appendM (m := x19) byteD 0 hx20 rfl rfl rfl rfl rfl rfl rfl rfl rfl (fun _ => rfl)) rfl (fun v21 => ?_)
        refine TL.op1 (OpR.pure rfl) rfl ?_
        refine TL.nil ?_
        show T X _ _ _
        refine T.region ?_
        refine TL.op1 (OpR.pure rfl) rfl ?_
        refine TL.op1 (OpR.pure rfl) rfl ?_
        refine TL.nil ?_
        obtain rfl := Option.some.inj q8
        exact ⟨m6, Nat.lt_succ_self _, _, Gst.only [2, 3, 6, 7, 8] rfl, v21, (w64 (s4.1 + 1), x20), rfl, i9⟩
    · refine T.condF rfl (decide_eq_false c12) ?_
      refine T.exit ?_
      obtain rfl := Option.some.inj q8
      obtain rfl : _ = _ := i9
      exact ⟨_, Gst.only [2, 3] rfl, y3, rfl⟩
  · rintro _ ⟨y2, rfl⟩
    show T X _ _ _
    refine T.seq ?_
    refine T.region ?_
    refine TL.op1 (OpR.pure rfl) rfl ?_
    refine TL.op1 (OpR.pure rfl) rfl ?_
    refine TL.nil ?_
    show T X _ _ _
    refine T.ret ?_
    obtain rfl := Option.some.inj h0
    exact PostG.retP (ks := []) (Gst.trans (Gst.only [2] rfl) (Gst.trans (Gst.freezeRow 0 rfl rfl (ReS.cons (Re.base .all) ReS.nil) (ReO.same ReO.nil)) (Gst.pick [] rfl rfl))) undef (ResL.cons (ResV.tmp rfl) ResL.nil) rfl rfl rfl rfl
theorem fn28 : IsFn X 28 := ⟨Try.f28, Try.func28, by kernel_rfl, rfl⟩
noncomputable def ref06_Join.l1 (a0 : List (List UInt8)) (s2 : (List UInt8) × Int) : Option (Lp ((List UInt8) × Int) (List UInt8)) :=
  if s2.2 < (a0.length : Int) then
    bnd (idx a0 s2.2) fun x11 =>
    bnd (if s2.2 > 0 then
      bnd (catS s2.1 [44]) fun x14 =>
      some x14
    else
      some s2.1 : Option (List UInt8)) fun t12 =>
    bnd (ref06_Put x11) fun x15 =>
    bnd (catS t12 x15) fun x16 =>
    some (Lp.next (x16, w64 (s2.2 + 1)))
  else
    some (Lp.done s2.1)
noncomputable def ref06_Join (a0 : List (List UInt8)) : Option (List UInt8) :=
  bnd (loop (ref06_Join.l1 a0) ([], 0) : Option (List UInt8)) fun t1 =>
  some t1
set_option maxHeartbeats 4000000 in
theorem ref06_Join_c {a0 : List (List UInt8)} {res : (List UInt8)} (h0 : ref06_Join a0 = some res) : CallF X 28 [.sl 1 (List.map eS a0)] [] (fun x => .val (.string (bs res))) (fun x => []) := by
  unfold ref06_Join at h0
  refine CallF.mkG (X := X) Try.func28 rfl rfl Try.ntmps28 rfl rfl ?_
  refine T.seq ?_
  refine T.region ?_
  refine TL.op1 (OpR.pure rfl) rfl ?_
  refine TL.nil ?_
  show T X _ _ _
  refine T.seq ?_
  refine T.region ?_
  refine TL.op1 (OpR.pure rfl) rfl ?_
  refine TL.nil ?_
  show T X _ _ _
  refine T.seq ?_
  refine T.seq ?_
  refine T.region ?_
  refine TL.op1 (OpR.pure rfl) rfl ?_
  refine TL.op1 (OpR.cast (OpR.pure rfl) (intE (lenM _ _))) rfl ?_
  refine TL.op1 (OpR.pure rfl) rfl ?_
  refine TL.nil ?_
  show T X _ _ _
  obtain ⟨t1, ht1, h0⟩ := bnd_some h0
  refine T.cutC (fun S' => S' = ⟨[(3, .val (.string (bs t1))), (2, .val (.string (bs [])))], [], 23⟩) (fun _ h => h) ?_ ?_
  · refine T.block ?_
    obtain ⟨n3, n8⟩ := loop_some ht1
    refine T.loop (fun n S' => ∃ S'', Gst S' S'' ∧ ∃ s2 : (List UInt8) × Int, S'' = ⟨[(8, .val (.int .i64 s2.2)), (7, .val (.int .i64 (a0.length : Int))), (6, .sl 1 (List.map eS a0)), (3, .val (.string (bs s2.1))), (2, .val (.string (bs [])))], [], 23⟩ ∧ iter (ref06_Join.l1 a0) n s2 = some t1) n3 ?_ ?_
    · exact ⟨_, Gst.only [2, 3, 6, 7, 8] rfl, ([], 0), rfl, n8⟩
    rintro n3 _ ⟨_, g, s2, rfl, i7⟩
    refine T.ghost g ?_
    obtain ⟨m4, q5, rfl, q6, i7⟩ := iter_succ i7
    unfold ref06_Join.l1 at q6
    refine T.seq ?_
    refine T.region ?_
    refine TL.op1 (OpR.pure rfl) rfl ?_
    refine TL.nil ?_
    show T X _ _ _
    refine T.seq ?_
    rcases ite_some q6 with ⟨c10, q6⟩ | ⟨c10, q6⟩
    · refine T.condT rfl (decide_eq_true c10) ?_
      refine T.skip ?_
      show T X _ _ _
      refine T.seq ?_
      refine T.block ?_
      refine T.seq ?_
      refine T.region ?_
      refine TL.op1 (OpR.pure rfl) rfl ?_
      obtain ⟨x11, hx11, q6⟩ := bnd_some q6
      refine TL.op1 (OpR.indexM eS hx11 rfl rfl rfl rfl rfl) rfl ?_
      refine TL.op1 (OpR.pure rfl) rfl ?_
      refine TL.op1 (OpR.pure rfl) rfl ?_
      refine TL.op1 (OpR.pure rfl) rfl ?_
      refine TL.nil ?_
      show T X _ _ _
      refine T.seq ?_
      refine T.seq ?_
      refine T.region ?_
      refine TL.op1 (OpR.pure rfl) rfl ?_
      refine TL.op1 (OpR.pure rfl) rfl ?_
      refine TL.nil ?_
      show T X _ _ _
      obtain ⟨t12, ht12, q6⟩ := bnd_some q6
      refine T.cutC (fun S' => S' = ⟨[(8, .val (.int .i64 s2.2)), (7, .val (.int .i64 (a0.length : Int))), (6, .sl 1 (List.map eS a0)), (5, .val (.string (bs x11))), (3, .val (.string (bs t12))), (2, .val (.string (bs [])))], [], 23⟩) (fun _ h => h) ?_ ?_
      · rcases ite_some ht12 with ⟨c13, ht12⟩ | ⟨c13, ht12⟩
        · refine T.condT rfl (decide_eq_true c13) ?_
          refine T.region ?_
          refine TL.op1 (OpR.pure rfl) rfl ?_
          obtain ⟨x14, hx14, ht12⟩ := bnd_some ht12
          refine TL.op1 (OpR.concatM hx14 rfl rfl) rfl ?_
          refine TL.op1 (OpR.pure rfl) rfl ?_
          refine TL.nil ?_
          obtain rfl := Option.some.inj ht12
          exact ⟨_, Gst.only [2, 3, 5, 6, 7, 8] rfl, rfl⟩
        · refine T.condF rfl (decide_eq_false c13) ?_
          refine T.skip ?_
          obtain rfl := Option.some.inj ht12
          exact ⟨_, Gst.only [2, 3, 5, 6, 7, 8] rfl, rfl⟩
      · rintro _ rfl
        show T X _ _ _
        refine T.region ?_
        refine TL.op1 (OpR.pure rfl) rfl ?_
        refine TL.op1 (OpR.pure rfl) rfl ?_
        obtain ⟨x15, hx15, q6⟩ := bnd_some q6
        refine TL.op1 (OpR.call0 fn15 (ref06_Put_c hx15) rfl) rfl ?_
        obtain ⟨x16, hx16, q6⟩ := bnd_some q6
        refine TL.op1 (OpR.concatM hx16 rfl rfl) rfl ?_
        refine TL.op1 (OpR.pure rfl) rfl ?_
        refine TL.nil ?_
        show T X _ _ _
        refine T.region ?_
        refine TL.op1 (OpR.pure rfl) rfl ?_
        refine TL.op1 (OpR.pure rfl) rfl ?_
        refine TL.nil ?_
        obtain rfl := Option.some.inj q6
        exact ⟨m4, Nat.lt_succ_self _, _, Gst.only [2, 3, 6, 7, 8] rfl, (x16, w64 (s2.2 + 1)), rfl, i7⟩
    · refine T.condF rfl (decide_eq_false c10) ?_
      refine T.exit ?_
      obtain rfl := Option.some.inj q6
      obtain rfl : _ = _ := i7
      exact ⟨_, Gst.only [2, 3] rfl, rfl⟩
  · rintro _ rfl
    show T X _ _ _
    refine T.seq ?_
    refine T.region ?_
    refine TL.op1 (OpR.pure rfl) rfl ?_
    refine TL.op1 (OpR.pure rfl) rfl ?_
    refine TL.nil ?_
    show T X _ _ _
    refine T.ret ?_
    obtain rfl := Option.some.inj h0
    exact PostG.retP (ks := []) (Gst.only [2] rfl) undef (ResL.cons (ResV.tmp rfl) ResL.nil) rfl rfl rfl rfl
theorem fn6 : IsFn X 6 := ⟨Try.f6, Try.func6, by kernel_rfl, rfl⟩
noncomputable def law06_QuoteRight (a0 : List UInt8) (a1 : List (List UInt8)) : Option Bool :=
  bnd (law06_cut a0 600) fun x1 =>
  bnd (law06_texts a1) fun x2 =>
  bnd (bnd (quote_Right x1) fun x5 =>
  bnd (ref06_Right x1) fun x6 =>
  if (x5 == x6) = true then
    bnd (quote_Join x2.2) fun x8 =>
    bnd (ref06_Join x2.1) fun x9 =>
    if x8 = x9 then
      bnd (law06_awake) fun x11 =>
      some x11
    else
      some false
  else
    some false : Option Bool) fun t3 =>
  some t3
set_option maxHeartbeats 4000000 in
theorem law06_QuoteRight_c {a0 : List UInt8} {a1 : List (List UInt8)} {res : Bool} (h0 : law06_QuoteRight a0 a1 = some res) : CallF X 6 [.val (.string (bs a0)), .sl 1 (List.map eS a1)] [] (fun x => .val (.bool res)) (fun x => []) := by
  unfold law06_QuoteRight at h0
  refine CallF.mkG (X := X) Try.func6 rfl rfl Try.ntmps6 rfl rfl ?_
  refine T.seq ?_
  refine T.region ?_
  refine TL.op1 (OpR.pure rfl) rfl ?_
  refine TL.nil ?_
  show T X _ _ _
  refine T.seq ?_
  refine T.region ?_
  refine TL.op1 (OpR.pure rfl) rfl ?_
  obtain ⟨x1, hx1, h0⟩ := bnd_some h0
  refine TL.op1 (OpR.call0 fn14 (law06_cut_c hx1) rfl) rfl ?_
  refine TL.op1 (OpR.pure rfl) rfl ?_
  refine TL.nil ?_
  show T X _ _ _
  refine T.seq ?_
  refine T.region ?_
  refine TL.op1 (OpR.pure rfl) rfl ?_
  obtain ⟨x2, hx2, h0⟩ := bnd_some h0
  refine TL.op1 (OpR.call0 fn24 (law06_texts_c hx2) rfl) rfl ?_
  refine TL.op1 (OpR.pure rfl) rfl ?_
  refine TL.op1 (OpR.pure rfl) rfl ?_
  refine TL.op1 (OpR.pure rfl) rfl ?_
  refine TL.op1 (OpR.pure rfl) rfl ?_
  refine TL.op1 (OpR.pure rfl) rfl ?_
  refine TL.nil ?_
  show T X _ _ _
  refine T.seq ?_
  obtain ⟨t3, ht3, h0⟩ := bnd_some h0
  refine T.cutC (fun S' => S' = ⟨[(4, .val (.bool t3))], [], 31⟩) (fun _ h => h) ?_ ?_
  · obtain ⟨x5, hx5, ht3⟩ := bnd_some ht3
    obtain ⟨x6, hx6, ht3⟩ := bnd_some ht3
    rcases ite_some ht3 with ⟨c7, ht3⟩ | ⟨c7, ht3⟩
    · obtain ⟨x8, hx8, ht3⟩ := bnd_some ht3
      obtain ⟨x9, hx9, ht3⟩ := bnd_some ht3
      rcases ite_some ht3 with ⟨c10, ht3⟩ | ⟨c10, ht3⟩
      · obtain ⟨x11, hx11, ht3⟩ := bnd_some ht3
        refine T.drawQ drawsX [.val (.string (bs x1)), .sl 1 (List.map byteD x1), .val (.bool x5), .val (.string (bs x1)), .val (.bool x6), .val (.bool (x5 == x6)), .val (.bool (x5 == x6)), .sl 1 (List.map e_sl25 x2.2), .sl 1 (List.map byteD x8), .val (.string (bs x8)), .sl 1 (List.map eS x2.1), .val (.string (bs x9)), .val (.bool (x8 == x9)), .val (.bool (x8 == x9)), .val (.bool (x8 == x9)), .val (.bool x11), .val (.bool x11), .val (.bool x11)] [0, 1, 4, 5, 6, 7, 8, 9, 10, 11, 12, 13, 14, 15, 16, 17, 18, 19, 20, 21, 22, 23, 24, 25, 26, 27, 28, 29, 30] (by decide +kernel) rfl ?_ rfl ?_
        · refine OpsQ.yes (Want.plain rfl) rfl (OpR.pure rfl) ?_
          refine OpsQ.yes (Want.plain rfl) rfl (OpR.toBytesM rfl rfl rfl rfl rfl rfl rfl) ?_
          refine OpsQ.yes (Want.plain rfl) rfl (OpR.call0 fn25 (quote_Right_c hx5) rfl) ?_
          refine OpsQ.yes (Want.plain rfl) rfl (OpR.pure rfl) ?_
          refine OpsQ.yes (Want.plain rfl) rfl (OpR.call0 fn26 (ref06_Right_c hx6) rfl) ?_
          refine OpsQ.yes (Want.plain rfl) rfl (OpR.eqBool rfl rfl rfl rfl) ?_
          refine OpsQ.yes (Want.plain rfl) rfl (OpR.pure rfl) ?_
          refine OpsQ.yes (Want.bool rfl rfl rfl rfl (by rw [(c7)]; rfl)) rfl (OpR.pure rfl) ?_
          refine OpsQ.yes (Want.bool rfl rfl rfl rfl (by rw [(c7)]; rfl)) rfl (OpR.call0 fn27 (quote_Join_c hx8) rfl) ?_
          refine OpsQ.yes (Want.bool rfl rfl rfl rfl (by rw [(c7)]; rfl)) rfl (OpR.toStr (bs := x8) rfl rfl rfl rfl rfl rfl rfl) ?_
          refine OpsQ.yes (Want.bool rfl rfl rfl rfl (by rw [(c7)]; rfl)) rfl (OpR.pure rfl) ?_
          refine OpsQ.yes (Want.bool rfl rfl rfl rfl (by rw [(c7)]; rfl)) rfl (OpR.call0 fn28 (ref06_Join_c hx9) rfl) ?_
          refine OpsQ.yes (Want.bool rfl rfl rfl rfl (by rw [(c7)]; rfl)) rfl (OpR.cast (OpR.pure rfl) (boolE (strEq _ _))) ?_
          refine OpsQ.yes (Want.plain rfl) rfl (OpR.pickT rfl (c7) rfl) ?_
          refine OpsQ.yes (Want.plain rfl) rfl (OpR.pure rfl) ?_
          refine OpsQ.yes (Want.bool rfl rfl rfl rfl (by rw [(beq_iff_eq.2 c10)]; rfl)) rfl (OpR.call0 fn20 (law06_awake_c hx11) rfl) ?_
          refine OpsQ.yes (Want.plain rfl) rfl (OpR.pickT rfl (beq_iff_eq.2 c10) rfl) ?_
          refine OpsQ.yes (Want.plain rfl) rfl (OpR.pure rfl) ?_
          exact OpsQ.nil
        · obtain rfl := Option.some.inj ht3
          exact ⟨_, Gst.only [4] rfl, rfl⟩
      · refine T.drawQ drawsX [.val (.string (bs x1)), .sl 1 (List.map byteD x1), .val (.bool x5), .val (.string (bs x1)), .val (.bool x6), .val (.bool (x5 == x6)), .val (.bool (x5 == x6)), .sl 1 (List.map e_sl25 x2.2), .sl 1 (List.map byteD x8), .val (.string (bs x8)), .sl 1 (List.map eS x2.1), .val (.string (bs x9)), .val (.bool (x8 == x9)), .val (.bool (x8 == x9)), .val (.bool (x8 == x9)), .tup [], .val (.bool false), .val (.bool false)] [0, 1, 4, 5, 6, 7, 8, 9, 10, 11, 12, 13, 14, 15, 16, 17, 18, 19, 20, 21, 22, 23, 24, 25, 26, 27, 28, 29, 30] (by decide +kernel) rfl ?_ rfl ?_
        · refine OpsQ.yes (Want.plain rfl) rfl (OpR.pure rfl) ?_
          refine OpsQ.yes (Want.plain rfl) rfl (OpR.toBytesM rfl rfl rfl rfl rfl rfl rfl) ?_
          refine OpsQ.yes (Want.plain rfl) rfl (OpR.call0 fn25 (quote_Right_c hx5) rfl) ?_
          refine OpsQ.yes (Want.plain rfl) rfl (OpR.pure rfl) ?_
          refine OpsQ.yes (Want.plain rfl) rfl (OpR.call0 fn26 (ref06_Right_c hx6) rfl) ?_
          refine OpsQ.yes (Want.plain rfl) rfl (OpR.eqBool rfl rfl rfl rfl) ?_
          refine OpsQ.yes (Want.plain rfl) rfl (OpR.pure rfl) ?_
          refine OpsQ.yes (Want.bool rfl rfl rfl rfl (by rw [(c7)]; rfl)) rfl (OpR.pure rfl) ?_
          refine OpsQ.yes (Want.bool rfl rfl rfl rfl (by rw [(c7)]; rfl)) rfl (OpR.call0 fn27 (quote_Join_c hx8) rfl) ?_
          refine OpsQ.yes (Want.bool rfl rfl rfl rfl (by rw [(c7)]; rfl)) rfl (OpR.toStr (bs := x8) rfl rfl rfl rfl rfl rfl rfl) ?_
          refine OpsQ.yes (Want.bool rfl rfl rfl rfl (by rw [(c7)]; rfl)) rfl (OpR.pure rfl) ?_
          refine OpsQ.yes (Want.bool rfl rfl rfl rfl (by rw [(c7)]; rfl)) rfl (OpR.call0 fn28 (ref06_Join_c hx9) rfl) ?_
          refine OpsQ.yes (Want.bool rfl rfl rfl rfl (by rw [(c7)]; rfl)) rfl (OpR.cast (OpR.pure rfl) (boolE (strEq _ _))) ?_
          refine OpsQ.yes (Want.plain rfl) rfl (OpR.pickT rfl (c7) rfl) ?_
          refine OpsQ.yes (Want.plain rfl) rfl (OpR.pure rfl) ?_
          refine OpsQ.no (Want.bool rfl rfl rfl rfl (by rw [(beq_eq_false_iff_ne.2 c10)]; rfl)) rfl ?_
          refine OpsQ.yes (Want.plain rfl) rfl (OpR.pickF rfl (beq_eq_false_iff_ne.2 c10) rfl) ?_
          refine OpsQ.yes (Want.plain rfl) rfl (OpR.pure rfl) ?_
          exact OpsQ.nil
        · obtain rfl := Option.some.inj ht3
          exact ⟨_, Gst.only [4] rfl, rfl⟩
    · refine T.drawQ drawsX [.val (.string (bs x1)), .sl 1 (List.map byteD x1), .val (.bool x5), .val (.string (bs x1)), .val (.bool x6), .val (.bool (x5 == x6)), .val (.bool (x5 == x6)), .tup [], .tup [], .tup [], .tup [], .tup [], .tup [], .val (.bool false), .val (.bool false), .tup [], .val (.bool false), .val (.bool false)] [0, 1, 4, 5, 6, 7, 8, 9, 10, 11, 12, 13, 14, 15, 16, 17, 18, 19, 20, 21, 22, 23, 24, 25, 26, 27, 28, 29, 30] (by decide +kernel) rfl ?_ rfl ?_
      · refine OpsQ.yes (Want.plain rfl) rfl (OpR.pure rfl) ?_
        refine OpsQ.yes (Want.plain rfl) rfl (OpR.toBytesM rfl rfl rfl rfl rfl rfl rfl) ?_
        refine OpsQ.yes (Want.plain rfl) rfl (OpR.call0 fn25 (quote_Right_c hx5) rfl) ?_
        refine OpsQ.yes (Want.plain rfl) rfl (OpR.pure rfl) ?_
        refine OpsQ.yes (Want.plain rfl) rfl (OpR.call0 fn26 (ref06_Right_c hx6) rfl) ?_
        refine OpsQ.yes (Want.plain rfl) rfl (OpR.eqBool rfl rfl rfl rfl) ?_
        refine OpsQ.yes (Want.plain rfl) rfl (OpR.pure rfl) ?_
        refine OpsQ.no (Want.bool rfl rfl rfl rfl (by rw [(eq_false_of_ne_true c7)]; rfl)) rfl ?_
        refine OpsQ.no (Want.bool rfl rfl rfl rfl (by rw [(eq_false_of_ne_true c7)]; rfl)) rfl ?_
        refine OpsQ.no (Want.bool rfl rfl rfl rfl (by rw [(eq_false_of_ne_true c7)]; rfl)) rfl ?_
        refine OpsQ.no (Want.bool rfl rfl rfl rfl (by rw [(eq_false_of_ne_true c7)]; rfl)) rfl ?_
        refine OpsQ.no (Want.bool rfl rfl rfl rfl (by rw [(eq_false_of_ne_true c7)]; rfl)) rfl ?_
        refine OpsQ.no (Want.bool rfl rfl rfl rfl (by rw [(eq_false_of_ne_true c7)]; rfl)) rfl ?_
        refine OpsQ.yes (Want.plain rfl) rfl (OpR.pickF rfl (eq_false_of_ne_true c7) rfl) ?_
        refine OpsQ.yes (Want.plain rfl) rfl (OpR.pure rfl) ?_
        refine OpsQ.no (Want.bool rfl rfl rfl rfl rfl) rfl ?_
        refine OpsQ.yes (Want.plain rfl) rfl (OpR.pickF rfl rfl rfl) ?_
        refine OpsQ.yes (Want.plain rfl) rfl (OpR.pure rfl) ?_
        exact OpsQ.nil
      · obtain rfl := Option.some.inj ht3
        exact ⟨_, Gst.only [4] rfl, rfl⟩
  · rintro _ rfl
    show T X _ _ _
    refine T.ret ?_
    obtain rfl := Option.some.inj h0
    exact PostG.retP (ks := []) (Gst.only [4] rfl) undef (ResL.cons (ResV.tmp rfl) ResL.nil) rfl rfl rfl rfl
theorem fn29 : IsFn X 29 := ⟨Try.f29, Try.func29, by kernel_rfl, rfl⟩
noncomputable def scan_All.l1 (a0 : List UInt8) (s5 : (List scan_Row) × Int) : Option (Lp ((List scan_Row) × Int) (List scan_Row)) :=
  bnd (scan_reader_done a0 s5.2) fun x13 =>
  if x13 = true then
    some (Lp.done s5.1)
  else
    bnd (scan_reader_row a0 s5.2) fun x15 =>
    bnd (app 32 s5.1 [x15.1]) fun x16 =>
    some (Lp.next (x16, x15.2))
noncomputable def scan_All (a0 : List UInt8) : Option (List scan_Row) :=
  bnd (loop (scan_All.l1 a0) ([], 0) : Option (List scan_Row)) fun t2 =>
  some t2
set_option maxHeartbeats 4000000 in
theorem scan_All_c {a0 : List UInt8} {res : (List scan_Row)} (h0 : scan_All a0 = some res) : CallF X 29 [.sl 1 (List.map byteD a0)] [] (fun x => .sl 2 (List.map e_scan_Row res)) (fun x => []) := by
  unfold scan_All at h0
  refine CallF.mkG (X := X) Try.func29 rfl rfl Try.ntmps29 rfl rfl ?_
  refine T.seq ?_
  refine T.region ?_
  refine TL.op1 (OpR.pure rfl) rfl ?_
  refine TL.nil ?_
  show T X _ _ _
  refine T.seq ?_
  refine T.region ?_
  refine TL.op1 (OpR.pure rfl) rfl ?_
  refine TL.nil ?_
  show T X _ _ _
  refine T.seq ?_
  refine T.seq ?_
  refine T.region ?_
  refine TL.op1 (OpR.pure rfl) rfl ?_
  refine TL.op1 (OpR.build rfl rfl rfl rfl rfl) rfl ?_
  refine TL.op (OpR.boxVar rfl rfl (fun _ => rfl)) rfl (fun p1 => ?_)
  refine TL.op1 (OpR.pure rfl) rfl ?_
  refine TL.nil ?_
  show T X _ _ _
  obtain ⟨t2, ht2, h0⟩ := bnd_some h0
  refine T.cutC (fun S' => ∃ y3 : Value, S' = ⟨[(3, .val y3), (2, .val (.slice none 0 0))], [.row y3 (List.map e_scan_Row t2) 2 48], 17⟩) (fun _ h => h) ?_ ?_
  · refine T.block ?_
    obtain ⟨n6, n11⟩ := loop_some ht2
    refine T.loop (fun n S' => ∃ S'', Gst S' S'' ∧ ∃ y4 : Value, ∃ s5 : (List scan_Row) × Int, S'' = ⟨[(4, .val (.pointer (some ⟨(blk p1), 0, none⟩))), (3, .val y4), (2, .val (.slice none 0 0))], [.row y4 (List.map e_scan_Row s5.1) 2 48, .var (blk p1) [.sl 1 (List.map byteD a0), .val (.int .i64 s5.2)] 121], 17⟩ ∧ iter (scan_All.l1 a0) n s5 = some t2) n6 ?_ ?_
    · exact ⟨_, Gst.trans (Gst.only [2, 3, 4] rfl) (Gst.trans (Gst.nilRow (ow := [.var (blk p1) [.sl 1 (List.map byteD a0), .val (.int .i64 0)] 121]) 2 48 rfl) (Gst.pick [1, 0] rfl rfl)), (.slice none 0 0), ([], 0), rfl, n11⟩
    rintro n6 _ ⟨_, g, y4, s5, rfl, i10⟩
    refine T.ghost g ?_
    obtain ⟨m7, q8, rfl, q9, i10⟩ := iter_succ i10
    unfold scan_All.l1 at q9
    refine T.seq ?_
    refine T.seq ?_
    refine T.region ?_
    refine TL.op1 (OpR.pure rfl) rfl ?_
    obtain ⟨x13, hx13, q9⟩ := bnd_some q9
    refine TL.op1 (OpR.call [1] fn63 (scan_reader_done_c hx13) rfl rfl rfl (fun _ => rfl)) rfl ?_
    refine TL.op1 (OpR.pure rfl) rfl ?_
    refine TL.nil ?_
    show T X _ _ _
    rcases ite_some q9 with ⟨c14, q9⟩ | ⟨c14, q9⟩
    · refine T.condF rfl (not_t (c14)) ?_
      refine T.exit ?_
      obtain rfl := Option.some.inj q9
      obtain rfl : _ = _ := i10
      exact ⟨_, Gst.trans (Gst.only [2, 3] rfl) (Gst.pick [0] rfl rfl), y4, rfl⟩
    · refine T.condT rfl (not_f (eq_false_of_ne_true c14)) ?_
      refine T.skip ?_
      show T X _ _ _
      refine T.block ?_
      refine T.region ?_
      refine TL.op1 (OpR.pure rfl) rfl ?_
      refine TL.op1 (OpR.pure rfl) rfl ?_
      obtain ⟨x15, hx15, q9⟩ := bnd_some q9
      refine TL.op1 (OpR.call [1] fn64 (scan_reader_row_c hx15) rfl rfl rfl (fun _ => rfl)) rfl ?_
      refine TL.op1 (OpR.lit rfl rfl rfl rfl rfl rfl rfl) rfl ?_
      obtain ⟨x16, hx16, q9⟩ := bnd_some q9
      refine TL.op (OpR.appendM (m := [x15.1]) e_scan_Row 0 hx16 rfl rfl rfl rfl rfl rfl rfl rfl rfl (fun _ => rfl)) rfl (fun v17 => ?_)
      refine TL.op1 (OpR.pure rfl) rfl ?_
      refine TL.nil ?_
      obtain rfl := Option.some.inj q9
      exact ⟨m7, Nat.lt_succ_self _, _, Gst.only [2, 3, 4] rfl, v17, (x16, x15.2), rfl, i10⟩
  · rintro _ ⟨y3, rfl⟩
    show T X _ _ _
    refine T.seq ?_
    refine T.region ?_
    refine TL.op1 (OpR.pure rfl) rfl ?_
    refine TL.op1 (OpR.pure rfl) rfl ?_
    refine TL.nil ?_
    show T X _ _ _
    refine T.ret ?_
    obtain rfl := Option.some.inj h0
    exact PostG.retP (ks := []) (Gst.trans (Gst.only [2] rfl) (Gst.trans (Gst.freezeRow 0 rfl rfl (ReS.cons (Re.base .all) ReS.nil) (ReO.same ReO.nil)) (Gst.pick [] rfl rfl))) undef (ResL.cons (ResV.tmp rfl) ResL.nil) rfl rfl rfl rfl
theorem fn7 : IsFn X 7 := ⟨Try.f7, Try.func7, by kernel_rfl, rfl⟩
noncomputable def law06_QuoteRows.l1 (a0 : List (List (List UInt8))) (s4 : (List UInt8) × Int × (List (List (List UInt8)))) : Option (Lp ((List UInt8) × Int × (List (List (List UInt8)))) ((List UInt8) × (List (List (List UInt8))))) :=
  if s4.2.1 < (a0.length : Int) then
    bnd (bnd (idx a0 s4.2.1) fun x15 =>
    bnd (law06_texts x15) fun x16 =>
    bnd (if s4.2.1 ≥ 5 then
      some true
    else
      some ((x16.1.length : Int) == 0) : Option Bool) fun t17 =>
    if t17 = true then
      some (s4.1, s4.2.2)
    else
      bnd (quote_Join x16.2) fun x20 =>
      bnd (catS s4.1 x20) fun x21 =>
      bnd (catS x21 [13, 10]) fun x22 =>
      bnd (app 24 s4.2.2 [x16.1]) fun x23 =>
      some (x22, x23) : Option ((List UInt8) × (List (List (List UInt8))))) fun t13 =>
    some (Lp.next (t13.1, w64 (s4.2.1 + 1), t13.2))
  else
    some (Lp.done (s4.1, s4.2.2))
noncomputable def law06_QuoteRows.l2 (t1 : (List UInt8) × (List (List (List UInt8)))) (s32 : Int) (x41 : scan_Row) (s50 : Int) : Option (Lp Int (Ex Unit Bool)) :=
  if s50 < (x41.fFields.length : Int) then
    bnd (idx x41.fFields s50) fun x59 =>
    bnd (scan_Value t1.1 x59) fun x62 =>
    bnd (idx t1.2 s32) fun x63 =>
    bnd (idx x63 s50) fun x64 =>
    if x62 = x64 then
      some (Lp.next (w64 (s50 + 1)))
    else
      some (Lp.done (Ex.ret false))
  else
    some (Lp.done (Ex.brk ()))
noncomputable def law06_QuoteRows.l3 (t1 : (List UInt8) × (List (List (List UInt8)))) (x25 : (List scan_Row)) (s32 : Int) : Option (Lp Int (Ex Unit Bool)) :=
  if s32 < (x25.length : Int) then
    bnd (idx x25 s32) fun x41 =>
    bnd (bnd (idx t1.2 s32) fun x45 =>
    if (x41.fFields.length : Int) = (x45.length : Int) then
      some (!(x41.fEnd == 2))
    else
      some true : Option Bool) fun t43 =>
    if t43 = true then
      some (Lp.done (Ex.ret false))
    else
      bnd (loop (law06_QuoteRows.l2 t1 s32 x41) 0 : Option (Ex Unit Bool)) fun t48 => match t48 with
        | .brk u49 =>
          some (Lp.next (w64 (s32 + 1)))
        | .ret u49 => some (Lp.done (Ex.ret u49))
  else
    some (Lp.done (Ex.brk ()))
noncomputable def law06_QuoteRows (a0 : List (List (List UInt8))) : Option Bool :=
  bnd (loop (law06_QuoteRows.l1 a0) ([], 0, []) : Option ((List UInt8) × (List (List (List UInt8))))) fun t1 =>
  bnd (scan_All t1.1) fun x25 =>
  bnd (if (x25.length : Int) = (t1.2.length : Int) then
    bnd (quote_Right t1.1) fun x28 =>
    some (!x28)
  else
    some true : Option Bool) fun t26 =>
  if t26 = true then
    some false
  else
    bnd (loop (law06_QuoteRows.l3 t1 x25) 0 : Option (Ex Unit Bool)) fun t30 => match t30 with
      | .brk u31 =>
        bnd (law06_awake) fun x66 =>
        some x66
      | .ret u31 => some u31
set_option maxHeartbeats 4000000 in
theorem law06_QuoteRows_c {a0 : List (List (List UInt8))} {res : Bool} (h0 : law06_QuoteRows a0 = some res) : CallF X 7 [.sl 1 (List.map e_sl36 a0)] [] (fun x => .val (.bool res)) (fun x => []) := by
  unfold law06_QuoteRows at h0
  refine CallF.mkG (X := X) Try.func7 rfl rfl Try.ntmps7 rfl rfl ?_
  refine T.seq ?_
  refine T.region ?_
  refine TL.op1 (OpR.pure rfl) rfl ?_
  refine TL.nil ?_
  show T X _ _ _
  refine T.seq ?_
  refine T.region ?_
  refine TL.op1 (OpR.pure rfl) rfl ?_
  refine TL.nil ?_
  show T X _ _ _
  refine T.seq ?_
  refine T.region ?_
  refine TL.op1 (OpR.pure rfl) rfl ?_
  refine TL.nil ?_
  show T X _ _ _
  refine T.seq ?_
  refine T.seq ?_
  refine T.region ?_
  refine TL.op1 (OpR.pure rfl) rfl ?_
  refine TL.op1 (OpR.cast (OpR.pure rfl) (intE (lenM _ _))) rfl ?_
  refine TL.op1 (OpR.pure rfl) rfl ?_
  refine TL.nil ?_
  show T X _ _ _
  obtain ⟨t1, ht1, h0⟩ := bnd_some h0
  refine T.cutC (fun S' => ∃ y2 : Value, S' = ⟨[(4, .val y2), (3, .val (.string (bs t1.1))), (2, .val (.bool false))], [.row y2 (List.map e_sl36 t1.2) 1 36], 103⟩) (fun _ h => h) ?_ ?_
  · refine T.block ?_
    obtain ⟨n5, n10⟩ := loop_some ht1
    refine T.loop (fun n S' => ∃ S'', Gst S' S'' ∧ ∃ y3 : Value, ∃ s4 : (List UInt8) × Int × (List (List (List UInt8))), S'' = ⟨[(16, .val (.int .i64 s4.2.1)), (15, .val (.int .i64 (a0.length : Int))), (14, .sl 1 (List.map e_sl36 a0)), (4, .val y3), (3, .val (.string (bs s4.1))), (2, .val (.bool false))], [.row y3 (List.map e_sl36 s4.2.2) 1 36], 103⟩ ∧ iter (law06_QuoteRows.l1 a0) n s4 = some t1) n5 ?_ ?_
    · exact ⟨_, Gst.trans (Gst.only [2, 3, 4, 14, 15, 16] rfl) (Gst.nilRow (ow := []) 1 36 rfl), (.slice none 0 0), ([], 0, []), rfl, n10⟩
    rintro n5 _ ⟨_, g, y3, s4, rfl, i9⟩
    refine T.ghost g ?_
    obtain ⟨m6, q7, rfl, q8, i9⟩ := iter_succ i9
    unfold law06_QuoteRows.l1 at q8
    refine T.seq ?_
    refine T.region ?_
    refine TL.op1 (OpR.pure rfl) rfl ?_
    refine TL.nil ?_
    show T X _ _ _
    refine T.seq ?_
    rcases ite_some q8 with ⟨c12, q8⟩ | ⟨c12, q8⟩
    · refine T.condT rfl (decide_eq_true c12) ?_
      refine T.skip ?_
      show T X _ _ _
      refine T.seq ?_
      obtain ⟨t13, ht13, q8⟩ := bnd_some q8
      refine T.cutC (fun S' => ∃ y14 : Value, S' = ⟨[(16, .val (.int .i64 s4.2.1)), (15, .val (.int .i64 (a0.length : Int))), (14, .sl 1 (List.map e_sl36 a0)), (4, .val y14), (3, .val (.string (bs t13.1))), (2, .val (.bool false))], [.row y14 (List.map e_sl36 t13.2) 1 36], 103⟩) (fun _ h => h) ?_ ?_
      · refine T.block ?_
        refine T.seq ?_
        refine T.region ?_
        refine TL.op1 (OpR.pure rfl) rfl ?_
        obtain ⟨x15, hx15, ht13⟩ := bnd_some ht13
        refine TL.op1 (OpR.indexM e_sl36 hx15 rfl rfl rfl rfl rfl) rfl ?_
        refine TL.op1 (OpR.pure rfl) rfl ?_
        refine TL.op1 (OpR.pure rfl) rfl ?_
        refine TL.op1 (OpR.pure rfl) rfl ?_
        refine TL.nil ?_
        show T X _ _ _
        refine T.seq ?_
        refine T.region ?_
        refine TL.op1 (OpR.pure rfl) rfl ?_
        obtain ⟨x16, hx16, ht13⟩ := bnd_some ht13
        refine TL.op1 (OpR.call0 fn24 (law06_texts_c hx16) rfl) rfl ?_
        refine TL.op1 (OpR.pure rfl) rfl ?_
        refine TL.op1 (OpR.pure rfl) rfl ?_
        refine TL.op1 (OpR.pure rfl) rfl ?_
        refine TL.op1 (OpR.pure rfl) rfl ?_
        refine TL.op1 (OpR.pure rfl) rfl ?_
        refine TL.nil ?_
        show T X _ _ _
        refine T.seq ?_
        refine T.seq ?_
        obtain ⟨t17, ht17, ht13⟩ := bnd_some ht13
        refine T.cutC (fun S' => S' = ⟨[(32, .val (.bool t17)), (16, .val (.int .i64 s4.2.1)), (15, .val (.int .i64 (a0.length : Int))), (14, .sl 1 (List.map e_sl36 a0)), (8, .sl 1 (List.map e_sl25 x16.2)), (7, .sl 1 (List.map eS x16.1)), (4, .val y3), (3, .val (.string (bs s4.1))), (2, .val (.bool false))], [.row y3 (List.map e_sl36 s4.2.2) 1 36], 103⟩) (fun _ h => h) ?_ ?_
        · refine T.region ?_
          refine TL.op1 (OpR.pure rfl) rfl ?_
          refine TL.op1 (OpR.pure rfl) rfl ?_
          refine TL.op1 (OpR.pure rfl) rfl ?_
          rcases ite_some ht17 with ⟨c18, ht17⟩ | ⟨c18, ht17⟩
          · refine TL.off rfl rfl rfl rfl (decide_eq_true c18) rfl rfl ?_
            refine TL.off rfl rfl rfl rfl (decide_eq_true c18) rfl rfl ?_
            refine TL.off rfl rfl rfl rfl (decide_eq_true c18) rfl rfl ?_
            refine TL.op1 (OpR.pickT rfl (decide_eq_true c18) rfl) rfl ?_
            refine TL.nil ?_
            obtain rfl := Option.some.inj ht17
            exact ⟨_, Gst.only [2, 3, 4, 7, 8, 14, 15, 16, 32] rfl, rfl⟩
          · refine TL.on rfl rfl rfl rfl (decide_eq_false c18) ?_
            refine TL.op1 (OpR.pure rfl) rfl ?_
            refine TL.on rfl rfl rfl rfl (decide_eq_false c18) ?_
            refine TL.op1 (OpR.cast (OpR.pure rfl) (intE (lenM _ _))) rfl ?_
            refine TL.on rfl rfl rfl rfl (decide_eq_false c18) ?_
            refine TL.op1 (OpR.pure rfl) rfl ?_
            refine TL.op1 (OpR.pickF rfl (decide_eq_false c18) rfl) rfl ?_
            refine TL.nil ?_
            obtain rfl := Option.some.inj ht17
            exact ⟨_, Gst.only [2, 3, 4, 7, 8, 14, 15, 16, 32] rfl, rfl⟩
        · rintro _ rfl
          show T X _ _ _
          rcases ite_some ht13 with ⟨c19, ht13⟩ | ⟨c19, ht13⟩
          · refine T.condT rfl (c19) ?_
            refine T.exit ?_
            obtain rfl := Option.some.inj ht13
            exact ⟨_, Gst.only [2, 3, 4, 14, 15, 16] rfl, y3, rfl⟩
          · refine T.condF rfl (eq_false_of_ne_true c19) ?_
            refine T.skip ?_
            show T X _ _ _
            refine T.seq ?_
            refine T.region ?_
            refine TL.op1 (OpR.pure rfl) rfl ?_
            refine TL.op1 (OpR.pure rfl) rfl ?_
            obtain ⟨x20, hx20, ht13⟩ := bnd_some ht13
            refine TL.op1 (OpR.call0 fn27 (quote_Join_c hx20) rfl) rfl ?_
            refine TL.op1 (OpR.toStr (bs := x20) rfl rfl rfl rfl rfl rfl rfl) rfl ?_
            obtain ⟨x21, hx21, ht13⟩ := bnd_some ht13
            refine TL.op1 (OpR.concatM hx21 rfl rfl) rfl ?_
            obtain ⟨x22, hx22, ht13⟩ := bnd_some ht13
            refine TL.op1 (OpR.concatM hx22 rfl rfl) rfl ?_
            refine TL.op1 (OpR.pure rfl) rfl ?_
            refine TL.nil ?_
            show T X _ _ _
            refine T.region ?_
            refine TL.op1 (OpR.pure rfl) rfl ?_
            refine TL.op1 (OpR.pure rfl) rfl ?_
            refine TL.op1 (OpR.lit rfl rfl rfl rfl rfl rfl rfl) rfl ?_
            obtain ⟨x23, hx23, ht13⟩ := bnd_some ht13
            refine TL.op (OpR.appendM (m := [x16.1]) e_sl36 0 hx23 rfl rfl rfl rfl rfl rfl rfl rfl rfl (fun _ => rfl)) rfl (fun v24 => ?_)
            refine TL.op1 (OpR.pure rfl) rfl ?_
            refine TL.nil ?_
            obtain rfl := Option.some.inj ht13
            exact ⟨_, Gst.only [2, 3, 4, 14, 15, 16] rfl, v24, rfl⟩
      · rintro _ ⟨y14, rfl⟩
        show T X _ _ _
        refine T.region ?_
        refine TL.op1 (OpR.pure rfl) rfl ?_
        refine TL.op1 (OpR.pure rfl) rfl ?_
        refine TL.nil ?_
        obtain rfl := Option.some.inj q8
        exact ⟨m6, Nat.lt_succ_self _, _, Gst.only [2, 3, 4, 14, 15, 16] rfl, y14, (t13.1, w64 (s4.2.1 + 1), t13.2), rfl, i9⟩
    · refine T.condF rfl (decide_eq_false c12) ?_
      refine T.exit ?_
      obtain rfl := Option.some.inj q8
      obtain rfl : _ = _ := i9
      exact ⟨_, Gst.only [2, 3, 4] rfl, y3, rfl⟩
  · rintro _ ⟨y2, rfl⟩
    show T X _ _ _
    refine T.seq ?_
    refine T.region ?_
    refine TL.op1 (OpR.pure rfl) rfl ?_
    refine TL.op1 (OpR.toBytesM rfl rfl rfl rfl rfl rfl rfl) rfl ?_
    obtain ⟨x25, hx25, h0⟩ := bnd_some h0
    refine TL.op1 (OpR.call0 fn29 (scan_All_c hx25) rfl) rfl ?_
    refine TL.op1 (OpR.pure rfl) rfl ?_
    refine TL.nil ?_
    show T X _ _ _
    refine T.seq ?_
    refine T.seq ?_
    obtain ⟨t26, ht26, h0⟩ := bnd_some h0
    refine T.cutC (fun S' => S' = ⟨[(57, .val (.bool t26)), (9, .sl 2 (List.map e_scan_Row x25)), (4, .val y2), (3, .val (.string (bs t1.1))), (2, .val (.bool false))], [.row y2 (List.map e_sl36 t1.2) 1 36], 103⟩) (fun _ h => h) ?_ ?_
    · refine T.region ?_
      refine TL.op1 (OpR.pure rfl) rfl ?_
      refine TL.op1 (OpR.cast (OpR.pure rfl) (intE (lenM _ _))) rfl ?_
      refine TL.op1 (OpR.pure rfl) rfl ?_
      refine TL.op1 (OpR.rowLenM e_sl36 0 rfl rfl rfl rfl) rfl ?_
      refine TL.op1 (OpR.pure rfl) rfl ?_
      refine TL.op1 (OpR.pure rfl) rfl ?_
      rcases ite_some ht26 with ⟨c27, ht26⟩ | ⟨c27, ht26⟩
      · refine TL.on rfl rfl rfl rfl (not_t (beq_iff_eq.2 c27)) ?_
        refine TL.op1 (OpR.pure rfl) rfl ?_
        refine TL.on rfl rfl rfl rfl (not_t (beq_iff_eq.2 c27)) ?_
        refine TL.op1 (OpR.toBytesM rfl rfl rfl rfl rfl rfl rfl) rfl ?_
        refine TL.on rfl rfl rfl rfl (not_t (beq_iff_eq.2 c27)) ?_
        obtain ⟨x28, hx28, ht26⟩ := bnd_some ht26
        refine TL.op1 (OpR.call0 fn25 (quote_Right_c hx28) rfl) rfl ?_
        refine TL.on rfl rfl rfl rfl (not_t (beq_iff_eq.2 c27)) ?_
        refine TL.op1 (OpR.pure rfl) rfl ?_
        refine TL.op1 (OpR.pickF rfl (not_t (beq_iff_eq.2 c27)) rfl) rfl ?_
        refine TL.nil ?_
        obtain rfl := Option.some.inj ht26
        exact ⟨_, Gst.only [2, 3, 4, 9, 57] rfl, rfl⟩
      · refine TL.off rfl rfl rfl rfl (not_f (beq_eq_false_iff_ne.2 c27)) rfl rfl ?_
        refine TL.off rfl rfl rfl rfl (not_f (beq_eq_false_iff_ne.2 c27)) rfl rfl ?_
        refine TL.off rfl rfl rfl rfl (not_f (beq_eq_false_iff_ne.2 c27)) rfl rfl ?_
        refine TL.off rfl rfl rfl rfl (not_f (beq_eq_false_iff_ne.2 c27)) rfl rfl ?_
        refine TL.op1 (OpR.pickT rfl (not_f (beq_eq_false_iff_ne.2 c27)) rfl) rfl ?_
        refine TL.nil ?_
        obtain rfl := Option.some.inj ht26
        exact ⟨_, Gst.only [2, 3, 4, 9, 57] rfl, rfl⟩
    · rintro _ rfl
      show T X _ _ _
      rcases ite_some h0 with ⟨c29, h0⟩ | ⟨c29, h0⟩
      · refine T.condT rfl (c29) ?_
        refine T.seq ?_
        refine T.region ?_
        refine TL.op1 (OpR.pure rfl) rfl ?_
        refine TL.nil ?_
        show T X _ _ _
        refine T.ret ?_
        obtain rfl := Option.some.inj h0
        exact PostG.retP (ks := []) (Gst.trans (Gst.only [2] rfl) (Gst.pick [] rfl rfl)) undef (ResL.cons (ResV.tmp rfl) ResL.nil) rfl rfl rfl rfl
      · refine T.condF rfl (eq_false_of_ne_true c29) ?_
        refine T.skip ?_
        show T X _ _ _
        refine T.seq ?_
        refine T.seq ?_
        refine T.region ?_
        refine TL.op1 (OpR.pure rfl) rfl ?_
        refine TL.op1 (OpR.cast (OpR.pure rfl) (intE (lenM _ _))) rfl ?_
        refine TL.op1 (OpR.pure rfl) rfl ?_
        refine TL.nil ?_
        show T X _ _ _
        obtain ⟨t30, ht30, h0⟩ := bnd_some h0
        refine T.cutC (fun S' => ∃ u31, t30 = Ex.brk u31 ∧ S' = ⟨[(2, .val (.bool false))], [], 103⟩) (fun _ h => h) ?_ ?_
        · refine T.block ?_
          obtain ⟨n33, n38⟩ := loop_some ht30
          refine T.loop (fun n S' => ∃ S'', Gst S' S'' ∧ ∃ s32 : Int, S'' = ⟨[(60, .val (.int .i64 s32)), (59, .val (.int .i64 (x25.length : Int))), (58, .sl 2 (List.map e_scan_Row x25)), (4, .val y2), (3, .val (.string (bs t1.1))), (2, .val (.bool false))], [.row y2 (List.map e_sl36 t1.2) 1 36], 103⟩ ∧ iter (law06_QuoteRows.l3 t1 x25) n s32 = some t30) n33 ?_ ?_
          · exact ⟨_, Gst.only [2, 3, 4, 58, 59, 60] rfl, 0, rfl, n38⟩
          rintro n33 _ ⟨_, g, s32, rfl, i37⟩
          refine T.ghost g ?_
          obtain ⟨m34, q35, rfl, q36, i37⟩ := iter_succ i37
          unfold law06_QuoteRows.l3 at q36
          refine T.seq ?_
          refine T.region ?_
          refine TL.op1 (OpR.pure rfl) rfl ?_
          refine TL.nil ?_
          show T X _ _ _
          refine T.seq ?_
          rcases ite_some q36 with ⟨c40, q36⟩ | ⟨c40, q36⟩
          · refine T.condT rfl (decide_eq_true c40) ?_
            refine T.skip ?_
            show T X _ _ _
            refine T.seq ?_
            refine T.block ?_
            refine T.seq ?_
            refine T.region ?_
            refine TL.op1 (OpR.pure rfl) rfl ?_
            obtain ⟨x41, hx41, q36⟩ := bnd_some q36
            refine TL.op1 (OpR.indexM e_scan_Row hx41 rfl rfl rfl rfl rfl) rfl ?_
            refine TL.op1 (OpR.pure rfl) rfl ?_
            refine TL.op (OpR.alloc rfl rfl (fun _ => rfl)) rfl (fun p42 => ?_)
            refine TL.op1 (OpR.pure rfl) rfl ?_
            refine TL.op0 (OpR.store 1 rfl rfl rfl rfl rfl rfl rfl rfl) ?_
            refine TL.nil ?_
            show T X _ _ _
            refine T.seq ?_
            refine T.seq ?_
            obtain ⟨t43, ht43, q36⟩ := bnd_some q36
            refine T.cutC (fun S' => S' = ⟨[(78, .val (.bool t43)), (60, .val (.int .i64 s32)), (59, .val (.int .i64 (x25.length : Int))), (58, .sl 2 (List.map e_scan_Row x25)), (11, .val (.pointer (some ⟨(blk p42), 0, none⟩))), (10, .val (.int .i64 s32)), (4, .val y2), (3, .val (.string (bs t1.1))), (2, .val (.bool false))], [.row y2 (List.map e_sl36 t1.2) 1 36, .var (blk p42) [.sl 4 (List.map e_scan_Field x41.fFields), .val (.int .i64 x41.fEnd)] 48], 103⟩) (fun _ h => h) ?_ ?_
            · obtain ⟨x45, hx45, ht43⟩ := bnd_some ht43
              rcases ite_some ht43 with ⟨c46, ht43⟩ | ⟨c46, ht43⟩
              · refine T.drawQ drawsX [.val (.pointer (some ⟨(blk p42), 0, none⟩)), .sl 4 (List.map e_scan_Field x41.fFields), .val (.int .i64 (x41.fFields.length : Int)), .val y2, .val (.int .i64 s32), .val (.pointer (some ⟨blk y2, s32.toNat * 1, none⟩)), .sl 1 (List.map eS x45), .val (.int .i64 (x45.length : Int)), .val (.bool (!((x41.fFields.length : Int) == (x45.length : Int)))), .val (.bool (!((x41.fFields.length : Int) == (x45.length : Int)))), .val (.pointer (some ⟨(blk p42), 1, none⟩)), .val (.int .i64 x41.fEnd), .val (.bool (!(x41.fEnd == 2))), .val (.bool (!(x41.fEnd == 2)))] [2, 3, 4, 10, 11, 58, 59, 60, 61, 62, 63, 64, 65, 66, 67, 68, 69, 71, 72, 73, 74, 75, 76, 77, 78] (by decide +kernel) rfl ?_ rfl ?_
                · refine OpsQ.yes (Want.plain rfl) rfl (OpR.pure rfl) ?_
                  refine OpsQ.yes (Want.plain rfl) rfl (OpR.loadPtr 1 rfl rfl rfl rfl) ?_
                  refine OpsQ.yes (Want.plain rfl) rfl (OpR.cast (OpR.pure rfl) (intE (lenM _ _))) ?_
                  refine OpsQ.yes (Want.plain rfl) rfl (OpR.pure rfl) ?_
                  refine OpsQ.yes (Want.plain rfl) rfl (OpR.pure rfl) ?_
                  refine OpsQ.yes (Want.plain rfl) rfl (OpR.rowIndexM e_sl36 0 hx45 rfl rfl rfl rfl rfl rfl rfl) ?_
                  refine OpsQ.yes (Want.plain rfl) rfl (OpR.rowLoad0M (j := s32) e_sl36 0 hx45 rfl rfl rfl rfl) ?_
                  refine OpsQ.yes (Want.plain rfl) rfl (OpR.cast (OpR.pure rfl) (intE (lenM _ _))) ?_
                  refine OpsQ.yes (Want.plain rfl) rfl (OpR.pure rfl) ?_
                  refine OpsQ.yes (Want.plain rfl) rfl (OpR.pure rfl) ?_
                  refine OpsQ.yes (Want.bool rfl rfl rfl rfl (by rw [(not_t (beq_iff_eq.2 c46))]; rfl)) rfl (OpR.pure rfl) ?_
                  refine OpsQ.yes (Want.bool rfl rfl rfl rfl (by rw [(not_t (beq_iff_eq.2 c46))]; rfl)) rfl (OpR.loadPtr 1 rfl rfl rfl rfl) ?_
                  refine OpsQ.yes (Want.bool rfl rfl rfl rfl (by rw [(not_t (beq_iff_eq.2 c46))]; rfl)) rfl (OpR.pure rfl) ?_
                  refine OpsQ.yes (Want.plain rfl) rfl (OpR.pickF rfl (not_t (beq_iff_eq.2 c46)) rfl) ?_
                  exact OpsQ.nil
                · obtain rfl := Option.some.inj ht43
                  exact ⟨_, Gst.only [2, 3, 4, 10, 11, 58, 59, 60, 78] rfl, rfl⟩
              · refine T.drawQ drawsX [.val (.pointer (some ⟨(blk p42), 0, none⟩)), .sl 4 (List.map e_scan_Field x41.fFields), .val (.int .i64 (x41.fFields.length : Int)), .val y2, .val (.int .i64 s32), .val (.pointer (some ⟨blk y2, s32.toNat * 1, none⟩)), .sl 1 (List.map eS x45), .val (.int .i64 (x45.length : Int)), .val (.bool (!((x41.fFields.length : Int) == (x45.length : Int)))), .val (.bool (!((x41.fFields.length : Int) == (x45.length : Int)))), .tup [], .tup [], .tup [], .val (.bool true)] [2, 3, 4, 10, 11, 58, 59, 60, 61, 62, 63, 64, 65, 66, 67, 68, 69, 71, 72, 73, 74, 75, 76, 77, 78] (by decide +kernel) rfl ?_ rfl ?_
                · refine OpsQ.yes (Want.plain rfl) rfl (OpR.pure rfl) ?_
                  refine OpsQ.yes (Want.plain rfl) rfl (OpR.loadPtr 1 rfl rfl rfl rfl) ?_
                  refine OpsQ.yes (Want.plain rfl) rfl (OpR.cast (OpR.pure rfl) (intE (lenM _ _))) ?_
                  refine OpsQ.yes (Want.plain rfl) rfl (OpR.pure rfl) ?_
                  refine OpsQ.yes (Want.plain rfl) rfl (OpR.pure rfl) ?_
                  refine OpsQ.yes (Want.plain rfl) rfl (OpR.rowIndexM e_sl36 0 hx45 rfl rfl rfl rfl rfl rfl rfl) ?_
                  refine OpsQ.yes (Want.plain rfl) rfl (OpR.rowLoad0M (j := s32) e_sl36 0 hx45 rfl rfl rfl rfl) ?_
                  refine OpsQ.yes (Want.plain rfl) rfl (OpR.cast (OpR.pure rfl) (intE (lenM _ _))) ?_
                  refine OpsQ.yes (Want.plain rfl) rfl (OpR.pure rfl) ?_
                  refine OpsQ.yes (Want.plain rfl) rfl (OpR.pure rfl) ?_
                  refine OpsQ.no (Want.bool rfl rfl rfl rfl (by rw [(not_f (beq_eq_false_iff_ne.2 c46))]; rfl)) rfl ?_
                  refine OpsQ.no (Want.bool rfl rfl rfl rfl (by rw [(not_f (beq_eq_false_iff_ne.2 c46))]; rfl)) rfl ?_
                  refine OpsQ.no (Want.bool rfl rfl rfl rfl (by rw [(not_f (beq_eq_false_iff_ne.2 c46))]; rfl)) rfl ?_
                  refine OpsQ.yes (Want.plain rfl) rfl (OpR.pickT rfl (not_f (beq_eq_false_iff_ne.2 c46)) rfl) ?_
                  exact OpsQ.nil
                · obtain rfl := Option.some.inj ht43
                  exact ⟨_, Gst.only [2, 3, 4, 10, 11, 58, 59, 60, 78] rfl, rfl⟩
            · rintro _ rfl
              show T X _ _ _
              rcases ite_some q36 with ⟨c47, q36⟩ | ⟨c47, q36⟩
              · refine T.condT rfl (c47) ?_
                refine T.seq ?_
                refine T.region ?_
                refine TL.op1 (OpR.pure rfl) rfl ?_
                refine TL.nil ?_
                show T X _ _ _
                refine T.ret ?_
                obtain rfl := Option.some.inj q36
                obtain rfl : _ = _ := i37
                obtain rfl := Option.some.inj h0
                exact PostG.retP (ks := []) (Gst.trans (Gst.only [2] rfl) (Gst.pick [] rfl rfl)) undef (ResL.cons (ResV.tmp rfl) ResL.nil) rfl rfl rfl rfl
              · refine T.condF rfl (eq_false_of_ne_true c47) ?_
                refine T.skip ?_
                show T X _ _ _
                refine T.seq ?_
                refine T.region ?_
                refine TL.op1 (OpR.pure rfl) rfl ?_
                refine TL.op1 (OpR.loadPtr 1 rfl rfl rfl rfl) rfl ?_
                refine TL.op1 (OpR.cast (OpR.pure rfl) (intE (lenM _ _))) rfl ?_
                refine TL.op1 (OpR.pure rfl) rfl ?_
                refine TL.nil ?_
                show T X _ _ _
                obtain ⟨t48, ht48, q36⟩ := bnd_some q36
                refine T.cutC (fun S' => ∃ u49, t48 = Ex.brk u49 ∧ S' = ⟨[(60, .val (.int .i64 s32)), (59, .val (.int .i64 (x25.length : Int))), (58, .sl 2 (List.map e_scan_Row x25)), (4, .val y2), (3, .val (.string (bs t1.1))), (2, .val (.bool false))], [.row y2 (List.map e_sl36 t1.2) 1 36], 103⟩) (fun _ h => h) ?_ ?_
                · refine T.block ?_
                  obtain ⟨n51, n56⟩ := loop_some ht48
                  refine T.loop (fun n S' => ∃ S'', Gst S' S'' ∧ ∃ s50 : Int, S'' = ⟨[(82, .val (.int .i64 s50)), (81, .val (.int .i64 (x41.fFields.length : Int))), (80, .sl 4 (List.map e_scan_Field x41.fFields)), (60, .val (.int .i64 s32)), (59, .val (.int .i64 (x25.length : Int))), (58, .sl 2 (List.map e_scan_Row x25)), (10, .val (.int .i64 s32)), (4, .val y2), (3, .val (.string (bs t1.1))), (2, .val (.bool false))], [.row y2 (List.map e_sl36 t1.2) 1 36], 103⟩ ∧ iter (law06_QuoteRows.l2 t1 s32 x41) n s50 = some t48) n51 ?_ ?_
                  · exact ⟨_, Gst.trans (Gst.only [2, 3, 4, 10, 58, 59, 60, 80, 81, 82] rfl) (Gst.pick [0] rfl rfl), 0, rfl, n56⟩
                  rintro n51 _ ⟨_, g, s50, rfl, i55⟩
                  refine T.ghost g ?_
                  obtain ⟨m52, q53, rfl, q54, i55⟩ := iter_succ i55
                  unfold law06_QuoteRows.l2 at q54
                  refine T.seq ?_
                  refine T.region ?_
                  refine TL.op1 (OpR.pure rfl) rfl ?_
                  refine TL.nil ?_
                  show T X _ _ _
                  refine T.seq ?_
                  rcases ite_some q54 with ⟨c58, q54⟩ | ⟨c58, q54⟩
                  · refine T.condT rfl (decide_eq_true c58) ?_
                    refine T.skip ?_
                    show T X _ _ _
                    refine T.seq ?_
                    refine T.block ?_
                    refine T.seq ?_
                    refine T.region ?_
                    refine TL.op1 (OpR.pure rfl) rfl ?_
                    obtain ⟨x59, hx59, q54⟩ := bnd_some q54
                    refine TL.op1 (OpR.indexM e_scan_Field hx59 rfl rfl rfl rfl rfl) rfl ?_
                    refine TL.op1 (OpR.pure rfl) rfl ?_
                    refine TL.op (OpR.alloc rfl rfl (fun _ => rfl)) rfl (fun p60 => ?_)
                    refine TL.op1 (OpR.pure rfl) rfl ?_
                    refine TL.op0 (OpR.store 1 rfl rfl rfl rfl rfl rfl rfl rfl) ?_
                    refine TL.nil ?_
                    show T X _ _ _
                    refine T.seq ?_
                    obtain ⟨x62, hx62, q54⟩ := bnd_some q54
                    obtain ⟨x63, hx63, q54⟩ := bnd_some q54
                    obtain ⟨x64, hx64, q54⟩ := bnd_some q54
                    refine T.drawQ drawsX [.val (.string (bs t1.1)), .sl 1 (List.map byteD t1.1), .agg [.val (.int .i64 x59.fRaw.fAt), .val (.int .i64 x59.fRaw.fN), .val (.int .i64 x59.fKind), .sl 2 (List.map e_arena_Span x59.fParts)], .sl 1 (List.map byteD x62), .val (.string (bs x62)), .val y2, .val (.int .i64 s32), .val (.pointer (some ⟨blk y2, s32.toNat * 1, none⟩)), .sl 1 (List.map eS x63), .val (.int .i64 s50), .nod [.val (.string (bs x64))], .val (.string (bs x64)), .val (.bool (!(x62 == x64)))] [2, 3, 4, 10, 12, 13, 58, 59, 60, 80, 81, 82, 83, 84, 85, 86, 87, 88, 89, 90, 91, 92, 93, 95, 96, 97, 98, 99] (by decide +kernel) rfl ?_ rfl ?_
                    · refine OpsQ.yes (Want.plain rfl) rfl (OpR.pure rfl) ?_
                      refine OpsQ.yes (Want.plain rfl) rfl (OpR.toBytesM rfl rfl rfl rfl rfl rfl rfl) ?_
                      refine OpsQ.yes (Want.plain rfl) rfl (OpR.loadPtr 1 rfl rfl rfl rfl) ?_
                      refine OpsQ.yes (Want.plain rfl) rfl (OpR.call0 fn30 (scan_Value_c hx62) rfl) ?_
                      refine OpsQ.yes (Want.plain rfl) rfl (OpR.toStr (bs := x62) rfl rfl rfl rfl rfl rfl rfl) ?_
                      refine OpsQ.yes (Want.plain rfl) rfl (OpR.pure rfl) ?_
                      refine OpsQ.yes (Want.plain rfl) rfl (OpR.pure rfl) ?_
                      refine OpsQ.yes (Want.plain rfl) rfl (OpR.rowIndexM e_sl36 0 hx63 rfl rfl rfl rfl rfl rfl rfl) ?_
                      refine OpsQ.yes (Want.plain rfl) rfl (OpR.rowLoad0M (j := s32) e_sl36 0 hx63 rfl rfl rfl rfl) ?_
                      refine OpsQ.yes (Want.plain rfl) rfl (OpR.pure rfl) ?_
                      refine OpsQ.yes (Want.plain rfl) rfl (OpR.indexM eS hx64 rfl rfl rfl rfl rfl) ?_
                      refine OpsQ.yes (Want.plain rfl) rfl (OpR.pure rfl) ?_
                      refine OpsQ.yes (Want.plain rfl) rfl (OpR.cast (OpR.pure rfl) (boolE (strNe _ _))) ?_
                      exact OpsQ.nil
                    · show T X _ _ _
                      rcases ite_some q54 with ⟨c65, q54⟩ | ⟨c65, q54⟩
                      · refine T.condF rfl (not_t (beq_iff_eq.2 c65)) ?_
                        refine T.skip ?_
                        show T X _ _ _
                        refine T.region ?_
                        refine TL.op1 (OpR.pure rfl) rfl ?_
                        refine TL.op1 (OpR.pure rfl) rfl ?_
                        refine TL.nil ?_
                        obtain rfl := Option.some.inj q54
                        exact ⟨m52, Nat.lt_succ_self _, _, Gst.trans (Gst.only [2, 3, 4, 10, 58, 59, 60, 80, 81, 82] rfl) (Gst.pick [0] rfl rfl), w64 (s50 + 1), rfl, i55⟩
                      · refine T.condT rfl (not_f (beq_eq_false_iff_ne.2 c65)) ?_
                        refine T.seq ?_
                        refine T.region ?_
                        refine TL.op1 (OpR.pure rfl) rfl ?_
                        refine TL.nil ?_
                        show T X _ _ _
                        refine T.ret ?_
                        obtain rfl := Option.some.inj q54
                        obtain rfl : _ = _ := i55
                        obtain rfl := Option.some.inj q36
                        obtain rfl : _ = _ := i37
                        obtain rfl := Option.some.inj h0
                        exact PostG.retP (ks := []) (Gst.trans (Gst.only [2] rfl) (Gst.pick [] rfl rfl)) undef (ResL.cons (ResV.tmp rfl) ResL.nil) rfl rfl rfl rfl
                  · refine T.condF rfl (decide_eq_false c58) ?_
                    refine T.exit ?_
                    obtain rfl := Option.some.inj q54
                    obtain rfl : _ = _ := i55
                    exact ⟨_, Gst.only [2, 3, 4, 58, 59, 60] rfl, _, rfl, rfl⟩
                · rintro _ ⟨u49, rfl, rfl⟩
                  show T X _ _ _
                  refine T.region ?_
                  refine TL.op1 (OpR.pure rfl) rfl ?_
                  refine TL.op1 (OpR.pure rfl) rfl ?_
                  refine TL.nil ?_
                  obtain rfl := Option.some.inj q36
                  exact ⟨m34, Nat.lt_succ_self _, _, Gst.only [2, 3, 4, 58, 59, 60] rfl, w64 (s32 + 1), rfl, i37⟩
          · refine T.condF rfl (decide_eq_false c40) ?_
            refine T.exit ?_
            obtain rfl := Option.some.inj q36
            obtain rfl : _ = _ := i37
            exact ⟨_, Gst.trans (Gst.only [2] rfl) (Gst.pick [] rfl rfl), _, rfl, rfl⟩
        · rintro _ ⟨u31, rfl, rfl⟩
          show T X _ _ _
          refine T.seq ?_
          refine T.region ?_
          obtain ⟨x66, hx66, h0⟩ := bnd_some h0
          refine TL.op1 (OpR.call0 fn20 (law06_awake_c hx66) rfl) rfl ?_
          refine TL.op1 (OpR.pure rfl) rfl ?_
          refine TL.nil ?_
          show T X _ _ _
          refine T.ret ?_
          obtain rfl := Option.some.inj h0
          exact PostG.retP (ks := []) (Gst.only [2] rfl) undef (ResL.cons (ResV.tmp rfl) ResL.nil) rfl rfl rfl rfl
end Go.Proofs.Ytkjcogmngoogcaa.S
