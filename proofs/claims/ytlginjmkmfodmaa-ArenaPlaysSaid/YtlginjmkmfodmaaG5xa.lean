/- Printed by a program of this session's own (gen.py): Lean functions for Go functions, and the proofs that the Go code comes to their answers. -/
import Derived.Test.YtlginjmkmfodmaaG0
set_option linter.unusedVariables false
set_option linter.unusedSimpArgs false
namespace Go.Proofs.Ytlginjmkmfodmaa.S
open Go Go.Sm
attribute [local irreducible] T TL OpR CallT iter loop
noncomputable def arena_New (a0 : List UInt8) : Option (Int ⊕ (Int × (List UInt8))) :=
  if (a0.length : Int) > 4096 then
    some (Sum.inl 8)
  else
    bnd (mkz 1 (a0.length : Int) (0 : UInt8)) fun x2 =>
    some (Sum.inr (0, (over x2 a0)))
set_option maxHeartbeats 4000000 in
theorem arena_New_c {a0 : List UInt8} {res : Int ⊕ (Int × (List UInt8))} (h0 : arena_New a0 = some res) : CallF X 15 [.sl 1 (List.map byteD a0)] [] (fun x => (match res with | .inl res => .tup [.val (.pointer none), .val (.int .i64 res)] | .inr res => .tup [.val (.pointer (some ⟨(blk (vn x 0)), 0, none⟩)), .val (.int .i64 res.1)])) (fun x => (match res with | .inl res => [] | .inr res => [.var (blk (vn x 0)) [.val (vn x 1)] 85, .row (vn x 1) (List.map byteD res.2) 1 5])) := by
 unfold arena_New at h0
 refine CallF.mkG (X := X) Try.func15 rfl rfl Try.ntmps15 rfl rfl ?_
 refine T.seq ?_
 refine T.region ?_
 refine TL.op1 (OpR.pure rfl) rfl ?_
 refine TL.op1 (OpR.pure rfl) rfl ?_
 refine TL.nil ?_
 show T X _ _ _
 refine T.seq ?_
 refine T.seq ?_
 refine T.region ?_
 refine TL.op1 (OpR.pure rfl) rfl ?_
 refine TL.op1 (OpR.cast (OpR.pure rfl) (intE (lenM _ _))) rfl ?_
 refine TL.op1 (OpR.pure rfl) rfl ?_
 refine TL.nil ?_
 show T X _ _ _
 rcases ite_some h0 with ⟨c1, h0⟩ | ⟨c1, h0⟩
 · refine T.condT rfl (decide_eq_true c1) ?_
   refine T.seq ?_
   refine T.region ?_
   refine TL.op1 (OpR.pure rfl) rfl ?_
   refine TL.op1 (OpR.pure rfl) rfl ?_
   refine TL.nil ?_
   show T X _ _ _
   refine T.ret ?_
   obtain rfl := Option.some.inj h0
   exact PostG.retP (ks := []) (Gst.only [2, 3] rfl) undef (ResL.cons (ResV.tmp rfl) (ResL.cons (ResV.tmp rfl) ResL.nil)) rfl rfl rfl rfl
 refine T.condF rfl (decide_eq_false c1) ?_
 refine T.skip ?_
 show T X _ _ _
 refine T.seq ?_
 refine T.region ?_
 refine TL.op1 (OpR.pure rfl) rfl ?_
 refine TL.op1 (OpR.cast (OpR.pure rfl) (intE (lenM _ _))) rfl ?_
 obtain ⟨x2, hx2, h0⟩ := bnd_some h0
 refine TL.op (OpR.makeM byteD hx2 rfl rfl rfl rfl rfl rfl rfl rfl rfl rfl rfl (fun _ => rfl)) rfl (fun v3 => ?_)
 refine TL.op1 (OpR.build rfl rfl rfl rfl rfl) rfl ?_
 refine TL.op (OpR.boxVar rfl rfl (fun _ => rfl)) rfl (fun p4 => ?_)
 refine TL.op1 (OpR.pure rfl) rfl ?_
 refine TL.nil ?_
 show T X _ _ _
 refine T.seq ?_
 refine T.region ?_
 refine TL.op1 (OpR.pure rfl) rfl ?_
 refine TL.op1 (OpR.pure rfl) rfl ?_
 refine TL.op1 (OpR.pure rfl) rfl ?_
 refine TL.op1 (OpR.loadPtr 1 rfl rfl rfl rfl) rfl ?_
 refine TL.op1 (OpR.pure rfl) rfl ?_
 refine TL.op1 (OpR.copyM byteD 0 rfl rfl rfl rfl rfl rfl rfl rfl) rfl ?_
 refine TL.nil ?_
 show T X _ _ _
 refine T.seq ?_
 refine T.region ?_
 refine TL.op1 (OpR.pure rfl) rfl ?_
 refine TL.op1 (OpR.pure rfl) rfl ?_
 refine TL.op1 (OpR.pure rfl) rfl ?_
 refine TL.nil ?_
 show T X _ _ _
 refine T.ret ?_
 obtain rfl := Option.some.inj h0
 exact PostG.retP (ks := [0, 1]) (Gst.trans (Gst.only [2, 3] rfl) (Gst.pick [1, 0] rfl rfl)) (.tuple #[p4, v3]) (ResL.cons (ResV.tmp rfl) (ResL.cons (ResV.tmp rfl) ResL.nil)) rfl rfl rfl rfl
theorem arena_New_cx1 {a0 : List UInt8} {res : Int} (h0 : arena_New a0 = some (Sum.inl res)) : CallF X 15 [.sl 1 (List.map byteD a0)] [] (fun x => .tup [.val (.pointer none), .val (.int .i64 res)]) (fun x => []) := arena_New_c h0
theorem arena_New_cx2 {a0 : List UInt8} {res : Int × (List UInt8)} (h0 : arena_New a0 = some (Sum.inr res)) : CallF X 15 [.sl 1 (List.map byteD a0)] [] (fun x => .tup [.val (.pointer (some ⟨(blk (vn x 0)), 0, none⟩)), .val (.int .i64 res.1)]) (fun x => [.var (blk (vn x 0)) [.val (vn x 1)] 85, .row (vn x 1) (List.map byteD res.2) 1 5]) := arena_New_c h0
noncomputable def arena_Arena_Room (a0 : List UInt8) : Option Int :=
  some (w64 (16384 - (a0.length : Int)))
set_option maxHeartbeats 4000000 in
theorem arena_Arena_Room_c {a0 : List UInt8} {b0 : Nat} {v1 : Value} {res : Int} (h0 : arena_Arena_Room a0 = some res) : CallF X 23 [.val (.pointer (some ⟨b0, 0, none⟩))] [.var b0 [.val v1] 85, .row v1 (List.map byteD a0) 1 5] (fun x => .val (.int .i64 res)) (fun x => [.var b0 [.val v1] 85, .row v1 (List.map byteD a0) 1 5]) := by
 unfold arena_Arena_Room at h0
 refine CallF.mkG (X := X) Try.func23 rfl rfl Try.ntmps23 rfl rfl ?_
 refine T.seq ?_
 refine T.region ?_
 refine TL.op1 (OpR.pure rfl) rfl ?_
 refine TL.nil ?_
 show T X _ _ _
 refine T.seq ?_
 refine T.seq ?_
 refine T.region ?_
 refine TL.op1 (OpR.pure rfl) rfl ?_
 refine TL.op1 (OpR.ptrNil rfl rfl rfl) rfl ?_
 refine TL.nil ?_
 show T X _ _ _
 refine T.condF rfl rfl ?_
 refine T.skip ?_
 show T X _ _ _
 refine T.seq ?_
 refine T.region ?_
 refine TL.op1 (OpR.pure rfl) rfl ?_
 refine TL.op1 (OpR.pure rfl) rfl ?_
 refine TL.op1 (OpR.pure rfl) rfl ?_
 refine TL.op1 (OpR.loadPtr 0 rfl rfl rfl rfl) rfl ?_
 refine TL.op1 (OpR.rowLenM byteD 1 rfl rfl rfl rfl) rfl ?_
 refine TL.op1 (OpR.pure rfl) rfl ?_
 refine TL.op1 (OpR.pure rfl) rfl ?_
 refine TL.nil ?_
 show T X _ _ _
 refine T.ret ?_
 obtain rfl := Option.some.inj h0
 exact PostG.retP (ks := [0, 1]) (Gst.only [2] rfl) undef (ResL.cons (ResV.tmp rfl) ResL.nil) rfl rfl rfl rfl
noncomputable def arena_Arena_Add (a0 : List UInt8) (a1 : List UInt8) : Option (arena_Span × Int × (List UInt8)) :=
  if (a0.length : Int) = 0 then
    some ((⟨0, 0⟩ : arena_Span), 0, a1)
  else
    bnd (arena_Arena_Room a1) fun x3 =>
    if (a0.length : Int) > x3 then
      some ((⟨0, 0⟩ : arena_Span), 6, a1)
    else
      bnd (app 1 a1 a0) fun x6 =>
      some ((⟨(a1.length : Int), (a0.length : Int)⟩ : arena_Span), 0, x6)
set_option maxHeartbeats 4000000 in
theorem arena_Arena_Add_c {a0 : List UInt8} {a1 : List UInt8} {b0 : Nat} {v1 : Value} {res : arena_Span × Int × (List UInt8)} (h0 : arena_Arena_Add a0 a1 = some res) : CallF X 17 [.val (.pointer (some ⟨b0, 0, none⟩)), .sl 1 (List.map byteD a0)] [.var b0 [.val v1] 85, .row v1 (List.map byteD a1) 1 5] (fun x => .tup [.agg [.val (.int .i64 res.1.fAt), .val (.int .i64 res.1.fN)], .val (.int .i64 res.2.1)]) (fun x => [.var b0 [.val (vn x 0)] 85, .row (vn x 0) (List.map byteD res.2.2) 1 5]) := by
 unfold arena_Arena_Add at h0
 refine CallF.mkG (X := X) Try.func17 rfl rfl Try.ntmps17 rfl rfl ?_
 refine T.seq ?_
 refine T.region ?_
 refine TL.op (OpR.alloc rfl rfl (fun _ => rfl)) rfl (fun p1 => ?_)
 refine TL.op1 (OpR.pure rfl) rfl ?_
 refine TL.nil ?_
 show T X _ _ _
 refine T.seq ?_
 refine T.block ?_
 refine T.seq ?_
 refine T.region ?_
 refine TL.op1 (OpR.pure rfl) rfl ?_
 refine TL.op1 (OpR.ptrNil rfl rfl rfl) rfl ?_
 refine TL.op1 (OpR.pure rfl) rfl ?_
 refine TL.nil ?_
 show T X _ _ _
 refine T.condF rfl rfl ?_
 refine T.seq ?_
 refine T.region ?_
 refine TL.op1 (OpR.pure rfl) rfl ?_
 refine TL.op1 (OpR.cast (OpR.pure rfl) (intE (lenM _ _))) rfl ?_
 refine TL.op1 (OpR.pure rfl) rfl ?_
 refine TL.op1 (OpR.pure rfl) rfl ?_
 refine TL.nil ?_
 show T X _ _ _
 rcases ite_some h0 with ⟨c2, h0⟩ | ⟨c2, h0⟩
 · refine T.condT rfl (beq_iff_eq.2 c2) ?_
   refine T.seq ?_
   refine T.region ?_
   refine TL.op1 (OpR.build rfl rfl rfl rfl rfl) rfl ?_
   refine TL.op0 (OpR.store 2 rfl rfl rfl rfl rfl rfl rfl rfl) ?_
   refine TL.op1 (OpR.pure rfl) rfl ?_
   refine TL.nil ?_
   show T X _ _ _
   refine T.ret ?_
   obtain rfl := Option.some.inj h0
   exact PostG.retP (ks := [0, 1]) (Gst.only [4, 5] rfl) (.tuple #[v1]) (ResL.cons (ResV.var 2 rfl rfl rfl rfl) (ResL.cons (ResV.tmp rfl) ResL.nil)) rfl rfl rfl rfl
 refine T.condF rfl (beq_eq_false_iff_ne.2 c2) ?_
 refine T.seq ?_
 refine T.region ?_
 refine TL.op1 (OpR.pure rfl) rfl ?_
 refine TL.op1 (OpR.cast (OpR.pure rfl) (intE (lenM _ _))) rfl ?_
 refine TL.op1 (OpR.pure rfl) rfl ?_
 obtain ⟨x3, hx3, h0⟩ := bnd_some h0
 refine TL.op1 (OpR.call [0, 1] fn23 (arena_Arena_Room_c hx3) rfl rfl rfl (fun _ => rfl)) rfl ?_
 refine TL.op1 (OpR.pure rfl) rfl ?_
 refine TL.op1 (OpR.pure rfl) rfl ?_
 refine TL.nil ?_
 show T X _ _ _
 rcases ite_some h0 with ⟨c4, h0⟩ | ⟨c4, h0⟩
 · refine T.condT rfl (decide_eq_true c4) ?_
   refine T.seq ?_
   refine T.region ?_
   refine TL.op1 (OpR.build rfl rfl rfl rfl rfl) rfl ?_
   refine TL.op0 (OpR.store 2 rfl rfl rfl rfl rfl rfl rfl rfl) ?_
   refine TL.op1 (OpR.pure rfl) rfl ?_
   refine TL.nil ?_
   show T X _ _ _
   refine T.ret ?_
   obtain rfl := Option.some.inj h0
   exact PostG.retP (ks := [0, 1]) (Gst.only [4, 5] rfl) (.tuple #[v1]) (ResL.cons (ResV.var 2 rfl rfl rfl rfl) (ResL.cons (ResV.tmp rfl) ResL.nil)) rfl rfl rfl rfl
 refine T.condF rfl (decide_eq_false c4) ?_
 refine T.skip ?_
 show T X _ _ _
 refine T.seq ?_
 refine T.region ?_
 refine TL.op1 (OpR.pure rfl) rfl ?_
 refine TL.op1 (OpR.pure rfl) rfl ?_
 refine TL.op1 (OpR.pure rfl) rfl ?_
 refine TL.op1 (OpR.loadPtr 0 rfl rfl rfl rfl) rfl ?_
 refine TL.op1 (OpR.rowLenM byteD 1 rfl rfl rfl rfl) rfl ?_
 refine TL.op1 (OpR.pure rfl) rfl ?_
 refine TL.op1 (OpR.cast (OpR.pure rfl) (intE (lenM _ _))) rfl ?_
 refine TL.op1 (OpR.build rfl rfl rfl rfl rfl) rfl ?_
 refine TL.op (OpR.alloc rfl rfl (fun _ => rfl)) rfl (fun p5 => ?_)
 refine TL.op0 (OpR.store 3 rfl rfl rfl rfl rfl rfl rfl rfl) ?_
 refine TL.nil ?_
 show T X _ _ _
 refine T.seq ?_
 refine T.region ?_
 refine TL.op1 (OpR.pure rfl) rfl ?_
 refine TL.op1 (OpR.pure rfl) rfl ?_
 refine TL.op1 (OpR.pure rfl) rfl ?_
 refine TL.op1 (OpR.pure rfl) rfl ?_
 refine TL.op1 (OpR.loadPtr 0 rfl rfl rfl rfl) rfl ?_
 refine TL.op1 (OpR.pure rfl) rfl ?_
 obtain ⟨x6, hx6, h0⟩ := bnd_some h0
 refine TL.op (OpR.appendM (m := a0) byteD 1 hx6 rfl rfl rfl rfl rfl rfl rfl rfl rfl (fun _ => rfl)) rfl (fun v7 => ?_)
 refine TL.op1 (OpR.pure rfl) rfl ?_
 refine TL.op1 (OpR.pure rfl) rfl ?_
 refine TL.op0 (OpR.store 0 rfl rfl rfl rfl rfl rfl rfl rfl) ?_
 refine TL.nil ?_
 show T X _ _ _
 refine T.seq ?_
 refine T.region ?_
 refine TL.op1 (OpR.loadPtr 3 rfl rfl rfl rfl) rfl ?_
 refine TL.op0 (OpR.store 2 rfl rfl rfl rfl rfl rfl rfl rfl) ?_
 refine TL.op1 (OpR.pure rfl) rfl ?_
 refine TL.nil ?_
 show T X _ _ _
 refine T.ret ?_
 obtain rfl := Option.some.inj h0
 exact PostG.retP (ks := [0, 1]) (Gst.trans (Gst.only [4, 5] rfl) (Gst.pick [0, 1, 2] rfl rfl)) (.tuple #[v7]) (ResL.cons (ResV.var 2 rfl rfl rfl rfl) (ResL.cons (ResV.tmp rfl) ResL.nil)) rfl rfl rfl rfl
noncomputable def arena_Arena_Right (a0 : arena_Span) (a1 : List UInt8) : Option Bool :=
  bnd (if a0.fAt ≥ 0 then
    if a0.fN ≥ 0 then
      if a0.fAt ≤ (a1.length : Int) then
        some (decide (a0.fN ≤ (w64 ((a1.length : Int) - a0.fAt))))
      else
        some false
    else
      some false
  else
    some false : Option Bool) fun t1 =>
  some t1
set_option maxHeartbeats 4000000 in
theorem arena_Arena_Right_c {a0 : arena_Span} {a1 : List UInt8} {b0 : Nat} {v1 : Value} {res : Bool} (h0 : arena_Arena_Right a0 a1 = some res) : CallF X 26 [.val (.pointer (some ⟨b0, 0, none⟩)), .agg [.val (.int .i64 a0.fAt), .val (.int .i64 a0.fN)]] [.var b0 [.val v1] 85, .row v1 (List.map byteD a1) 1 5] (fun x => .val (.bool res)) (fun x => [.var b0 [.val v1] 85, .row v1 (List.map byteD a1) 1 5]) := by
 unfold arena_Arena_Right at h0
 refine CallF.mkG (X := X) Try.func26 rfl rfl Try.ntmps26 rfl rfl ?_
 refine T.seq ?_
 refine T.region ?_
 refine TL.op1 (OpR.boxImm rfl rfl) rfl ?_
 refine TL.op1 (OpR.pure rfl) rfl ?_
 refine TL.nil ?_
 show T X _ _ _
 refine T.seq ?_
 refine T.seq ?_
 refine T.region ?_
 refine TL.op1 (OpR.pure rfl) rfl ?_
 refine TL.op1 (OpR.ptrNil rfl rfl rfl) rfl ?_
 refine TL.nil ?_
 show T X _ _ _
 refine T.condF rfl rfl ?_
 refine T.skip ?_
 show T X _ _ _
 refine T.seq ?_
 obtain ⟨t1, ht1, h0⟩ := bnd_some h0
 refine T.cutC (fun S' => S' = ⟨[(4, .val (.bool t1))], [.var b0 [.val v1] 85, .row v1 (List.map byteD a1) 1 5], 38⟩) (fun _ h => h) ?_ ?_
 rotate_left
 · rintro _ rfl
   show T X _ _ _
   refine T.ret ?_
   obtain rfl := Option.some.inj h0
   exact PostG.retP (ks := [0, 1]) (Gst.only [4] rfl) undef (ResL.cons (ResV.tmp rfl) ResL.nil) rfl rfl rfl rfl
 rcases ite_some ht1 with ⟨c3, ht1⟩ | ⟨c3, ht1⟩
 rotate_left
 · refine T.drawQ drawsX [.nod [.val (.int .i64 a0.fAt), .val (.int .i64 a0.fN)], .val (.int .i64 a0.fAt), .val (.bool (decide (a0.fAt ≥ 0))), .val (.bool (decide (a0.fAt ≥ 0))), .tup [], .tup [], .tup [], .val (.bool false), .val (.bool false), .tup [], .tup [], .tup [], .tup [], .tup [], .tup [], .tup [], .tup [], .val (.bool false), .val (.bool false), .tup [], .tup [], .tup [], .tup [], .tup [], .tup [], .tup [], .tup [], .tup [], .tup [], .tup [], .val (.bool false), .val (.bool false)] [0, 1, 3, 4, 5, 6, 7, 8, 9, 10, 11, 12, 13, 14, 15, 16, 17, 18, 19, 20, 21, 22, 23, 24, 25, 26, 27, 28, 29, 30, 31, 32, 33, 34, 35, 36, 37] (by decide +kernel) rfl ?_ rfl ?_
   rotate_left
   · obtain rfl := Option.some.inj ht1
     exact ⟨_, Gst.only [4] rfl, rfl⟩
   refine OpsQ.yes (Want.plain rfl) rfl (OpR.pure rfl) ?_
   refine OpsQ.yes (Want.plain rfl) rfl (OpR.pure rfl) ?_
   refine OpsQ.yes (Want.plain rfl) rfl (OpR.pure rfl) ?_
   refine OpsQ.yes (Want.plain rfl) rfl (OpR.pure rfl) ?_
   refine OpsQ.no (Want.bool rfl rfl rfl rfl (by rw [(decide_eq_false c3)]; rfl)) rfl ?_
   refine OpsQ.no (Want.bool rfl rfl rfl rfl (by rw [(decide_eq_false c3)]; rfl)) rfl ?_
   refine OpsQ.no (Want.bool rfl rfl rfl rfl (by rw [(decide_eq_false c3)]; rfl)) rfl ?_
   refine OpsQ.yes (Want.plain rfl) rfl (OpR.pickF rfl (decide_eq_false c3) rfl) ?_
   refine OpsQ.yes (Want.plain rfl) rfl (OpR.pure rfl) ?_
   refine OpsQ.no (Want.bool rfl rfl rfl rfl rfl) rfl ?_
   refine OpsQ.no (Want.bool rfl rfl rfl rfl rfl) rfl ?_
   refine OpsQ.no (Want.bool rfl rfl rfl rfl rfl) rfl ?_
   refine OpsQ.no (Want.bool rfl rfl rfl rfl rfl) rfl ?_
   refine OpsQ.no (Want.bool rfl rfl rfl rfl rfl) rfl ?_
   refine OpsQ.no (Want.bool rfl rfl rfl rfl rfl) rfl ?_
   refine OpsQ.no (Want.bool rfl rfl rfl rfl rfl) rfl ?_
   refine OpsQ.no (Want.bool rfl rfl rfl rfl rfl) rfl ?_
   refine OpsQ.yes (Want.plain rfl) rfl (OpR.pickF rfl rfl rfl) ?_
   refine OpsQ.yes (Want.plain rfl) rfl (OpR.pure rfl) ?_
   refine OpsQ.no (Want.bool rfl rfl rfl rfl rfl) rfl ?_
   refine OpsQ.no (Want.bool rfl rfl rfl rfl rfl) rfl ?_
   refine OpsQ.no (Want.bool rfl rfl rfl rfl rfl) rfl ?_
   refine OpsQ.no (Want.bool rfl rfl rfl rfl rfl) rfl ?_
   refine OpsQ.no (Want.bool rfl rfl rfl rfl rfl) rfl ?_
   refine OpsQ.no (Want.bool rfl rfl rfl rfl rfl) rfl ?_
   refine OpsQ.no (Want.bool rfl rfl rfl rfl rfl) rfl ?_
   refine OpsQ.no (Want.bool rfl rfl rfl rfl rfl) rfl ?_
   refine OpsQ.no (Want.bool rfl rfl rfl rfl rfl) rfl ?_
   refine OpsQ.no (Want.bool rfl rfl rfl rfl rfl) rfl ?_
   refine OpsQ.no (Want.bool rfl rfl rfl rfl rfl) rfl ?_
   refine OpsQ.yes (Want.plain rfl) rfl (OpR.pickF rfl rfl rfl) ?_
   refine OpsQ.yes (Want.plain rfl) rfl (OpR.pure rfl) ?_
   exact OpsQ.nil
 rcases ite_some ht1 with ⟨c4, ht1⟩ | ⟨c4, ht1⟩
 rotate_left
 · refine T.drawQ drawsX [.nod [.val (.int .i64 a0.fAt), .val (.int .i64 a0.fN)], .val (.int .i64 a0.fAt), .val (.bool (decide (a0.fAt ≥ 0))), .val (.bool (decide (a0.fAt ≥ 0))), .nod [.val (.int .i64 a0.fN)], .val (.int .i64 a0.fN), .val (.bool (decide (a0.fN ≥ 0))), .val (.bool (decide (a0.fN ≥ 0))), .val (.bool (decide (a0.fN ≥ 0))), .tup [], .tup [], .tup [], .tup [], .tup [], .tup [], .tup [], .tup [], .val (.bool false), .val (.bool false), .tup [], .tup [], .tup [], .tup [], .tup [], .tup [], .tup [], .tup [], .tup [], .tup [], .tup [], .val (.bool false), .val (.bool false)] [0, 1, 3, 4, 5, 6, 7, 8, 9, 10, 11, 12, 13, 14, 15, 16, 17, 18, 19, 20, 21, 22, 23, 24, 25, 26, 27, 28, 29, 30, 31, 32, 33, 34, 35, 36, 37] (by decide +kernel) rfl ?_ rfl ?_
   rotate_left
   · obtain rfl := Option.some.inj ht1
     exact ⟨_, Gst.only [4] rfl, rfl⟩
   refine OpsQ.yes (Want.plain rfl) rfl (OpR.pure rfl) ?_
   refine OpsQ.yes (Want.plain rfl) rfl (OpR.pure rfl) ?_
   refine OpsQ.yes (Want.plain rfl) rfl (OpR.pure rfl) ?_
   refine OpsQ.yes (Want.plain rfl) rfl (OpR.pure rfl) ?_
   refine OpsQ.yes (Want.bool rfl rfl rfl rfl (by rw [(decide_eq_true c3)]; rfl)) rfl (OpR.pure rfl) ?_
   refine OpsQ.yes (Want.bool rfl rfl rfl rfl (by rw [(decide_eq_true c3)]; rfl)) rfl (OpR.pure rfl) ?_
   refine OpsQ.yes (Want.bool rfl rfl rfl rfl (by rw [(decide_eq_true c3)]; rfl)) rfl (OpR.pure rfl) ?_
   refine OpsQ.yes (Want.plain rfl) rfl (OpR.pickT rfl (decide_eq_true c3) rfl) ?_
   refine OpsQ.yes (Want.plain rfl) rfl (OpR.pure rfl) ?_
   refine OpsQ.no (Want.bool rfl rfl rfl rfl (by rw [(decide_eq_false c4)]; rfl)) rfl ?_
   refine OpsQ.no (Want.bool rfl rfl rfl rfl (by rw [(decide_eq_false c4)]; rfl)) rfl ?_
   refine OpsQ.no (Want.bool rfl rfl rfl rfl (by rw [(decide_eq_false c4)]; rfl)) rfl ?_
   refine OpsQ.no (Want.bool rfl rfl rfl rfl (by rw [(decide_eq_false c4)]; rfl)) rfl ?_
   refine OpsQ.no (Want.bool rfl rfl rfl rfl (by rw [(decide_eq_false c4)]; rfl)) rfl ?_
   refine OpsQ.no (Want.bool rfl rfl rfl rfl (by rw [(decide_eq_false c4)]; rfl)) rfl ?_
   refine OpsQ.no (Want.bool rfl rfl rfl rfl (by rw [(decide_eq_false c4)]; rfl)) rfl ?_
   refine OpsQ.no (Want.bool rfl rfl rfl rfl (by rw [(decide_eq_false c4)]; rfl)) rfl ?_
   refine OpsQ.yes (Want.plain rfl) rfl (OpR.pickF rfl (decide_eq_false c4) rfl) ?_
   refine OpsQ.yes (Want.plain rfl) rfl (OpR.pure rfl) ?_
   refine OpsQ.no (Want.bool rfl rfl rfl rfl rfl) rfl ?_
   refine OpsQ.no (Want.bool rfl rfl rfl rfl rfl) rfl ?_
   refine OpsQ.no (Want.bool rfl rfl rfl rfl rfl) rfl ?_
   refine OpsQ.no (Want.bool rfl rfl rfl rfl rfl) rfl ?_
   refine OpsQ.no (Want.bool rfl rfl rfl rfl rfl) rfl ?_
   refine OpsQ.no (Want.bool rfl rfl rfl rfl rfl) rfl ?_
   refine OpsQ.no (Want.bool rfl rfl rfl rfl rfl) rfl ?_
   refine OpsQ.no (Want.bool rfl rfl rfl rfl rfl) rfl ?_
   refine OpsQ.no (Want.bool rfl rfl rfl rfl rfl) rfl ?_
   refine OpsQ.no (Want.bool rfl rfl rfl rfl rfl) rfl ?_
   refine OpsQ.no (Want.bool rfl rfl rfl rfl rfl) rfl ?_
   refine OpsQ.yes (Want.plain rfl) rfl (OpR.pickF rfl rfl rfl) ?_
   refine OpsQ.yes (Want.plain rfl) rfl (OpR.pure rfl) ?_
   exact OpsQ.nil
 rcases ite_some ht1 with ⟨c5, ht1⟩ | ⟨c5, ht1⟩
 rotate_left
 · refine T.drawQ drawsX [.nod [.val (.int .i64 a0.fAt), .val (.int .i64 a0.fN)], .val (.int .i64 a0.fAt), .val (.bool (decide (a0.fAt ≥ 0))), .val (.bool (decide (a0.fAt ≥ 0))), .nod [.val (.int .i64 a0.fN)], .val (.int .i64 a0.fN), .val (.bool (decide (a0.fN ≥ 0))), .val (.bool (decide (a0.fN ≥ 0))), .val (.bool (decide (a0.fN ≥ 0))), .nod [.val (.int .i64 a0.fAt), .val (.int .i64 a0.fN)], .val (.int .i64 a0.fAt), .val (.pointer (some ⟨b0, 0, none⟩)), .val (.pointer (some ⟨b0, 0, none⟩)), .val (.pointer (some ⟨b0, 0, none⟩)), .val v1, .val (.int .i64 (a1.length : Int)), .val (.bool (decide (a0.fAt ≤ (a1.length : Int)))), .val (.bool (decide (a0.fAt ≤ (a1.length : Int)))), .val (.bool (decide (a0.fAt ≤ (a1.length : Int)))), .tup [], .tup [], .tup [], .tup [], .tup [], .tup [], .tup [], .tup [], .tup [], .tup [], .tup [], .val (.bool false), .val (.bool false)] [0, 1, 3, 4, 5, 6, 7, 8, 9, 10, 11, 12, 13, 14, 15, 16, 17, 18, 19, 20, 21, 22, 23, 24, 25, 26, 27, 28, 29, 30, 31, 32, 33, 34, 35, 36, 37] (by decide +kernel) rfl ?_ rfl ?_
   rotate_left
   · obtain rfl := Option.some.inj ht1
     exact ⟨_, Gst.only [4] rfl, rfl⟩
   refine OpsQ.yes (Want.plain rfl) rfl (OpR.pure rfl) ?_
   refine OpsQ.yes (Want.plain rfl) rfl (OpR.pure rfl) ?_
   refine OpsQ.yes (Want.plain rfl) rfl (OpR.pure rfl) ?_
   refine OpsQ.yes (Want.plain rfl) rfl (OpR.pure rfl) ?_
   refine OpsQ.yes (Want.bool rfl rfl rfl rfl (by rw [(decide_eq_true c3)]; rfl)) rfl (OpR.pure rfl) ?_
   refine OpsQ.yes (Want.bool rfl rfl rfl rfl (by rw [(decide_eq_true c3)]; rfl)) rfl (OpR.pure rfl) ?_
   refine OpsQ.yes (Want.bool rfl rfl rfl rfl (by rw [(decide_eq_true c3)]; rfl)) rfl (OpR.pure rfl) ?_
   refine OpsQ.yes (Want.plain rfl) rfl (OpR.pickT rfl (decide_eq_true c3) rfl) ?_
   refine OpsQ.yes (Want.plain rfl) rfl (OpR.pure rfl) ?_
   refine OpsQ.yes (Want.bool rfl rfl rfl rfl (by rw [(decide_eq_true c4)]; rfl)) rfl (OpR.pure rfl) ?_
   refine OpsQ.yes (Want.bool rfl rfl rfl rfl (by rw [(decide_eq_true c4)]; rfl)) rfl (OpR.pure rfl) ?_
   refine OpsQ.yes (Want.bool rfl rfl rfl rfl (by rw [(decide_eq_true c4)]; rfl)) rfl (OpR.pure rfl) ?_
   refine OpsQ.yes (Want.bool rfl rfl rfl rfl (by rw [(decide_eq_true c4)]; rfl)) rfl (OpR.pure rfl) ?_
   refine OpsQ.yes (Want.bool rfl rfl rfl rfl (by rw [(decide_eq_true c4)]; rfl)) rfl (OpR.pure rfl) ?_
   refine OpsQ.yes (Want.bool rfl rfl rfl rfl (by rw [(decide_eq_true c4)]; rfl)) rfl (OpR.loadPtr 0 rfl rfl rfl rfl) ?_
   refine OpsQ.yes (Want.bool rfl rfl rfl rfl (by rw [(decide_eq_true c4)]; rfl)) rfl (OpR.rowLenM byteD 1 rfl rfl rfl rfl) ?_
   refine OpsQ.yes (Want.bool rfl rfl rfl rfl (by rw [(decide_eq_true c4)]; rfl)) rfl (OpR.pure rfl) ?_
   refine OpsQ.yes (Want.plain rfl) rfl (OpR.pickT rfl (decide_eq_true c4) rfl) ?_
   refine OpsQ.yes (Want.plain rfl) rfl (OpR.pure rfl) ?_
   refine OpsQ.no (Want.bool rfl rfl rfl rfl (by rw [(decide_eq_false c5)]; rfl)) rfl ?_
   refine OpsQ.no (Want.bool rfl rfl rfl rfl (by rw [(decide_eq_false c5)]; rfl)) rfl ?_
   refine OpsQ.no (Want.bool rfl rfl rfl rfl (by rw [(decide_eq_false c5)]; rfl)) rfl ?_
   refine OpsQ.no (Want.bool rfl rfl rfl rfl (by rw [(decide_eq_false c5)]; rfl)) rfl ?_
   refine OpsQ.no (Want.bool rfl rfl rfl rfl (by rw [(decide_eq_false c5)]; rfl)) rfl ?_
   refine OpsQ.no (Want.bool rfl rfl rfl rfl (by rw [(decide_eq_false c5)]; rfl)) rfl ?_
   refine OpsQ.no (Want.bool rfl rfl rfl rfl (by rw [(decide_eq_false c5)]; rfl)) rfl ?_
   refine OpsQ.no (Want.bool rfl rfl rfl rfl (by rw [(decide_eq_false c5)]; rfl)) rfl ?_
   refine OpsQ.no (Want.bool rfl rfl rfl rfl (by rw [(decide_eq_false c5)]; rfl)) rfl ?_
   refine OpsQ.no (Want.bool rfl rfl rfl rfl (by rw [(decide_eq_false c5)]; rfl)) rfl ?_
   refine OpsQ.no (Want.bool rfl rfl rfl rfl (by rw [(decide_eq_false c5)]; rfl)) rfl ?_
   refine OpsQ.yes (Want.plain rfl) rfl (OpR.pickF rfl (decide_eq_false c5) rfl) ?_
   refine OpsQ.yes (Want.plain rfl) rfl (OpR.pure rfl) ?_
   exact OpsQ.nil
 refine T.drawQ drawsX [.nod [.val (.int .i64 a0.fAt), .val (.int .i64 a0.fN)], .val (.int .i64 a0.fAt), .val (.bool (decide (a0.fAt ≥ 0))), .val (.bool (decide (a0.fAt ≥ 0))), .nod [.val (.int .i64 a0.fN)], .val (.int .i64 a0.fN), .val (.bool (decide (a0.fN ≥ 0))), .val (.bool (decide (a0.fN ≥ 0))), .val (.bool (decide (a0.fN ≥ 0))), .nod [.val (.int .i64 a0.fAt), .val (.int .i64 a0.fN)], .val (.int .i64 a0.fAt), .val (.pointer (some ⟨b0, 0, none⟩)), .val (.pointer (some ⟨b0, 0, none⟩)), .val (.pointer (some ⟨b0, 0, none⟩)), .val v1, .val (.int .i64 (a1.length : Int)), .val (.bool (decide (a0.fAt ≤ (a1.length : Int)))), .val (.bool (decide (a0.fAt ≤ (a1.length : Int)))), .val (.bool (decide (a0.fAt ≤ (a1.length : Int)))), .nod [.val (.int .i64 a0.fN)], .val (.int .i64 a0.fN), .val (.pointer (some ⟨b0, 0, none⟩)), .val (.pointer (some ⟨b0, 0, none⟩)), .val (.pointer (some ⟨b0, 0, none⟩)), .val v1, .val (.int .i64 (a1.length : Int)), .nod [.val (.int .i64 a0.fAt), .val (.int .i64 a0.fN)], .val (.int .i64 a0.fAt), .val (.int .i64 (w64 ((a1.length : Int) - a0.fAt))), .val (.bool (decide (a0.fN ≤ (w64 ((a1.length : Int) - a0.fAt))))), .val (.bool (decide (a0.fN ≤ (w64 ((a1.length : Int) - a0.fAt))))), .val (.bool (decide (a0.fN ≤ (w64 ((a1.length : Int) - a0.fAt)))))] [0, 1, 3, 4, 5, 6, 7, 8, 9, 10, 11, 12, 13, 14, 15, 16, 17, 18, 19, 20, 21, 22, 23, 24, 25, 26, 27, 28, 29, 30, 31, 32, 33, 34, 35, 36, 37] (by decide +kernel) rfl ?_ rfl ?_
 rotate_left
 · obtain rfl := Option.some.inj ht1
   exact ⟨_, Gst.only [4] rfl, rfl⟩
 refine OpsQ.yes (Want.plain rfl) rfl (OpR.pure rfl) ?_
 refine OpsQ.yes (Want.plain rfl) rfl (OpR.pure rfl) ?_
 refine OpsQ.yes (Want.plain rfl) rfl (OpR.pure rfl) ?_
 refine OpsQ.yes (Want.plain rfl) rfl (OpR.pure rfl) ?_
 refine OpsQ.yes (Want.bool rfl rfl rfl rfl (by rw [(decide_eq_true c3)]; rfl)) rfl (OpR.pure rfl) ?_
 refine OpsQ.yes (Want.bool rfl rfl rfl rfl (by rw [(decide_eq_true c3)]; rfl)) rfl (OpR.pure rfl) ?_
 refine OpsQ.yes (Want.bool rfl rfl rfl rfl (by rw [(decide_eq_true c3)]; rfl)) rfl (OpR.pure rfl) ?_
 refine OpsQ.yes (Want.plain rfl) rfl (OpR.pickT rfl (decide_eq_true c3) rfl) ?_
 refine OpsQ.yes (Want.plain rfl) rfl (OpR.pure rfl) ?_
 refine OpsQ.yes (Want.bool rfl rfl rfl rfl (by rw [(decide_eq_true c4)]; rfl)) rfl (OpR.pure rfl) ?_
 refine OpsQ.yes (Want.bool rfl rfl rfl rfl (by rw [(decide_eq_true c4)]; rfl)) rfl (OpR.pure rfl) ?_
 refine OpsQ.yes (Want.bool rfl rfl rfl rfl (by rw [(decide_eq_true c4)]; rfl)) rfl (OpR.pure rfl) ?_
 refine OpsQ.yes (Want.bool rfl rfl rfl rfl (by rw [(decide_eq_true c4)]; rfl)) rfl (OpR.pure rfl) ?_
 refine OpsQ.yes (Want.bool rfl rfl rfl rfl (by rw [(decide_eq_true c4)]; rfl)) rfl (OpR.pure rfl) ?_
 refine OpsQ.yes (Want.bool rfl rfl rfl rfl (by rw [(decide_eq_true c4)]; rfl)) rfl (OpR.loadPtr 0 rfl rfl rfl rfl) ?_
 refine OpsQ.yes (Want.bool rfl rfl rfl rfl (by rw [(decide_eq_true c4)]; rfl)) rfl (OpR.rowLenM byteD 1 rfl rfl rfl rfl) ?_
 refine OpsQ.yes (Want.bool rfl rfl rfl rfl (by rw [(decide_eq_true c4)]; rfl)) rfl (OpR.pure rfl) ?_
 refine OpsQ.yes (Want.plain rfl) rfl (OpR.pickT rfl (decide_eq_true c4) rfl) ?_
 refine OpsQ.yes (Want.plain rfl) rfl (OpR.pure rfl) ?_
 refine OpsQ.yes (Want.bool rfl rfl rfl rfl (by rw [(decide_eq_true c5)]; rfl)) rfl (OpR.pure rfl) ?_
 refine OpsQ.yes (Want.bool rfl rfl rfl rfl (by rw [(decide_eq_true c5)]; rfl)) rfl (OpR.pure rfl) ?_
 refine OpsQ.yes (Want.bool rfl rfl rfl rfl (by rw [(decide_eq_true c5)]; rfl)) rfl (OpR.pure rfl) ?_
 refine OpsQ.yes (Want.bool rfl rfl rfl rfl (by rw [(decide_eq_true c5)]; rfl)) rfl (OpR.pure rfl) ?_
 refine OpsQ.yes (Want.bool rfl rfl rfl rfl (by rw [(decide_eq_true c5)]; rfl)) rfl (OpR.pure rfl) ?_
 refine OpsQ.yes (Want.bool rfl rfl rfl rfl (by rw [(decide_eq_true c5)]; rfl)) rfl (OpR.loadPtr 0 rfl rfl rfl rfl) ?_
 refine OpsQ.yes (Want.bool rfl rfl rfl rfl (by rw [(decide_eq_true c5)]; rfl)) rfl (OpR.rowLenM byteD 1 rfl rfl rfl rfl) ?_
 refine OpsQ.yes (Want.bool rfl rfl rfl rfl (by rw [(decide_eq_true c5)]; rfl)) rfl (OpR.pure rfl) ?_
 refine OpsQ.yes (Want.bool rfl rfl rfl rfl (by rw [(decide_eq_true c5)]; rfl)) rfl (OpR.pure rfl) ?_
 refine OpsQ.yes (Want.bool rfl rfl rfl rfl (by rw [(decide_eq_true c5)]; rfl)) rfl (OpR.pure rfl) ?_
 refine OpsQ.yes (Want.bool rfl rfl rfl rfl (by rw [(decide_eq_true c5)]; rfl)) rfl (OpR.pure rfl) ?_
 refine OpsQ.yes (Want.plain rfl) rfl (OpR.pickT rfl (decide_eq_true c5) rfl) ?_
 refine OpsQ.yes (Want.plain rfl) rfl (OpR.pure rfl) ?_
 exact OpsQ.nil
noncomputable def arena_Arena_part (a0 : arena_Span) (a1 : List UInt8) : Option ((Int × Int) ⊕ (List UInt8)) :=
  bnd (arena_Arena_Right a0 a1) fun x1 =>
  if x1 = true then
    bnd (cut a1 a0.fAt (w64 (a0.fAt + a0.fN))) fun x4 =>
    some (Sum.inl (a0.fAt, w64 (a0.fAt + a0.fN)))
  else
    some (Sum.inr [])
set_option maxHeartbeats 4000000 in
theorem arena_Arena_part_c {a0 : arena_Span} {a1 : List UInt8} {b0 : Nat} {v1 : Value} {res : (Int × Int) ⊕ (List UInt8)} (h0 : arena_Arena_part a0 a1 = some res) : CallF X 39 [.val (.pointer (some ⟨b0, 0, none⟩)), .agg [.val (.int .i64 a0.fAt), .val (.int .i64 a0.fN)]] [.var b0 [.val v1] 85, .row v1 (List.map byteD a1) 1 5] (fun x => (match res with | .inl res => .val (vw v1 (res.1).toNat (res.2).toNat 1) | .inr res => .sl 1 (List.map byteD res))) (fun x => (match res with | .inl res => [.var b0 [.val v1] 85, .row v1 (List.map byteD a1) 1 5] | .inr res => [.var b0 [.val v1] 85, .row v1 (List.map byteD a1) 1 5])) := by
 unfold arena_Arena_part at h0
 refine CallF.mkG (X := X) Try.func39 rfl rfl Try.ntmps39 rfl rfl ?_
 refine T.seq ?_
 refine T.region ?_
 refine TL.op1 (OpR.boxImm rfl rfl) rfl ?_
 refine TL.op1 (OpR.pure rfl) rfl ?_
 refine TL.nil ?_
 show T X _ _ _
 refine T.seq ?_
 refine T.seq ?_
 refine T.region ?_
 refine TL.op1 (OpR.pure rfl) rfl ?_
 refine TL.op1 (OpR.pure rfl) rfl ?_
 obtain ⟨x1, hx1, h0⟩ := bnd_some h0
 refine TL.op1 (OpR.call [0, 1] fn26 (arena_Arena_Right_c hx1) rfl rfl rfl (fun _ => rfl)) rfl ?_
 refine TL.op1 (OpR.pure rfl) rfl ?_
 refine TL.nil ?_
 show T X _ _ _
 rcases ite_some h0 with ⟨c2, h0⟩ | ⟨c2, h0⟩
 rotate_left
 · refine T.condT rfl (not_f (eq_false_of_ne_true c2)) ?_
   refine T.seq ?_
   refine T.region ?_
   refine TL.op1 (OpR.pure rfl) rfl ?_
   refine TL.nil ?_
   show T X _ _ _
   refine T.ret ?_
   obtain rfl := Option.some.inj h0
   exact PostG.retP (ks := [0, 1]) (Gst.trans (Gst.only [4] rfl) (Gst.denil (ReS.cons (Re.base .nil) ReS.nil) (ReO.var (ReL.cons Re.refl ReL.nil) (ReO.same ReO.nil)))) undef (ResL.cons (ResV.tmp rfl) ResL.nil) rfl rfl rfl rfl
 refine T.condF rfl (not_t (c2)) ?_
 refine T.skip ?_
 show T X _ _ _
 refine T.seq ?_
 obtain ⟨x4, hx4, h0⟩ := bnd_some h0
 refine T.drawQ drawsX [.val (.pointer (some ⟨b0, 0, none⟩)), .val (.pointer (some ⟨b0, 0, none⟩)), .val (.pointer (some ⟨b0, 0, none⟩)), .val v1, .nod [.val (.int .i64 a0.fAt), .val (.int .i64 a0.fN)], .val (.int .i64 a0.fAt), .nod [.val (.int .i64 a0.fAt), .val (.int .i64 a0.fN)], .val (.int .i64 a0.fAt), .nod [.val (.int .i64 a0.fN)], .val (.int .i64 a0.fN), .val (.int .i64 (w64 (a0.fAt + a0.fN))), .val (vw v1 (a0.fAt).toNat (w64 (a0.fAt + a0.fN)).toNat 1), .val (vw v1 (a0.fAt).toNat (w64 (a0.fAt + a0.fN)).toNat 1)] [0, 1, 3, 4, 5, 6, 7, 8, 9, 10, 11, 12, 13, 14, 15, 16, 17, 18, 19, 20] (by decide +kernel) rfl ?_ rfl ?_
 rotate_left
 · show T X _ _ _
   refine T.ret ?_
   obtain rfl := Option.some.inj h0
   exact PostG.retP (ks := [0, 1]) (Gst.only [4] rfl) undef (ResL.cons (ResV.tmp rfl) ResL.nil) rfl rfl rfl rfl
 refine OpsQ.yes (Want.plain rfl) rfl (OpR.pure rfl) ?_
 refine OpsQ.yes (Want.plain rfl) rfl (OpR.pure rfl) ?_
 refine OpsQ.yes (Want.plain rfl) rfl (OpR.pure rfl) ?_
 refine OpsQ.yes (Want.plain rfl) rfl (OpR.loadPtr 0 rfl rfl rfl rfl) ?_
 refine OpsQ.yes (Want.plain rfl) rfl (OpR.pure rfl) ?_
 refine OpsQ.yes (Want.plain rfl) rfl (OpR.pure rfl) ?_
 refine OpsQ.yes (Want.plain rfl) rfl (OpR.pure rfl) ?_
 refine OpsQ.yes (Want.plain rfl) rfl (OpR.pure rfl) ?_
 refine OpsQ.yes (Want.plain rfl) rfl (OpR.pure rfl) ?_
 refine OpsQ.yes (Want.plain rfl) rfl (OpR.pure rfl) ?_
 refine OpsQ.yes (Want.plain rfl) rfl (OpR.pure rfl) ?_
 refine OpsQ.yes (Want.plain rfl) rfl (OpR.sliceRowM byteD 1 hx4 rfl rfl rfl rfl rfl rfl (BdM.some rfl) (BdM.some rfl)) ?_
 refine OpsQ.yes (Want.plain rfl) rfl (OpR.pure rfl) ?_
 exact OpsQ.nil
theorem arena_Arena_part_cx1 {a0 : arena_Span} {a1 : List UInt8} {b0 : Nat} {v1 : Value} {res : Int × Int} (h0 : arena_Arena_part a0 a1 = some (Sum.inl res)) : CallF X 39 [.val (.pointer (some ⟨b0, 0, none⟩)), .agg [.val (.int .i64 a0.fAt), .val (.int .i64 a0.fN)]] [.var b0 [.val v1] 85, .row v1 (List.map byteD a1) 1 5] (fun x => .val (vw v1 (res.1).toNat (res.2).toNat 1)) (fun x => [.var b0 [.val v1] 85, .row v1 (List.map byteD a1) 1 5]) := arena_Arena_part_c h0
theorem arena_Arena_part_cx2 {a0 : arena_Span} {a1 : List UInt8} {b0 : Nat} {v1 : Value} {res : (List UInt8)} (h0 : arena_Arena_part a0 a1 = some (Sum.inr res)) : CallF X 39 [.val (.pointer (some ⟨b0, 0, none⟩)), .agg [.val (.int .i64 a0.fAt), .val (.int .i64 a0.fN)]] [.var b0 [.val v1] 85, .row v1 (List.map byteD a1) 1 5] (fun x => .sl 1 (List.map byteD res)) (fun x => [.var b0 [.val v1] 85, .row v1 (List.map byteD a1) 1 5]) := arena_Arena_part_c h0
noncomputable def arena_Arena_Bytes (a0 : arena_Span) (a1 : List UInt8) : Option (List UInt8) :=
  bnd (arena_Arena_part a0 a1) fun x1 =>
  match x1 with
  | .inl x1 =>
      bnd (cut a1 x1.1 x1.2) fun x2 =>
      bnd (mkz 1 (x2.length : Int) (0 : UInt8)) fun x3 =>
      some (over x3 x2)
  | .inr x1 =>
      bnd (mkz 1 (x1.length : Int) (0 : UInt8)) fun x5 =>
      some (over x5 x1)
set_option maxHeartbeats 4000000 in
theorem arena_Arena_Bytes_c {a0 : arena_Span} {a1 : List UInt8} {b0 : Nat} {v1 : Value} {res : (List UInt8)} (h0 : arena_Arena_Bytes a0 a1 = some res) : CallF X 18 [.val (.pointer (some ⟨b0, 0, none⟩)), .agg [.val (.int .i64 a0.fAt), .val (.int .i64 a0.fN)]] [.var b0 [.val v1] 85, .row v1 (List.map byteD a1) 1 5] (fun x => .val (vn x 0)) (fun x => [.var b0 [.val v1] 85, .row v1 (List.map byteD a1) 1 5, .row (vn x 0) (List.map byteD res) 1 5]) := by
 unfold arena_Arena_Bytes at h0
 refine CallF.mkG (X := X) Try.func18 rfl rfl Try.ntmps18 rfl rfl ?_
 refine T.seq ?_
 refine T.region ?_
 refine TL.op1 (OpR.boxImm rfl rfl) rfl ?_
 refine TL.op1 (OpR.pure rfl) rfl ?_
 refine TL.nil ?_
 show T X _ _ _
 refine T.seq ?_
 refine T.region ?_
 refine TL.op1 (OpR.pure rfl) rfl ?_
 refine TL.op1 (OpR.pure rfl) rfl ?_
 obtain ⟨x1, hx1, h0⟩ := bnd_some h0
 rcases x1 with x1 | x1
 rotate_left
 · dsimp only at h0
   refine TL.op1 (OpR.call [0, 1] fn39 (arena_Arena_part_cx2 hx1) rfl rfl rfl (fun _ => rfl)) rfl ?_
   refine TL.op1 (OpR.pure rfl) rfl ?_
   refine TL.nil ?_
   show T X _ _ _
   refine T.seq ?_
   refine T.region ?_
   refine TL.op1 (OpR.pure rfl) rfl ?_
   refine TL.op1 (OpR.cast (OpR.pure rfl) (intE (lenM _ _))) rfl ?_
   obtain ⟨x5, hx5, h0⟩ := bnd_some h0
   refine TL.op (OpR.makeM byteD hx5 rfl rfl rfl rfl rfl rfl rfl rfl rfl rfl rfl (fun _ => rfl)) rfl (fun v6 => ?_)
   refine TL.op1 (OpR.pure rfl) rfl ?_
   refine TL.nil ?_
   show T X _ _ _
   refine T.seq ?_
   refine T.region ?_
   refine TL.op1 (OpR.pure rfl) rfl ?_
   refine TL.op1 (OpR.pure rfl) rfl ?_
   refine TL.op1 (OpR.copyM byteD 2 rfl rfl rfl rfl rfl rfl rfl rfl) rfl ?_
   refine TL.nil ?_
   show T X _ _ _
   refine T.seq ?_
   refine T.region ?_
   refine TL.op1 (OpR.pure rfl) rfl ?_
   refine TL.op1 (OpR.pure rfl) rfl ?_
   refine TL.nil ?_
   show T X _ _ _
   refine T.ret ?_
   obtain rfl := Option.some.inj h0
   exact PostG.retP (ks := [0, 1, 2]) (Gst.only [4] rfl) (.tuple #[v6]) (ResL.cons (ResV.tmp rfl) ResL.nil) rfl rfl rfl rfl
 dsimp only at h0
 refine TL.op1 (OpR.call [0, 1] fn39 (arena_Arena_part_cx1 hx1) rfl rfl rfl (fun _ => rfl)) rfl ?_
 refine TL.op1 (OpR.pure rfl) rfl ?_
 refine TL.nil ?_
 show T X _ _ _
 refine T.seq ?_
 refine T.region ?_
 refine TL.op1 (OpR.pure rfl) rfl ?_
 obtain ⟨x2, hx2, h0⟩ := bnd_some h0
 refine TL.op1 (OpR.lenF byteD (Src.viewM byteD 1 hx2 rfl rfl) rfl rfl) rfl ?_
 obtain ⟨x3, hx3, h0⟩ := bnd_some h0
 refine TL.op (OpR.makeM byteD hx3 rfl rfl rfl rfl rfl rfl rfl rfl rfl rfl rfl (fun _ => rfl)) rfl (fun v4 => ?_)
 refine TL.op1 (OpR.pure rfl) rfl ?_
 refine TL.nil ?_
 show T X _ _ _
 refine T.seq ?_
 refine T.region ?_
 refine TL.op1 (OpR.pure rfl) rfl ?_
 refine TL.op1 (OpR.pure rfl) rfl ?_
 refine TL.op1 (OpR.copyF byteD 2 (Src.viewM byteD 1 hx2 rfl rfl) rfl rfl rfl rfl rfl rfl rfl) rfl ?_
 refine TL.nil ?_
 show T X _ _ _
 refine T.seq ?_
 refine T.region ?_
 refine TL.op1 (OpR.pure rfl) rfl ?_
 refine TL.op1 (OpR.pure rfl) rfl ?_
 refine TL.nil ?_
 show T X _ _ _
 refine T.ret ?_
 obtain rfl := Option.some.inj h0
 exact PostG.retP (ks := [0, 1, 2]) (Gst.only [4] rfl) (.tuple #[v4]) (ResL.cons (ResV.tmp rfl) ResL.nil) rfl rfl rfl rfl
noncomputable def arena_Arena_Len (a0 : List UInt8) : Option Int :=
  some (a0.length : Int)
set_option maxHeartbeats 4000000 in
theorem arena_Arena_Len_c {a0 : List UInt8} {b0 : Nat} {v1 : Value} {res : Int} (h0 : arena_Arena_Len a0 = some res) : CallF X 19 [.val (.pointer (some ⟨b0, 0, none⟩))] [.var b0 [.val v1] 85, .row v1 (List.map byteD a0) 1 5] (fun x => .val (.int .i64 res)) (fun x => [.var b0 [.val v1] 85, .row v1 (List.map byteD a0) 1 5]) := by
 unfold arena_Arena_Len at h0
 refine CallF.mkG (X := X) Try.func19 rfl rfl Try.ntmps19 rfl rfl ?_
 refine T.seq ?_
 refine T.region ?_
 refine TL.op1 (OpR.pure rfl) rfl ?_
 refine TL.nil ?_
 show T X _ _ _
 refine T.seq ?_
 refine T.seq ?_
 refine T.region ?_
 refine TL.op1 (OpR.pure rfl) rfl ?_
 refine TL.op1 (OpR.ptrNil rfl rfl rfl) rfl ?_
 refine TL.nil ?_
 show T X _ _ _
 refine T.condF rfl rfl ?_
 refine T.skip ?_
 show T X _ _ _
 refine T.seq ?_
 refine T.region ?_
 refine TL.op1 (OpR.pure rfl) rfl ?_
 refine TL.op1 (OpR.pure rfl) rfl ?_
 refine TL.op1 (OpR.pure rfl) rfl ?_
 refine TL.op1 (OpR.loadPtr 0 rfl rfl rfl rfl) rfl ?_
 refine TL.op1 (OpR.rowLenM byteD 1 rfl rfl rfl rfl) rfl ?_
 refine TL.op1 (OpR.pure rfl) rfl ?_
 refine TL.nil ?_
 show T X _ _ _
 refine T.ret ?_
 obtain rfl := Option.some.inj h0
 exact PostG.retP (ks := [0, 1]) (Gst.only [2] rfl) undef (ResL.cons (ResV.tmp rfl) ResL.nil) rfl rfl rfl rfl
noncomputable def arena_Arena_Keep (a0 : List UInt8) (a1 : List UInt8) : Option (arena_Span × Int × (List UInt8)) :=
  bnd (if (a0.length : Int) > 0 then
    bnd (bIndex a1 a0) fun x5 =>
    if x5 ≥ 0 then
      some (Ex.ret ((⟨x5, (a0.length : Int)⟩ : arena_Span), 0, a1))
    else
      some (Ex.brk ())
  else
    some (Ex.brk ()) : Option (Ex Unit (arena_Span × Int × (List UInt8)))) fun t2 => match t2 with
    | .brk u3 =>
      bnd (arena_Arena_Add a0 a1) fun x7 =>
      some (x7.1, x7.2.1, x7.2.2)
    | .ret u3 => some u3
set_option maxHeartbeats 4000000 in
theorem arena_Arena_Keep_c {a0 : List UInt8} {a1 : List UInt8} {b0 : Nat} {v1 : Value} {res : arena_Span × Int × (List UInt8)} (h0 : arena_Arena_Keep a0 a1 = some res) : CallF X 29 [.val (.pointer (some ⟨b0, 0, none⟩)), .sl 1 (List.map byteD a0)] [.var b0 [.val v1] 85, .row v1 (List.map byteD a1) 1 5] (fun x => .tup [.agg [.val (.int .i64 res.1.fAt), .val (.int .i64 res.1.fN)], .val (.int .i64 res.2.1)]) (fun x => [.var b0 [.val (vn x 0)] 85, .row (vn x 0) (List.map byteD res.2.2) 1 5]) := by
 unfold arena_Arena_Keep at h0
 refine CallF.mkG (X := X) Try.func29 rfl rfl Try.ntmps29 rfl rfl ?_
 refine T.seq ?_
 refine T.region ?_
 refine TL.op (OpR.alloc rfl rfl (fun _ => rfl)) rfl (fun p1 => ?_)
 refine TL.op1 (OpR.pure rfl) rfl ?_
 refine TL.nil ?_
 show T X _ _ _
 refine T.seq ?_
 refine T.seq ?_
 refine T.region ?_
 refine TL.op1 (OpR.pure rfl) rfl ?_
 refine TL.op1 (OpR.ptrNe rfl rfl rfl) rfl ?_
 refine TL.op1 (OpR.pure rfl) rfl ?_
 refine TL.on rfl rfl rfl rfl rfl ?_
 refine TL.op1 (OpR.pure rfl) rfl ?_
 refine TL.on rfl rfl rfl rfl rfl ?_
 refine TL.op1 (OpR.cast (OpR.pure rfl) (intE (lenM _ _))) rfl ?_
 refine TL.on rfl rfl rfl rfl rfl ?_
 refine TL.op1 (OpR.pure rfl) rfl ?_
 refine TL.op1 (OpR.pickT rfl rfl rfl) rfl ?_
 refine TL.nil ?_
 show T X _ _ _
 obtain ⟨t2, ht2, h0⟩ := bnd_some h0
 refine T.cutC (fun S' => ∃ u3, t2 = Ex.brk u3 ∧ S' = ⟨[(5, .val (.int .i64 0)), (4, .val (.pointer (some ⟨(blk p1), 0, none⟩))), (1, .sl 1 (List.map byteD a0)), (0, .val (.pointer (some ⟨b0, 0, none⟩)))], [.var b0 [.val v1] 85, .row v1 (List.map byteD a1) 1 5, .var (blk p1) [.val (.int .i64 0), .val (.int .i64 0)] 44], 31⟩) (fun _ h => h) ?_ ?_
 rotate_left
 · rintro _ ⟨u3, rfl, rfl⟩
   show T X _ _ _
   refine T.seq ?_
   refine T.region ?_
   refine TL.op1 (OpR.pure rfl) rfl ?_
   refine TL.op1 (OpR.pure rfl) rfl ?_
   obtain ⟨x7, hx7, h0⟩ := bnd_some h0
   refine TL.op (OpR.call [0, 1] fn17 (arena_Arena_Add_c hx7) rfl rfl rfl (fun _ => rfl)) rfl (fun w8 => ?_)
   refine TL.op1 (OpR.pure rfl) rfl ?_
   refine TL.op1 (OpR.pure rfl) rfl ?_
   refine TL.op0 (OpR.store 2 rfl rfl rfl rfl rfl rfl rfl rfl) ?_
   refine TL.op1 (OpR.pure rfl) rfl ?_
   refine TL.nil ?_
   show T X _ _ _
   refine T.ret ?_
   obtain rfl := Option.some.inj h0
   exact PostG.retP (ks := [0, 1]) (Gst.only [4, 5] rfl) (.tuple #[(vn w8 0)]) (ResL.cons (ResV.var 2 rfl rfl rfl rfl) (ResL.cons (ResV.tmp rfl) ResL.nil)) rfl rfl rfl rfl
 rcases ite_some ht2 with ⟨c4, ht2⟩ | ⟨c4, ht2⟩
 rotate_left
 · refine T.condF rfl (decide_eq_false c4) ?_
   refine T.skip ?_
   obtain rfl := Option.some.inj ht2
   exact ⟨_, Gst.only [0, 1, 4, 5] rfl, _, rfl, rfl⟩
 refine T.condT rfl (decide_eq_true c4) ?_
 refine T.seq ?_
 refine T.region ?_
 refine TL.op1 (OpR.pure rfl) rfl ?_
 refine TL.op1 (OpR.pure rfl) rfl ?_
 refine TL.op1 (OpR.pure rfl) rfl ?_
 refine TL.op1 (OpR.loadPtr 0 rfl rfl rfl rfl) rfl ?_
 refine TL.op1 (OpR.pure rfl) rfl ?_
 obtain ⟨x5, hx5, ht2⟩ := bnd_some ht2
 refine TL.op1 (OpR.bytesIndex shLay glob0 rfl fn42 (l := a1) (m := a0) hx5 (Src.row 1 rfl rfl) (Src.sl rfl)) rfl ?_
 refine TL.op1 (OpR.pure rfl) rfl ?_
 refine TL.nil ?_
 show T X _ _ _
 refine T.seq ?_
 refine T.region ?_
 refine TL.op1 (OpR.pure rfl) rfl ?_
 refine TL.op1 (OpR.pure rfl) rfl ?_
 refine TL.nil ?_
 show T X _ _ _
 rcases ite_some ht2 with ⟨c6, ht2⟩ | ⟨c6, ht2⟩
 rotate_left
 · refine T.condF rfl (decide_eq_false c6) ?_
   refine T.skip ?_
   obtain rfl := Option.some.inj ht2
   exact ⟨_, Gst.only [0, 1, 4, 5] rfl, _, rfl, rfl⟩
 refine T.condT rfl (decide_eq_true c6) ?_
 refine T.seq ?_
 refine T.region ?_
 refine TL.op1 (OpR.pure rfl) rfl ?_
 refine TL.op1 (OpR.pure rfl) rfl ?_
 refine TL.op1 (OpR.cast (OpR.pure rfl) (intE (lenM _ _))) rfl ?_
 refine TL.op1 (OpR.build rfl rfl rfl rfl rfl) rfl ?_
 refine TL.op0 (OpR.store 2 rfl rfl rfl rfl rfl rfl rfl rfl) ?_
 refine TL.op1 (OpR.pure rfl) rfl ?_
 refine TL.nil ?_
 show T X _ _ _
 refine T.ret ?_
 obtain rfl := Option.some.inj ht2
 obtain rfl := Option.some.inj h0
 exact PostG.retP (ks := [0, 1]) (Gst.only [4, 5] rfl) (.tuple #[v1]) (ResL.cons (ResV.var 2 rfl rfl rfl rfl) (ResL.cons (ResV.tmp rfl) ResL.nil)) rfl rfl rfl rfl
noncomputable def law03_awake : Option Bool :=
  bnd (arena_New [120]) fun x2 =>
  match x2 with
  | .inl x2 =>
      some false
  | .inr x2 =>
      if x2.1 = 0 then
        bnd (arena_Arena_Add [97, 98] x2.2) fun x6 =>
        bnd (arena_Arena_Keep [98] x6.2.2) fun x10 =>
        bnd (if x6.1 = (⟨1, 2⟩ : arena_Span) then
          if x6.2.1 = 0 then
            if x10.1 = (⟨2, 1⟩ : arena_Span) then
              if x10.2.1 = 0 then
                bnd (arena_Arena_Len x10.2.2) fun x18 =>
                if x18 = 3 then
                  bnd (arena_Arena_Bytes x6.1 x10.2.2) fun x20 =>
                  some (x20 == [97, 98])
                else
                  some false
              else
                some false
            else
              some false
          else
            some false
        else
          some false : Option Bool) fun t13 =>
        some t13
      else
        some false
set_option maxHeartbeats 4000000 in
theorem law03_awake_c {res : Bool} (h0 : law03_awake = some res) : CallF X 20 [] [] (fun x => .val (.bool res)) (fun x => []) := by
 unfold law03_awake at h0
 refine CallF.mkG (X := X) Try.func20 rfl rfl Try.ntmps20 rfl rfl ?_
 refine T.seq ?_
 refine T.region ?_
 refine TL.op1 (OpR.pure rfl) rfl ?_
 refine TL.nil ?_
 show T X _ _ _
 refine T.seq ?_
 refine T.region ?_
 refine TL.op (OpR.litRow rfl rfl rfl rfl rfl rfl rfl rfl (fun _ => rfl)) rfl (fun v1 => ?_)
 refine TL.op1 (OpR.markRow 0 rfl rfl rfl rfl rfl rfl rfl rfl) rfl ?_
 obtain ⟨x2, hx2, h0⟩ := bnd_some h0
 rcases x2 with x2 | x2
 · dsimp only at h0
   refine TL.op1 (OpR.call0 fn15 (arena_New_cx1 hx2) rfl) rfl ?_
   refine TL.op1 (OpR.pure rfl) rfl ?_
   refine TL.op1 (OpR.pure rfl) rfl ?_
   refine TL.op1 (OpR.pure rfl) rfl ?_
   refine TL.op1 (OpR.pure rfl) rfl ?_
   refine TL.op1 (OpR.pure rfl) rfl ?_
   refine TL.nil ?_
   show T X _ _ _
   refine T.seq ?_
   refine T.seq ?_
   refine T.region ?_
   refine TL.op1 (OpR.pure rfl) rfl ?_
   refine TL.op1 (OpR.ptrNil rfl rfl rfl) rfl ?_
   refine TL.op1 (OpR.pure rfl) rfl ?_
   refine TL.off rfl rfl rfl rfl rfl rfl rfl ?_
   refine TL.off rfl rfl rfl rfl rfl rfl rfl ?_
   refine TL.op1 (OpR.pickT rfl rfl rfl) rfl ?_
   refine TL.nil ?_
   show T X _ _ _
   refine T.condT rfl rfl ?_
   refine T.seq ?_
   refine T.region ?_
   refine TL.op1 (OpR.pure rfl) rfl ?_
   refine TL.nil ?_
   show T X _ _ _
   refine T.ret ?_
   obtain rfl := Option.some.inj h0
   exact PostG.retP (ks := []) (Gst.trans (Gst.only [0] rfl) (Gst.pick [] rfl rfl)) undef (ResL.cons (ResV.tmp rfl) ResL.nil) rfl rfl rfl rfl
 dsimp only at h0
 refine TL.op (OpR.call [] fn15 (arena_New_cx2 hx2) rfl rfl rfl (fun _ => rfl)) rfl (fun w3 => ?_)
 refine TL.op1 (OpR.pure rfl) rfl ?_
 refine TL.op1 (OpR.pure rfl) rfl ?_
 refine TL.op1 (OpR.pure rfl) rfl ?_
 refine TL.op1 (OpR.pure rfl) rfl ?_
 refine TL.op1 (OpR.pure rfl) rfl ?_
 refine TL.nil ?_
 show T X _ _ _
 refine T.seq ?_
 refine T.seq ?_
 refine T.region ?_
 refine TL.op1 (OpR.pure rfl) rfl ?_
 refine TL.op1 (OpR.ptrNil rfl rfl rfl) rfl ?_
 refine TL.op1 (OpR.pure rfl) rfl ?_
 refine TL.on rfl rfl rfl rfl rfl ?_
 refine TL.op1 (OpR.pure rfl) rfl ?_
 refine TL.on rfl rfl rfl rfl rfl ?_
 refine TL.op1 (OpR.pure rfl) rfl ?_
 refine TL.op1 (OpR.pickF rfl rfl rfl) rfl ?_
 refine TL.nil ?_
 show T X _ _ _
 rcases ite_some h0 with ⟨c4, h0⟩ | ⟨c4, h0⟩
 rotate_left
 · refine T.condT rfl (not_f (beq_eq_false_iff_ne.2 c4)) ?_
   refine T.seq ?_
   refine T.region ?_
   refine TL.op1 (OpR.pure rfl) rfl ?_
   refine TL.nil ?_
   show T X _ _ _
   refine T.ret ?_
   obtain rfl := Option.some.inj h0
   exact PostG.retP (ks := []) (Gst.trans (Gst.only [0] rfl) (Gst.pick [] rfl rfl)) undef (ResL.cons (ResV.tmp rfl) ResL.nil) rfl rfl rfl rfl
 refine T.condF rfl (not_t (beq_iff_eq.2 c4)) ?_
 refine T.skip ?_
 show T X _ _ _
 refine T.seq ?_
 refine T.region ?_
 refine TL.op1 (OpR.pure rfl) rfl ?_
 refine TL.op (OpR.litRow rfl rfl rfl rfl rfl rfl rfl rfl (fun _ => rfl)) rfl (fun v5 => ?_)
 refine TL.op1 (OpR.markRow 3 rfl rfl rfl rfl rfl rfl rfl rfl) rfl ?_
 obtain ⟨x6, hx6, h0⟩ := bnd_some h0
 refine TL.op (OpR.call [1, 2] fn17 (arena_Arena_Add_c hx6) rfl rfl rfl (fun _ => rfl)) rfl (fun w7 => ?_)
 refine TL.op1 (OpR.pure rfl) rfl ?_
 refine TL.op1 (OpR.pure rfl) rfl ?_
 refine TL.op1 (OpR.pure rfl) rfl ?_
 refine TL.op (OpR.alloc rfl rfl (fun _ => rfl)) rfl (fun p8 => ?_)
 refine TL.op0 (OpR.store 4 rfl rfl rfl rfl rfl rfl rfl rfl) ?_
 refine TL.op1 (OpR.pure rfl) rfl ?_
 refine TL.nil ?_
 show T X _ _ _
 refine T.seq ?_
 refine T.region ?_
 refine TL.op1 (OpR.pure rfl) rfl ?_
 refine TL.op (OpR.litRow rfl rfl rfl rfl rfl rfl rfl rfl (fun _ => rfl)) rfl (fun v9 => ?_)
 refine TL.op1 (OpR.markRow 5 rfl rfl rfl rfl rfl rfl rfl rfl) rfl ?_
 obtain ⟨x10, hx10, h0⟩ := bnd_some h0
 refine TL.op (OpR.call [1, 2] fn29 (arena_Arena_Keep_c hx10) rfl rfl rfl (fun _ => rfl)) rfl (fun w11 => ?_)
 refine TL.op1 (OpR.pure rfl) rfl ?_
 refine TL.op1 (OpR.pure rfl) rfl ?_
 refine TL.op1 (OpR.pure rfl) rfl ?_
 refine TL.op (OpR.alloc rfl rfl (fun _ => rfl)) rfl (fun p12 => ?_)
 refine TL.op0 (OpR.store 6 rfl rfl rfl rfl rfl rfl rfl rfl) ?_
 refine TL.op1 (OpR.pure rfl) rfl ?_
 refine TL.nil ?_
 show T X _ _ _
 refine T.seq ?_
 obtain ⟨t13, ht13, h0⟩ := bnd_some h0
 refine T.cutC (fun S' => S' = ⟨[(0, .val (.bool t13))], [], 61⟩) (fun _ h => h) ?_ ?_
 rotate_left
 · rintro _ rfl
   show T X _ _ _
   refine T.ret ?_
   obtain rfl := Option.some.inj h0
   exact PostG.retP (ks := []) (Gst.only [0] rfl) undef (ResL.cons (ResV.tmp rfl) ResL.nil) rfl rfl rfl rfl
 refine T.region ?_
 refine TL.op1 (OpR.loadPtr 4 rfl rfl rfl rfl) rfl ?_
 refine TL.op1 (OpR.build rfl rfl rfl rfl rfl) rfl ?_
 refine TL.op1 (OpR.cast (OpR.eqStruct rfl rfl rfl rfl rfl (by kernel_rfl) (by kernel_rfl)) (boolE (beq_arena_Span x6.1 (⟨1, 2⟩ : arena_Span)))) rfl ?_
 refine TL.op1 (OpR.pure rfl) rfl ?_
 rcases ite_some ht13 with ⟨c14, ht13⟩ | ⟨c14, ht13⟩
 rotate_left
 · refine TL.off rfl rfl rfl rfl (beq_eq_false_iff_ne.2 c14) rfl rfl ?_
   refine TL.off rfl rfl rfl rfl (beq_eq_false_iff_ne.2 c14) rfl rfl ?_
   refine TL.op1 (OpR.pickF rfl (beq_eq_false_iff_ne.2 c14) rfl) rfl ?_
   refine TL.op1 (OpR.pure rfl) rfl ?_
   refine TL.off rfl rfl rfl rfl rfl rfl rfl ?_
   refine TL.off rfl rfl rfl rfl rfl rfl rfl ?_
   refine TL.off rfl rfl rfl rfl rfl rfl rfl ?_
   refine TL.op1 (OpR.pickF rfl rfl rfl) rfl ?_
   refine TL.op1 (OpR.pure rfl) rfl ?_
   refine TL.off rfl rfl rfl rfl rfl rfl rfl ?_
   refine TL.off rfl rfl rfl rfl rfl rfl rfl ?_
   refine TL.op1 (OpR.pickF rfl rfl rfl) rfl ?_
   refine TL.op1 (OpR.pure rfl) rfl ?_
   refine TL.off rfl rfl rfl rfl rfl rfl rfl ?_
   refine TL.off rfl rfl rfl rfl rfl rfl rfl ?_
   refine TL.off rfl rfl rfl rfl rfl rfl rfl ?_
   refine TL.op1 (OpR.pickF rfl rfl rfl) rfl ?_
   refine TL.op1 (OpR.pure rfl) rfl ?_
   refine TL.off rfl rfl rfl rfl rfl rfl rfl ?_
   refine TL.off rfl rfl rfl rfl rfl rfl rfl ?_
   refine TL.off rfl rfl rfl rfl rfl rfl rfl ?_
   refine TL.off rfl rfl rfl rfl rfl rfl rfl ?_
   refine TL.off rfl rfl rfl rfl rfl rfl rfl ?_
   refine TL.op1 (OpR.pickF rfl rfl rfl) rfl ?_
   refine TL.op1 (OpR.pure rfl) rfl ?_
   refine TL.nil ?_
   obtain rfl := Option.some.inj ht13
   exact ⟨_, Gst.trans (Gst.only [0] rfl) (Gst.pick [] rfl rfl), rfl⟩
 refine TL.on rfl rfl rfl rfl (beq_iff_eq.2 c14) ?_
 refine TL.op1 (OpR.pure rfl) rfl ?_
 refine TL.on rfl rfl rfl rfl (beq_iff_eq.2 c14) ?_
 refine TL.op1 (OpR.pure rfl) rfl ?_
 refine TL.op1 (OpR.pickT rfl (beq_iff_eq.2 c14) rfl) rfl ?_
 refine TL.op1 (OpR.pure rfl) rfl ?_
 rcases ite_some ht13 with ⟨c15, ht13⟩ | ⟨c15, ht13⟩
 rotate_left
 · refine TL.off rfl rfl rfl rfl (beq_eq_false_iff_ne.2 c15) rfl rfl ?_
   refine TL.off rfl rfl rfl rfl (beq_eq_false_iff_ne.2 c15) rfl rfl ?_
   refine TL.off rfl rfl rfl rfl (beq_eq_false_iff_ne.2 c15) rfl rfl ?_
   refine TL.op1 (OpR.pickF rfl (beq_eq_false_iff_ne.2 c15) rfl) rfl ?_
   refine TL.op1 (OpR.pure rfl) rfl ?_
   refine TL.off rfl rfl rfl rfl rfl rfl rfl ?_
   refine TL.off rfl rfl rfl rfl rfl rfl rfl ?_
   refine TL.op1 (OpR.pickF rfl rfl rfl) rfl ?_
   refine TL.op1 (OpR.pure rfl) rfl ?_
   refine TL.off rfl rfl rfl rfl rfl rfl rfl ?_
   refine TL.off rfl rfl rfl rfl rfl rfl rfl ?_
   refine TL.off rfl rfl rfl rfl rfl rfl rfl ?_
   refine TL.op1 (OpR.pickF rfl rfl rfl) rfl ?_
   refine TL.op1 (OpR.pure rfl) rfl ?_
   refine TL.off rfl rfl rfl rfl rfl rfl rfl ?_
   refine TL.off rfl rfl rfl rfl rfl rfl rfl ?_
   refine TL.off rfl rfl rfl rfl rfl rfl rfl ?_
   refine TL.off rfl rfl rfl rfl rfl rfl rfl ?_
   refine TL.off rfl rfl rfl rfl rfl rfl rfl ?_
   refine TL.op1 (OpR.pickF rfl rfl rfl) rfl ?_
   refine TL.op1 (OpR.pure rfl) rfl ?_
   refine TL.nil ?_
   obtain rfl := Option.some.inj ht13
   exact ⟨_, Gst.trans (Gst.only [0] rfl) (Gst.pick [] rfl rfl), rfl⟩
 refine TL.on rfl rfl rfl rfl (beq_iff_eq.2 c15) ?_
 refine TL.op1 (OpR.loadPtr 6 rfl rfl rfl rfl) rfl ?_
 refine TL.on rfl rfl rfl rfl (beq_iff_eq.2 c15) ?_
 refine TL.op1 (OpR.build rfl rfl rfl rfl rfl) rfl ?_
 refine TL.on rfl rfl rfl rfl (beq_iff_eq.2 c15) ?_
 refine TL.op1 (OpR.cast (OpR.eqStruct rfl rfl rfl rfl rfl (by kernel_rfl) (by kernel_rfl)) (boolE (beq_arena_Span x10.1 (⟨2, 1⟩ : arena_Span)))) rfl ?_
 refine TL.op1 (OpR.pickT rfl (beq_iff_eq.2 c15) rfl) rfl ?_
 refine TL.op1 (OpR.pure rfl) rfl ?_
 rcases ite_some ht13 with ⟨c16, ht13⟩ | ⟨c16, ht13⟩
 rotate_left
 · refine TL.off rfl rfl rfl rfl (beq_eq_false_iff_ne.2 c16) rfl rfl ?_
   refine TL.off rfl rfl rfl rfl (beq_eq_false_iff_ne.2 c16) rfl rfl ?_
   refine TL.op1 (OpR.pickF rfl (beq_eq_false_iff_ne.2 c16) rfl) rfl ?_
   refine TL.op1 (OpR.pure rfl) rfl ?_
   refine TL.off rfl rfl rfl rfl rfl rfl rfl ?_
   refine TL.off rfl rfl rfl rfl rfl rfl rfl ?_
   refine TL.off rfl rfl rfl rfl rfl rfl rfl ?_
   refine TL.op1 (OpR.pickF rfl rfl rfl) rfl ?_
   refine TL.op1 (OpR.pure rfl) rfl ?_
   refine TL.off rfl rfl rfl rfl rfl rfl rfl ?_
   refine TL.off rfl rfl rfl rfl rfl rfl rfl ?_
   refine TL.off rfl rfl rfl rfl rfl rfl rfl ?_
   refine TL.off rfl rfl rfl rfl rfl rfl rfl ?_
   refine TL.off rfl rfl rfl rfl rfl rfl rfl ?_
   refine TL.op1 (OpR.pickF rfl rfl rfl) rfl ?_
   refine TL.op1 (OpR.pure rfl) rfl ?_
   refine TL.nil ?_
   obtain rfl := Option.some.inj ht13
   exact ⟨_, Gst.trans (Gst.only [0] rfl) (Gst.pick [] rfl rfl), rfl⟩
 refine TL.on rfl rfl rfl rfl (beq_iff_eq.2 c16) ?_
 refine TL.op1 (OpR.pure rfl) rfl ?_
 refine TL.on rfl rfl rfl rfl (beq_iff_eq.2 c16) ?_
 refine TL.op1 (OpR.pure rfl) rfl ?_
 refine TL.op1 (OpR.pickT rfl (beq_iff_eq.2 c16) rfl) rfl ?_
 refine TL.op1 (OpR.pure rfl) rfl ?_
 rcases ite_some ht13 with ⟨c17, ht13⟩ | ⟨c17, ht13⟩
 rotate_left
 · refine TL.off rfl rfl rfl rfl (beq_eq_false_iff_ne.2 c17) rfl rfl ?_
   refine TL.off rfl rfl rfl rfl (beq_eq_false_iff_ne.2 c17) rfl rfl ?_
   refine TL.off rfl rfl rfl rfl (beq_eq_false_iff_ne.2 c17) rfl rfl ?_
   refine TL.op1 (OpR.pickF rfl (beq_eq_false_iff_ne.2 c17) rfl) rfl ?_
   refine TL.op1 (OpR.pure rfl) rfl ?_
   refine TL.off rfl rfl rfl rfl rfl rfl rfl ?_
   refine TL.off rfl rfl rfl rfl rfl rfl rfl ?_
   refine TL.off rfl rfl rfl rfl rfl rfl rfl ?_
   refine TL.off rfl rfl rfl rfl rfl rfl rfl ?_
   refine TL.off rfl rfl rfl rfl rfl rfl rfl ?_
   refine TL.op1 (OpR.pickF rfl rfl rfl) rfl ?_
   refine TL.op1 (OpR.pure rfl) rfl ?_
   refine TL.nil ?_
   obtain rfl := Option.some.inj ht13
   exact ⟨_, Gst.trans (Gst.only [0] rfl) (Gst.pick [] rfl rfl), rfl⟩
 refine TL.on rfl rfl rfl rfl (beq_iff_eq.2 c17) ?_
 refine TL.op1 (OpR.pure rfl) rfl ?_
 refine TL.on rfl rfl rfl rfl (beq_iff_eq.2 c17) ?_
 obtain ⟨x18, hx18, ht13⟩ := bnd_some ht13
 refine TL.op1 (OpR.call [1, 2] fn19 (arena_Arena_Len_c hx18) rfl rfl rfl (fun _ => rfl)) rfl ?_
 refine TL.on rfl rfl rfl rfl (beq_iff_eq.2 c17) ?_
 refine TL.op1 (OpR.pure rfl) rfl ?_
 refine TL.op1 (OpR.pickT rfl (beq_iff_eq.2 c17) rfl) rfl ?_
 refine TL.op1 (OpR.pure rfl) rfl ?_
 rcases ite_some ht13 with ⟨c19, ht13⟩ | ⟨c19, ht13⟩
 rotate_left
 · refine TL.off rfl rfl rfl rfl (beq_eq_false_iff_ne.2 c19) rfl rfl ?_
   refine TL.off rfl rfl rfl rfl (beq_eq_false_iff_ne.2 c19) rfl rfl ?_
   refine TL.off rfl rfl rfl rfl (beq_eq_false_iff_ne.2 c19) rfl rfl ?_
   refine TL.off rfl rfl rfl rfl (beq_eq_false_iff_ne.2 c19) rfl rfl ?_
   refine TL.off rfl rfl rfl rfl (beq_eq_false_iff_ne.2 c19) rfl rfl ?_
   refine TL.op1 (OpR.pickF rfl (beq_eq_false_iff_ne.2 c19) rfl) rfl ?_
   refine TL.op1 (OpR.pure rfl) rfl ?_
   refine TL.nil ?_
   obtain rfl := Option.some.inj ht13
   exact ⟨_, Gst.trans (Gst.only [0] rfl) (Gst.pick [] rfl rfl), rfl⟩
 refine TL.on rfl rfl rfl rfl (beq_iff_eq.2 c19) ?_
 refine TL.op1 (OpR.pure rfl) rfl ?_
 refine TL.on rfl rfl rfl rfl (beq_iff_eq.2 c19) ?_
 refine TL.op1 (OpR.loadPtr 4 rfl rfl rfl rfl) rfl ?_
 refine TL.on rfl rfl rfl rfl (beq_iff_eq.2 c19) ?_
 obtain ⟨x20, hx20, ht13⟩ := bnd_some ht13
 refine TL.op (OpR.call [1, 2] fn18 (arena_Arena_Bytes_c hx20) rfl rfl rfl (fun _ => rfl)) rfl (fun w21 => ?_)
 refine TL.on rfl rfl rfl rfl (beq_iff_eq.2 c19) ?_
 refine TL.op1 (OpR.toStrF (l := x20) (Src.row 7 rfl rfl) rfl rfl rfl rfl rfl rfl) rfl ?_
 refine TL.on rfl rfl rfl rfl (beq_iff_eq.2 c19) ?_
 refine TL.op1 (OpR.cast (OpR.pure rfl) (boolE (strEq _ _))) rfl ?_
 refine TL.op1 (OpR.pickT rfl (beq_iff_eq.2 c19) rfl) rfl ?_
 refine TL.op1 (OpR.pure rfl) rfl ?_
 refine TL.nil ?_
 obtain rfl := Option.some.inj ht13
 exact ⟨_, Gst.trans (Gst.only [0] rfl) (Gst.pick [] rfl rfl), rfl⟩
end Go.Proofs.Ytlginjmkmfodmaa.S
