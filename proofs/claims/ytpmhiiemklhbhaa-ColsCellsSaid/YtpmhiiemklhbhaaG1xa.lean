/- Printed by a program of this session's own (gen.py): Lean functions for Go functions, and the proofs that the Go code comes to their answers. -/
import Derived.Test.YtpmhiiemklhbhaaG0
set_option linter.unusedVariables false
set_option linter.unusedSimpArgs false
set_option maxRecDepth 20000
namespace Go.Proofs.Ytpmhiiemklhbhaa.S
open Go Go.Sm
attribute [local irreducible] T TL OpR CallT iter loop
noncomputable def law11_Cut (a0 : List UInt8) (a1 : Int) : Option (List UInt8) :=
  if (a0.length : Int) > a1 then
    bnd (cut a0 0 a1) fun x2 =>
    some x2
  else
    some a0
set_option maxHeartbeats 4000000 in
theorem law11_Cut_c {a0 : List UInt8} {a1 : Int} {res : (List UInt8)} (h0 : law11_Cut a0 a1 = some res) : CallF X 5 [.val (.string (bs a0)), .val (.int .i64 a1)] [] (fun x => .val (.string (bs res))) (fun x => []) := by
 unfold law11_Cut at h0
 refine CallF.mkG (X := X) rfl Try.func5 rfl rfl Try.ntmps5 rfl rfl ?_
 refine aS ?_
 refine aA rfl rfl ?_
 refine TL.nil ?_
 show T X _ _ _
 refine T.seq ?_
 refine aS ?_
 refine aA rfl rfl ?_
 refine TL.op1 (OpR.cast (OpR.pure rfl) (intE (lenS _))) rfl ?_
 iterate 2 refine aA rfl rfl ?_
 refine TL.nil ?_
 show T X _ _ _
 rcases ite_some h0 with ⟨c1, h0⟩ | ⟨c1, h0⟩
 rotate_left
 · refine T.condF rfl (decide_eq_false c1) ?_
   refine T.skip ?_
   show T X _ _ _
   refine aS ?_
   iterate 2 refine aA rfl rfl ?_
   refine TL.nil ?_
   show T X _ _ _
   refine T.ret ?_
   obtain rfl := Option.some.inj h0
   exact PostG.retP (ks := []) (Gst.only [4] rfl) undef (ResL.cons (ResV.tmp rfl) ResL.nil) rfl rfl rfl rfl
 refine T.condT rfl (decide_eq_true c1) ?_
 refine aS ?_
 iterate 2 refine aA rfl rfl ?_
 obtain ⟨x2, hx2, h0⟩ := bnd_some h0
 refine TL.op1 (OpR.sliceS hx2 rfl rfl rfl BdM.none (BdM.some rfl)) rfl ?_
 refine aA rfl rfl ?_
 refine TL.nil ?_
 show T X _ _ _
 refine T.ret ?_
 obtain rfl := Option.some.inj h0
 exact PostG.retP (ks := []) (Gst.only [4] rfl) undef (ResL.cons (ResV.tmp rfl) ResL.nil) rfl rfl rfl rfl
noncomputable def arena_New (a0 : List UInt8) : Option (Int ⊕ (Int × (List UInt8))) :=
  if (a0.length : Int) > 4096 then
    some (Sum.inl 8)
  else
    bnd (mkz 1 (a0.length : Int) (0 : UInt8)) fun x2 =>
    some (Sum.inr (0, (over x2 a0)))
set_option maxHeartbeats 4000000 in
theorem arena_New_c {a0 : List UInt8} {res : Int ⊕ (Int × (List UInt8))} (h0 : arena_New a0 = some res) : CallF X 22 [.sl 1 (List.map byteD a0)] [] (fun x => (match res with | .inl res => .tup [.val (.pointer none), .val (.int .i64 res)] | .inr res => .tup [.val (.pointer (some ⟨(blk (vn x 0)), 0, none⟩)), .val (.int .i64 res.1)])) (fun x => (match res with | .inl res => [] | .inr res => [.var (blk (vn x 0)) [.val (vn x 1)] 123, .row (vn x 1) (List.map byteD res.2) 1 5])) := by
 unfold arena_New at h0
 refine CallF.mkG (X := X) rfl Try.func22 rfl rfl Try.ntmps22 rfl rfl ?_
 refine aS ?_
 iterate 2 refine aA rfl rfl ?_
 refine TL.nil ?_
 show T X _ _ _
 refine T.seq ?_
 refine aS ?_
 refine aA rfl rfl ?_
 refine TL.op1 (OpR.cast (OpR.pure rfl) (intE (lenM _ _))) rfl ?_
 refine aA rfl rfl ?_
 refine TL.nil ?_
 show T X _ _ _
 rcases ite_some h0 with ⟨c1, h0⟩ | ⟨c1, h0⟩
 · refine T.condT rfl (decide_eq_true c1) ?_
   refine aS ?_
   iterate 2 refine aA rfl rfl ?_
   refine TL.nil ?_
   show T X _ _ _
   refine T.ret ?_
   obtain rfl := Option.some.inj h0
   exact PostG.retP (ks := []) (Gst.only [2, 3] rfl) undef (ResL.cons (ResV.tmp rfl) (ResL.cons (ResV.tmp rfl) ResL.nil)) rfl rfl rfl rfl
 refine T.condF rfl (decide_eq_false c1) ?_
 refine T.skip ?_
 show T X _ _ _
 refine aS ?_
 refine aA rfl rfl ?_
 refine TL.op1 (OpR.cast (OpR.pure rfl) (intE (lenM _ _))) rfl ?_
 obtain ⟨x2, hx2, h0⟩ := bnd_some h0
 refine TL.op (OpR.makeM byteD hx2 rfl rfl rfl rfl rfl rfl rfl rfl rfl rfl rfl (fun _ => rfl)) rfl (fun v3 => ?_)
 refine TL.op1 (OpR.build rfl rfl rfl rfl rfl) rfl ?_
 refine TL.op (OpR.boxVar rfl rfl (fun _ => rfl)) rfl (fun p4 => ?_)
 refine aA rfl rfl ?_
 refine TL.nil ?_
 show T X _ _ _
 refine aS ?_
 iterate 3 refine aA rfl rfl ?_
 refine TL.op1 (OpR.loadPtr 1 rfl rfl rfl rfl) rfl ?_
 refine aA rfl rfl ?_
 refine TL.op1 (OpR.copyM byteD 0 rfl rfl rfl rfl rfl rfl rfl rfl) rfl ?_
 refine TL.nil ?_
 show T X _ _ _
 refine aS ?_
 iterate 3 refine aA rfl rfl ?_
 refine TL.nil ?_
 show T X _ _ _
 refine T.ret ?_
 obtain rfl := Option.some.inj h0
 exact PostG.retP (ks := [0, 1]) (Gst.trans (Gst.only [2, 3] rfl) (Gst.pick [1, 0] rfl rfl)) (.tuple #[p4, v3]) (ResL.cons (ResV.tmp rfl) (ResL.cons (ResV.tmp rfl) ResL.nil)) rfl rfl rfl rfl
theorem arena_New_cx1 {a0 : List UInt8} {res : Int} (h0 : arena_New a0 = some (Sum.inl res)) : CallF X 22 [.sl 1 (List.map byteD a0)] [] (fun x => .tup [.val (.pointer none), .val (.int .i64 res)]) (fun x => []) := arena_New_c h0
theorem arena_New_cx2 {a0 : List UInt8} {res : Int × (List UInt8)} (h0 : arena_New a0 = some (Sum.inr res)) : CallF X 22 [.sl 1 (List.map byteD a0)] [] (fun x => .tup [.val (.pointer (some ⟨(blk (vn x 0)), 0, none⟩)), .val (.int .i64 res.1)]) (fun x => [.var (blk (vn x 0)) [.val (vn x 1)] 123, .row (vn x 1) (List.map byteD res.2) 1 5]) := arena_New_c h0
noncomputable def scan_reader_done (a0 : List UInt8) (a1 : Int) : Option Bool :=
  some (decide (a1 ≥ (a0.length : Int)))
set_option maxHeartbeats 4000000 in
theorem scan_reader_done_c {a0 : List UInt8} {a1 : Int} {b0 : Nat} {res : Bool} (h0 : scan_reader_done a0 a1 = some res) : CallF X 52 [.val (.pointer (some ⟨b0, 0, none⟩))] [.var b0 [.sl 1 (List.map byteD a0), .val (.int .i64 a1)] 126] (fun x => .val (.bool res)) (fun x => [.var b0 [.sl 1 (List.map byteD a0), .val (.int .i64 a1)] 126]) := by
 unfold scan_reader_done at h0
 refine CallF.mkG (X := X) rfl Try.func52 rfl rfl Try.ntmps52 rfl rfl ?_
 refine aS ?_
 refine aA rfl rfl ?_
 refine TL.nil ?_
 show T X _ _ _
 refine T.seq ?_
 refine T.drawQ drawsX [.val (.pointer (some ⟨b0, 0, none⟩)), .val (.pointer (some ⟨b0, 0, none⟩)), .val (.pointer (some ⟨b0, 1, none⟩)), .val (.int .i64 a1), .val (.pointer (some ⟨b0, 0, none⟩)), .val (.pointer (some ⟨b0, 0, none⟩)), .val (.pointer (some ⟨b0, 0, none⟩)), .sl 1 (List.map byteD a0), .val (.int .i64 (a0.length : Int)), .val (.bool (decide (a1 ≥ (a0.length : Int)))), .val (.bool (decide (a1 ≥ (a0.length : Int))))] [2] (by decide +kernel) rfl ?_ rfl ?_
 rotate_left
 · show T X _ _ _
   refine T.ret ?_
   obtain rfl := Option.some.inj h0
   exact PostG.retP (ks := [0]) (Gst.only [2] rfl) undef (ResL.cons (ResV.tmp rfl) ResL.nil) rfl rfl rfl rfl
 iterate 3 refine aB rfl rfl rfl ?_
 refine OpsQ.yes (Want.plain rfl) rfl (OpR.loadPtr 0 rfl rfl rfl rfl) ?_
 iterate 3 refine aB rfl rfl rfl ?_
 refine OpsQ.yes (Want.plain rfl) rfl (OpR.loadPtr 0 rfl rfl rfl rfl) ?_
 refine OpsQ.yes (Want.plain rfl) rfl (OpR.cast (OpR.pure rfl) (intE (lenM _ _))) ?_
 iterate 2 refine aB rfl rfl rfl ?_
 exact OpsQ.nil
noncomputable def scan_reader_is (a0 : UInt8) (a1 : List UInt8) (a2 : Int) : Option Bool :=
  bnd (bnd (scan_reader_done a1 a2) fun x3 =>
  if x3 = true then
    some false
  else
    bnd (idx a1 a2) fun x5 =>
    some ((x5.toNat : Int) == (a0.toNat : Int)) : Option Bool) fun t1 =>
  some t1
set_option maxHeartbeats 4000000 in
theorem scan_reader_is_c {a0 : UInt8} {a1 : List UInt8} {a2 : Int} {b0 : Nat} {res : Bool} (h0 : scan_reader_is a0 a1 a2 = some res) : CallF X 71 [.val (.pointer (some ⟨b0, 0, none⟩)), .val (.int .u8 (a0.toNat : Int))] [.var b0 [.sl 1 (List.map byteD a1), .val (.int .i64 a2)] 126] (fun x => .val (.bool res)) (fun x => [.var b0 [.sl 1 (List.map byteD a1), .val (.int .i64 a2)] 126]) := by
 unfold scan_reader_is at h0
 refine CallF.mkG (X := X) rfl Try.func71 rfl rfl Try.ntmps71 rfl rfl ?_
 refine aS ?_
 refine aA rfl rfl ?_
 refine TL.nil ?_
 show T X _ _ _
 refine T.seq ?_
 obtain ⟨t1, ht1, h0⟩ := bnd_some h0
 refine T.cutC (fun S' => S' = ⟨[(4, .val (.bool t1))], [.var b0 [.sl 1 (List.map byteD a1), .val (.int .i64 a2)] 126], 22⟩) (fun _ h => h) ?_ ?_
 rotate_left
 · rintro _ rfl
   show T X _ _ _
   refine T.ret ?_
   obtain rfl := Option.some.inj h0
   exact PostG.retP (ks := [0]) (Gst.only [4] rfl) undef (ResL.cons (ResV.tmp rfl) ResL.nil) rfl rfl rfl rfl
 obtain ⟨x3, hx3, ht1⟩ := bnd_some ht1
 rcases ite_some ht1 with ⟨c4, ht1⟩ | ⟨c4, ht1⟩
 · refine T.drawQ drawsX [.val (.pointer (some ⟨b0, 0, none⟩)), .val (.bool x3), .val (.bool (!x3)), .val (.bool (!x3)), .tup [], .tup [], .tup [], .tup [], .tup [], .tup [], .tup [], .tup [], .tup [], .tup [], .tup [], .tup [], .val (.bool false), .val (.bool false)] [4] (by decide +kernel) rfl ?_ rfl ?_
   rotate_left
   · obtain rfl := Option.some.inj ht1
     exact ⟨_, Gst.only [4] rfl, rfl⟩
   refine aB rfl rfl rfl ?_
   refine OpsQ.yes (Want.plain rfl) rfl (OpR.call [0] fn52 (scan_reader_done_c hx3) rfl rfl rfl (fun _ => rfl)) ?_
   iterate 2 refine aB rfl rfl rfl ?_
   refine OpsQ.no (Want.bool rfl rfl rfl rfl (by rw [(not_t (c4))]; rfl)) rfl ?_
   refine OpsQ.no (Want.bool rfl rfl rfl rfl (by rw [(not_t (c4))]; rfl)) rfl ?_
   refine OpsQ.no (Want.bool rfl rfl rfl rfl (by rw [(not_t (c4))]; rfl)) rfl ?_
   refine OpsQ.no (Want.bool rfl rfl rfl rfl (by rw [(not_t (c4))]; rfl)) rfl ?_
   refine OpsQ.no (Want.bool rfl rfl rfl rfl (by rw [(not_t (c4))]; rfl)) rfl ?_
   refine OpsQ.no (Want.bool rfl rfl rfl rfl (by rw [(not_t (c4))]; rfl)) rfl ?_
   refine OpsQ.no (Want.bool rfl rfl rfl rfl (by rw [(not_t (c4))]; rfl)) rfl ?_
   refine OpsQ.no (Want.bool rfl rfl rfl rfl (by rw [(not_t (c4))]; rfl)) rfl ?_
   refine OpsQ.no (Want.bool rfl rfl rfl rfl (by rw [(not_t (c4))]; rfl)) rfl ?_
   refine OpsQ.no (Want.bool rfl rfl rfl rfl (by rw [(not_t (c4))]; rfl)) rfl ?_
   refine OpsQ.no (Want.bool rfl rfl rfl rfl (by rw [(not_t (c4))]; rfl)) rfl ?_
   refine OpsQ.no (Want.bool rfl rfl rfl rfl (by rw [(not_t (c4))]; rfl)) rfl ?_
   refine OpsQ.yes (Want.plain rfl) rfl (OpR.pickF rfl (not_t (c4)) rfl) ?_
   refine aB rfl rfl rfl ?_
   exact OpsQ.nil
 obtain ⟨x5, hx5, ht1⟩ := bnd_some ht1
 refine T.drawQ drawsX [.val (.pointer (some ⟨b0, 0, none⟩)), .val (.bool x3), .val (.bool (!x3)), .val (.bool (!x3)), .val (.pointer (some ⟨b0, 0, none⟩)), .val (.pointer (some ⟨b0, 0, none⟩)), .val (.pointer (some ⟨b0, 0, none⟩)), .sl 1 (List.map byteD a1), .val (.pointer (some ⟨b0, 0, none⟩)), .val (.pointer (some ⟨b0, 0, none⟩)), .val (.pointer (some ⟨b0, 1, none⟩)), .val (.int .i64 a2), .nod [.val (.int .u8 (x5.toNat : Int))], .val (.int .u8 (x5.toNat : Int)), .val (.int .u8 (a0.toNat : Int)), .val (.bool ((x5.toNat : Int) == (a0.toNat : Int))), .val (.bool ((x5.toNat : Int) == (a0.toNat : Int))), .val (.bool ((x5.toNat : Int) == (a0.toNat : Int)))] [4] (by decide +kernel) rfl ?_ rfl ?_
 rotate_left
 · obtain rfl := Option.some.inj ht1
   exact ⟨_, Gst.only [4] rfl, rfl⟩
 refine aB rfl rfl rfl ?_
 refine OpsQ.yes (Want.plain rfl) rfl (OpR.call [0] fn52 (scan_reader_done_c hx3) rfl rfl rfl (fun _ => rfl)) ?_
 iterate 2 refine aB rfl rfl rfl ?_
 refine OpsQ.yes (Want.bool rfl rfl rfl rfl (by rw [(not_f (eq_false_of_ne_true c4))]; rfl)) rfl (OpR.pure rfl) ?_
 refine OpsQ.yes (Want.bool rfl rfl rfl rfl (by rw [(not_f (eq_false_of_ne_true c4))]; rfl)) rfl (OpR.pure rfl) ?_
 refine OpsQ.yes (Want.bool rfl rfl rfl rfl (by rw [(not_f (eq_false_of_ne_true c4))]; rfl)) rfl (OpR.pure rfl) ?_
 refine OpsQ.yes (Want.bool rfl rfl rfl rfl (by rw [(not_f (eq_false_of_ne_true c4))]; rfl)) rfl (OpR.loadPtr 0 rfl rfl rfl rfl) ?_
 refine OpsQ.yes (Want.bool rfl rfl rfl rfl (by rw [(not_f (eq_false_of_ne_true c4))]; rfl)) rfl (OpR.pure rfl) ?_
 refine OpsQ.yes (Want.bool rfl rfl rfl rfl (by rw [(not_f (eq_false_of_ne_true c4))]; rfl)) rfl (OpR.pure rfl) ?_
 refine OpsQ.yes (Want.bool rfl rfl rfl rfl (by rw [(not_f (eq_false_of_ne_true c4))]; rfl)) rfl (OpR.pure rfl) ?_
 refine OpsQ.yes (Want.bool rfl rfl rfl rfl (by rw [(not_f (eq_false_of_ne_true c4))]; rfl)) rfl (OpR.loadPtr 0 rfl rfl rfl rfl) ?_
 refine OpsQ.yes (Want.bool rfl rfl rfl rfl (by rw [(not_f (eq_false_of_ne_true c4))]; rfl)) rfl (OpR.indexM byteD hx5 rfl rfl rfl rfl rfl) ?_
 refine OpsQ.yes (Want.bool rfl rfl rfl rfl (by rw [(not_f (eq_false_of_ne_true c4))]; rfl)) rfl (OpR.pure rfl) ?_
 refine OpsQ.yes (Want.bool rfl rfl rfl rfl (by rw [(not_f (eq_false_of_ne_true c4))]; rfl)) rfl (OpR.pure rfl) ?_
 refine OpsQ.yes (Want.bool rfl rfl rfl rfl (by rw [(not_f (eq_false_of_ne_true c4))]; rfl)) rfl (OpR.pure rfl) ?_
 refine OpsQ.yes (Want.plain rfl) rfl (OpR.pickT rfl (not_f (eq_false_of_ne_true c4)) rfl) ?_
 refine aB rfl rfl rfl ?_
 exact OpsQ.nil
noncomputable def arena_Join (a0 : arena_Span) (a1 : arena_Span) : Option (arena_Span × Bool) :=
  bnd (if a0.fN < 0 then
    some true
  else
    if a1.fN < 0 then
      some true
    else
      some (!(a1 == (⟨w64 (a0.fAt + a0.fN), a1.fN⟩ : arena_Span))) : Option Bool) fun t2 =>
  if t2 = true then
    some ((⟨0, 0⟩ : arena_Span), false)
  else
    some ((⟨a0.fAt, w64 (a0.fN + a1.fN)⟩ : arena_Span), true)
set_option maxHeartbeats 4000000 in
theorem arena_Join_c {a0 : arena_Span} {a1 : arena_Span} {res : arena_Span × Bool} (h0 : arena_Join a0 a1 = some res) : CallF X 92 [.agg [.val (.int .i64 a0.fAt), .val (.int .i64 a0.fN)], .agg [.val (.int .i64 a1.fAt), .val (.int .i64 a1.fN)]] [] (fun x => .tup [.agg [.val (.int .i64 res.1.fAt), .val (.int .i64 res.1.fN)], .val (.bool res.2)]) (fun x => []) := by
 unfold arena_Join at h0
 refine CallF.mkG (X := X) rfl Try.func92 rfl rfl Try.ntmps92 rfl rfl ?_
 refine aS ?_
 refine TL.op1 (OpR.boxImm rfl rfl) rfl ?_
 refine TL.op1 (OpR.boxImm rfl rfl) rfl ?_
 refine TL.op (OpR.alloc rfl rfl (fun _ => rfl)) rfl (fun p1 => ?_)
 refine aA rfl rfl ?_
 refine TL.nil ?_
 show T X _ _ _
 refine T.seq ?_
 refine T.seq ?_
 obtain ⟨t2, ht2, h0⟩ := bnd_some h0
 refine T.cutC (fun S' => S' = ⟨[(25, .val (.bool t2)), (5, .val (.bool false)), (4, .val (.pointer (some ⟨(blk p1), 0, none⟩))), (3, .nod [.val (.int .i64 a1.fAt), .val (.int .i64 a1.fN)]), (2, .nod [.val (.int .i64 a0.fAt), .val (.int .i64 a0.fN)])], [.var (blk p1) [.val (.int .i64 0), .val (.int .i64 0)] 48], 35⟩) (fun _ h => h) ?_ ?_
 rotate_left
 · rintro _ rfl
   show T X _ _ _
   rcases ite_some h0 with ⟨c5, h0⟩ | ⟨c5, h0⟩
   · refine T.condT rfl (c5) ?_
     refine aS ?_
     refine TL.op1 (OpR.build rfl rfl rfl rfl rfl) rfl ?_
     refine TL.op0 (OpR.store 0 rfl rfl rfl rfl rfl rfl rfl rfl) ?_
     refine aA rfl rfl ?_
     refine TL.nil ?_
     show T X _ _ _
     refine T.ret ?_
     obtain rfl := Option.some.inj h0
     exact PostG.retP (ks := []) (Gst.only [4, 5] rfl) undef (ResL.cons (ResV.var 0 rfl rfl rfl rfl) (ResL.cons (ResV.tmp rfl) ResL.nil)) rfl rfl rfl rfl
   refine T.condF rfl (eq_false_of_ne_true c5) ?_
   refine T.skip ?_
   show T X _ _ _
   refine aS ?_
   iterate 7 refine aA rfl rfl ?_
   refine TL.op1 (OpR.build rfl rfl rfl rfl rfl) rfl ?_
   refine TL.op0 (OpR.store 0 rfl rfl rfl rfl rfl rfl rfl rfl) ?_
   refine aA rfl rfl ?_
   refine TL.nil ?_
   show T X _ _ _
   refine T.ret ?_
   obtain rfl := Option.some.inj h0
   exact PostG.retP (ks := []) (Gst.only [4, 5] rfl) undef (ResL.cons (ResV.var 0 rfl rfl rfl rfl) (ResL.cons (ResV.tmp rfl) ResL.nil)) rfl rfl rfl rfl
 refine T.region ?_
 iterate 4 refine aA rfl rfl ?_
 rcases ite_some ht2 with ⟨c3, ht2⟩ | ⟨c3, ht2⟩
 · refine TL.off rfl rfl rfl rfl (decide_eq_true c3) rfl rfl ?_
   refine TL.off rfl rfl rfl rfl (decide_eq_true c3) rfl rfl ?_
   refine TL.off rfl rfl rfl rfl (decide_eq_true c3) rfl rfl ?_
   refine TL.op1 (OpR.pickT rfl (decide_eq_true c3) rfl) rfl ?_
   refine aA rfl rfl ?_
   refine TL.off rfl rfl rfl rfl rfl rfl rfl ?_
   refine TL.off rfl rfl rfl rfl rfl rfl rfl ?_
   refine TL.off rfl rfl rfl rfl rfl rfl rfl ?_
   refine TL.off rfl rfl rfl rfl rfl rfl rfl ?_
   refine TL.off rfl rfl rfl rfl rfl rfl rfl ?_
   refine TL.off rfl rfl rfl rfl rfl rfl rfl ?_
   refine TL.off rfl rfl rfl rfl rfl rfl rfl ?_
   refine TL.off rfl rfl rfl rfl rfl rfl rfl ?_
   refine TL.off rfl rfl rfl rfl rfl rfl rfl ?_
   refine TL.off rfl rfl rfl rfl rfl rfl rfl ?_
   refine TL.op1 (OpR.pickT rfl rfl rfl) rfl ?_
   refine TL.nil ?_
   obtain rfl := Option.some.inj ht2
   exact ⟨_, Gst.only [2, 3, 4, 5, 25] rfl, rfl⟩
 refine TL.on rfl rfl rfl rfl (decide_eq_false c3) ?_
 refine aA rfl rfl ?_
 refine TL.on rfl rfl rfl rfl (decide_eq_false c3) ?_
 refine aA rfl rfl ?_
 refine TL.on rfl rfl rfl rfl (decide_eq_false c3) ?_
 refine aA rfl rfl ?_
 refine TL.op1 (OpR.pickF rfl (decide_eq_false c3) rfl) rfl ?_
 refine aA rfl rfl ?_
 rcases ite_some ht2 with ⟨c4, ht2⟩ | ⟨c4, ht2⟩
 · refine TL.off rfl rfl rfl rfl (decide_eq_true c4) rfl rfl ?_
   refine TL.off rfl rfl rfl rfl (decide_eq_true c4) rfl rfl ?_
   refine TL.off rfl rfl rfl rfl (decide_eq_true c4) rfl rfl ?_
   refine TL.off rfl rfl rfl rfl (decide_eq_true c4) rfl rfl ?_
   refine TL.off rfl rfl rfl rfl (decide_eq_true c4) rfl rfl ?_
   refine TL.off rfl rfl rfl rfl (decide_eq_true c4) rfl rfl ?_
   refine TL.off rfl rfl rfl rfl (decide_eq_true c4) rfl rfl ?_
   refine TL.off rfl rfl rfl rfl (decide_eq_true c4) rfl rfl ?_
   refine TL.off rfl rfl rfl rfl (decide_eq_true c4) rfl rfl ?_
   refine TL.off rfl rfl rfl rfl (decide_eq_true c4) rfl rfl ?_
   refine TL.op1 (OpR.pickT rfl (decide_eq_true c4) rfl) rfl ?_
   refine TL.nil ?_
   obtain rfl := Option.some.inj ht2
   exact ⟨_, Gst.only [2, 3, 4, 5, 25] rfl, rfl⟩
 refine TL.on rfl rfl rfl rfl (decide_eq_false c4) ?_
 refine aA rfl rfl ?_
 refine TL.on rfl rfl rfl rfl (decide_eq_false c4) ?_
 refine aA rfl rfl ?_
 refine TL.on rfl rfl rfl rfl (decide_eq_false c4) ?_
 refine aA rfl rfl ?_
 refine TL.on rfl rfl rfl rfl (decide_eq_false c4) ?_
 refine aA rfl rfl ?_
 refine TL.on rfl rfl rfl rfl (decide_eq_false c4) ?_
 refine aA rfl rfl ?_
 refine TL.on rfl rfl rfl rfl (decide_eq_false c4) ?_
 refine aA rfl rfl ?_
 refine TL.on rfl rfl rfl rfl (decide_eq_false c4) ?_
 refine aA rfl rfl ?_
 refine TL.on rfl rfl rfl rfl (decide_eq_false c4) ?_
 refine aA rfl rfl ?_
 refine TL.on rfl rfl rfl rfl (decide_eq_false c4) ?_
 refine TL.op1 (OpR.build rfl rfl rfl rfl rfl) rfl ?_
 refine TL.on rfl rfl rfl rfl (decide_eq_false c4) ?_
 refine TL.op1 (OpR.cast (OpR.neStruct rfl rfl rfl rfl rfl (by kernel_rfl) (by kernel_rfl)) (boolE (congrArg (fun b => !b) (beq_arena_Span a1 (⟨w64 (a0.fAt + a0.fN), a1.fN⟩ : arena_Span))))) rfl ?_
 refine TL.op1 (OpR.pickF rfl (decide_eq_false c4) rfl) rfl ?_
 refine TL.nil ?_
 obtain rfl := Option.some.inj ht2
 exact ⟨_, Gst.only [2, 3, 4, 5, 25] rfl, rfl⟩
noncomputable def scan_parts_add_2 (a0 : Int) (a1 : Int) (a2 : List arena_Span) : Option (List arena_Span) :=
  if a1 ≤ a0 then
    some a2
  else
    bnd (if (w64 ((a2.length : Int) - 1)) ≥ 0 then
      bnd (idx a2 (w64 ((a2.length : Int) - 1))) fun x7 =>
      bnd (arena_Join x7 (⟨a0, w64 (a1 - a0)⟩ : arena_Span)) fun x8 =>
      if x8.2 = true then
        some (Ex.ret (a2.set (w64 ((a2.length : Int) - 1)).toNat x8.1))
      else
        some (Ex.brk ())
    else
      some (Ex.brk ()) : Option (Ex Unit (List arena_Span))) fun t3 => match t3 with
      | .brk u4 =>
        bnd (app 16 a2 [(⟨a0, w64 (a1 - a0)⟩ : arena_Span)]) fun x12 =>
        some x12
      | .ret u4 => some u4
set_option maxHeartbeats 4000000 in
theorem scan_parts_add_2_c {a0 : Int} {a1 : Int} {a2 : List arena_Span} {b0 : Nat} {v1 : Value} {res : (List arena_Span)} (h0 : scan_parts_add_2 a0 a1 a2 = some res) : CallF X 90 [.val (.pointer (some ⟨b0, 0, none⟩)), .val (.int .i64 a0), .val (.int .i64 a1)] [.var b0 [.val v1] 168, .row v1 (List.map e_arena_Span a2) 2 48] (fun x => .tup []) (fun x => [.var b0 [.val (vn x 0)] 168, .row (vn x 0) (List.map e_arena_Span res) 2 48]) := by
 unfold scan_parts_add_2 at h0
 refine CallF.mkG (X := X) rfl Try.func90 rfl rfl Try.ntmps90 rfl rfl ?_
 refine T.seq ?_
 refine aS ?_
 iterate 3 refine aA rfl rfl ?_
 refine TL.nil ?_
 show T X _ _ _
 rcases ite_some h0 with ⟨c1, h0⟩ | ⟨c1, h0⟩
 · refine T.condT rfl (decide_eq_true c1) ?_
   refine T.ret ?_
   obtain rfl := Option.some.inj h0
   exact PostG.retP (ks := [0, 1]) (Gst.only [] rfl) (.tuple #[v1]) ResL.nil rfl rfl rfl rfl
 refine T.condF rfl (decide_eq_false c1) ?_
 refine T.skip ?_
 show T X _ _ _
 refine aS ?_
 iterate 4 refine aA rfl rfl ?_
 refine TL.op1 (OpR.build rfl rfl rfl rfl rfl) rfl ?_
 refine TL.op (OpR.alloc rfl rfl (fun _ => rfl)) rfl (fun p2 => ?_)
 refine TL.op0 (OpR.store 2 rfl rfl rfl rfl rfl rfl rfl rfl) ?_
 refine TL.nil ?_
 show T X _ _ _
 refine T.seq ?_
 refine aS ?_
 iterate 2 refine aA rfl rfl ?_
 refine TL.op1 (OpR.loadPtr 0 rfl rfl rfl rfl) rfl ?_
 refine TL.op1 (OpR.rowLenM e_arena_Span 1 rfl rfl rfl rfl) rfl ?_
 iterate 2 refine aA rfl rfl ?_
 refine TL.nil ?_
 show T X _ _ _
 refine aS ?_
 iterate 2 refine aA rfl rfl ?_
 refine TL.nil ?_
 show T X _ _ _
 obtain ⟨t3, ht3, h0⟩ := bnd_some h0
 refine T.cutC (fun S' => ∃ u4, t3 = Ex.brk u4 ∧ S' = ⟨[(6, .val (.pointer (some ⟨(blk p2), 0, none⟩))), (0, .val (.pointer (some ⟨b0, 0, none⟩)))], [.var b0 [.val v1] 168, .row v1 (List.map e_arena_Span a2) 2 48, .var (blk p2) [.val (.int .i64 a0), .val (.int .i64 (w64 (a1 - a0)))] 48], 51⟩) (fun _ h => h) ?_ ?_
 rotate_left
 · rintro _ ⟨u4, rfl, rfl⟩
   show T X _ _ _
   obtain ⟨x12, hx12, h0⟩ := bnd_some h0
   refine T.drawS drawsX (fun env11 => [.val (.pointer (some ⟨b0, 0, none⟩)), .val (.pointer (some ⟨b0, 0, none⟩)), .val (.pointer (some ⟨b0, 0, none⟩)), .val v1, .agg [.val (.int .i64 a0), .val (.int .i64 (w64 (a1 - a0)))], .sl 2 (List.map e_arena_Span [(⟨a0, w64 (a1 - a0)⟩ : arena_Span)]), .val (env11 6), .val (.pointer (some ⟨b0, 0, none⟩)), .dead]) (fun D env11 => [(bif D 8 then .var b0 [.val (env11 6)] 168 else .var b0 [.val v1] 168), (bif D 6 then .row (env11 6) (List.map e_arena_Span x12) 2 48 else .row v1 (List.map e_arena_Span a2) 2 48), .var (blk p2) [.val (.int .i64 a0), .val (.int .i64 (w64 (a1 - a0)))] 48]) [0, 0, 2, 6, 0, 16, 62, 127, 255] [] (fun env11 => [.var b0 [.val (env11 6)] 168, .row (env11 6) (List.map e_arena_Span x12) 2 48, .var (blk p2) [.val (.int .i64 a0), .val (.int .i64 (w64 (a1 - a0)))] 48]) (by decide +kernel) (by decide +kernel) (fun _ => rfl) (fun _ => rfl) ?_ (fun _ => rfl) (fun _ => rfl) ?_
   rotate_left
   · intro env11
     obtain rfl := Option.some.inj h0
     exact PostG.finP (ks := [0, 1]) (Gst.trans (Gst.only [] rfl) (Gst.pick [0, 1] rfl rfl)) (.tuple #[(env11 6)]) ResL.nil rfl rfl rfl rfl
   iterate 3 refine aC ?_
   refine OpsS.cons' true ?_ (fun _ _ _ _ _ _ _ => rfl) ?_
   · intro D env11 hA
     have e6 : D 6 = false := hA.no 6 _ rfl rfl
     have e8 : D 8 = false := hA.no 8 _ rfl rfl
     exact OpS.yes (o0 := [.var b0 [.val v1] 168, .row v1 (List.map e_arena_Span a2) 2 48, .var (blk p2) [.val (.int .i64 a0), .val (.int .i64 (w64 (a1 - a0)))] 48]) (o1 := fun x => [.var b0 [.val v1] 168, .row v1 (List.map e_arena_Span a2) 2 48, .var (blk p2) [.val (.int .i64 a0), .val (.int .i64 (w64 (a1 - a0)))] 48]) (d := fun x => .val v1) (Want.plain rfl) (by first | rfl | simp only [e6, e8, cond_true, cond_false, List.cons_append, List.nil_append, List.append_nil]) (fun x => by first | rfl | simp only [ins_self, ins_ne D (show 3 ≠ 6 by decide), ins_ne D (show 3 ≠ 8 by decide), upd_self, upd_ne env11 x (show 3 ≠ 6 by decide), e6, e8, cond_true, cond_false, List.cons_append, List.nil_append, List.append_nil]) (fun x => rfl) (OpR.loadPtr 0 rfl rfl rfl rfl)
   refine oS (d := .agg [.val (.int .i64 a0), .val (.int .i64 (w64 (a1 - a0)))]) (fun _ => Want.plain rfl) (fun _ => rfl) (fun _ _ _ => rfl) (fun _ _ => OpR.loadPtr 2 rfl rfl rfl rfl) (fun _ _ _ _ _ _ _ => rfl) ?_
   refine oS (d := .sl 2 (List.map e_arena_Span [(⟨a0, w64 (a1 - a0)⟩ : arena_Span)])) (fun _ => Want.plain rfl) (fun _ => rfl) (fun _ _ _ => rfl) (fun _ _ => OpR.lit rfl rfl rfl rfl rfl rfl rfl) (fun _ _ _ _ _ _ _ => rfl) ?_
   refine OpsS.cons' true ?_ (fun D hA env11 x j hj hD => match j, hj, hD with | 0, _, _ => rfl | 1, _, _ => rfl | 2, _, _ => rfl | 3, _, _ => rfl | 4, _, _ => rfl | 5, _, _ => rfl | 6, hj, _ => absurd rfl hj | 7, _, _ => rfl | 8, _, _ => rfl | _ + 9, _, _ => rfl) ?_
   · intro D env11 hA
     have e8 : D 8 = false := hA.no 8 _ rfl rfl
     exact OpS.yes (o0 := [.var b0 [.val v1] 168, .row v1 (List.map e_arena_Span a2) 2 48, .var (blk p2) [.val (.int .i64 a0), .val (.int .i64 (w64 (a1 - a0)))] 48]) (o1 := fun x => [.var b0 [.val v1] 168, .row x (List.map e_arena_Span x12) 2 48, .var (blk p2) [.val (.int .i64 a0), .val (.int .i64 (w64 (a1 - a0)))] 48]) (d := fun x => .val x) (Want.plain rfl) (by first | rfl | simp only [e8, hA.me, cond_true, cond_false, List.cons_append, List.nil_append, List.append_nil]) (fun x => by first | rfl | simp only [ins_self, ins_ne D (show 6 ≠ 8 by decide), upd_self, e8, hA.me, cond_true, cond_false, List.cons_append, List.nil_append, List.append_nil]) (fun x => rfl) (OpR.appendM (m := [(⟨a0, w64 (a1 - a0)⟩ : arena_Span)]) e_arena_Span 1 hx12 rfl rfl rfl rfl rfl rfl rfl rfl rfl (fun _ => rfl))
   refine aC ?_
   refine OpsS.cons' true ?_ (fun _ _ _ _ _ _ _ => rfl) ?_
   · intro D env11 hA
     have e6 : D 6 = true := hA.yes 6 _ rfl rfl
     exact OpS.yes (o0 := [.var b0 [.val v1] 168, .row (env11 6) (List.map e_arena_Span x12) 2 48, .var (blk p2) [.val (.int .i64 a0), .val (.int .i64 (w64 (a1 - a0)))] 48]) (o1 := fun x => [.var b0 [.val (env11 6)] 168, .row (env11 6) (List.map e_arena_Span x12) 2 48, .var (blk p2) [.val (.int .i64 a0), .val (.int .i64 (w64 (a1 - a0)))] 48]) (d := fun x => .dead) (Want.plain rfl) (by first | rfl | simp only [e6, hA.me, cond_true, cond_false, List.cons_append, List.nil_append, List.append_nil]) (fun x => by first | rfl | simp only [ins_self, ins_ne D (show 8 ≠ 6 by decide), upd_self, upd_ne env11 x (show 8 ≠ 6 by decide), e6, hA.me, cond_true, cond_false, List.cons_append, List.nil_append, List.append_nil]) (fun x => rfl) (OpR.store 0 rfl rfl rfl rfl rfl rfl rfl rfl)
   exact trivial
 rcases ite_some ht3 with ⟨c5, ht3⟩ | ⟨c5, ht3⟩
 rotate_left
 · refine T.condF rfl (decide_eq_false c5) ?_
   refine T.skip ?_
   obtain rfl := Option.some.inj ht3
   exact ⟨_, Gst.only [0, 6] rfl, _, rfl, rfl⟩
 refine T.condT rfl (decide_eq_true c5) ?_
 refine T.seq ?_
 obtain ⟨x7, hx7, ht3⟩ := bnd_some ht3
 obtain ⟨x8, hx8, ht3⟩ := bnd_some ht3
 refine T.drawS drawsX (fun env6 => [.val (.pointer (some ⟨b0, 0, none⟩)), .val (.pointer (some ⟨b0, 0, none⟩)), .val v1, .val (.int .i64 (w64 ((a2.length : Int) - 1))), .val (.pointer (some ⟨blk v1, (w64 ((a2.length : Int) - 1)).toNat * 2, none⟩)), .agg [.val (.int .i64 x7.fAt), .val (.int .i64 x7.fN)], .agg [.val (.int .i64 a0), .val (.int .i64 (w64 (a1 - a0)))], .tup [.agg [.val (.int .i64 x8.1.fAt), .val (.int .i64 x8.1.fN)], .val (.bool x8.2)], .tup [.agg [.val (.int .i64 x8.1.fAt), .val (.int .i64 x8.1.fN)], .val (.bool x8.2)], .agg [.val (.int .i64 x8.1.fAt), .val (.int .i64 x8.1.fN)], .val (.bool x8.2), .val (.pointer (some ⟨(blk (env6 11)), 0, none⟩)), .dead, .val (.bool x8.2)]) (fun D env6 => [.var b0 [.val v1] 168, .row v1 (List.map e_arena_Span a2) 2 48, .var (blk p2) [.val (.int .i64 a0), .val (.int .i64 (w64 (a1 - a0)))] 48] ++ (bif D 11 then [(bif D 12 then .var (blk (env6 11)) [.val (.int .i64 x8.1.fAt), .val (.int .i64 x8.1.fN)] 48 else .var (blk (env6 11)) [.val (.int .i64 0), .val (.int .i64 0)] 48)] else [])) [0, 1, 3, 0, 15, 31, 0, 127, 255, 511, 511, 0, 3071, 8191] [0, 6, 7, 8, 9] (fun env6 => [.var b0 [.val v1] 168, .row v1 (List.map e_arena_Span a2) 2 48, .var (blk p2) [.val (.int .i64 a0), .val (.int .i64 (w64 (a1 - a0)))] 48, .var (blk (env6 11)) [.val (.int .i64 x8.1.fAt), .val (.int .i64 x8.1.fN)] 48]) (by decide +kernel) (by decide +kernel) (fun _ => rfl) (fun _ => rfl) ?_ (fun _ => rfl) (fun _ => rfl) ?_
 · iterate 2 refine aC ?_
   refine oS (d := .val v1) (fun _ => Want.plain rfl) (fun _ => rfl) (fun _ _ _ => rfl) (fun _ _ => OpR.loadPtr 0 rfl rfl rfl rfl) (fun _ _ _ _ _ _ _ => rfl) ?_
   refine aC ?_
   refine oS (d := .val (.pointer (some ⟨blk v1, (w64 ((a2.length : Int) - 1)).toNat * 2, none⟩))) (fun _ => Want.plain rfl) (fun _ => rfl) (fun _ _ _ => rfl) (fun _ _ => OpR.rowIndexM e_arena_Span 1 hx7 rfl rfl rfl rfl rfl rfl rfl) (fun _ _ _ _ _ _ _ => rfl) ?_
   refine oS (d := .agg [.val (.int .i64 x7.fAt), .val (.int .i64 x7.fN)]) (fun _ => Want.plain rfl) (fun _ => rfl) (fun _ _ _ => rfl) (fun _ _ => OpR.rowLoad0M (j := w64 ((a2.length : Int) - 1)) e_arena_Span 1 hx7 rfl rfl rfl rfl) (fun _ _ _ _ _ _ _ => rfl) ?_
   refine oS (d := .agg [.val (.int .i64 a0), .val (.int .i64 (w64 (a1 - a0)))]) (fun _ => Want.plain rfl) (fun _ => rfl) (fun _ _ _ => rfl) (fun _ _ => OpR.loadPtr 2 rfl rfl rfl rfl) (fun _ _ _ _ _ _ _ => rfl) ?_
   refine oS (d := .tup [.agg [.val (.int .i64 x8.1.fAt), .val (.int .i64 x8.1.fN)], .val (.bool x8.2)]) (fun _ => Want.plain rfl) (fun _ => rfl) (fun _ _ _ => rfl) (fun _ _ => OpR.call0 fn92 (arena_Join_c hx8) rfl) (fun _ _ _ _ _ _ _ => rfl) ?_
   iterate 3 refine aC ?_
   refine OpsS.cons' true ?_ (fun D hA env6 x j hj hD => match j, hj, hD with | 0, _, _ => rfl | 1, _, _ => rfl | 2, _, _ => rfl | 3, _, _ => rfl | 4, _, _ => rfl | 5, _, _ => rfl | 6, _, _ => rfl | 7, _, _ => rfl | 8, _, _ => rfl | 9, _, _ => rfl | 10, _, _ => rfl | 11, hj, _ => absurd rfl hj | 12, _, _ => rfl | 13, _, _ => rfl | _ + 14, _, _ => rfl) ?_
   · intro D env6 hA
     have e12 : D 12 = false := hA.no 12 _ rfl rfl
     exact OpS.yes (o0 := [.var b0 [.val v1] 168, .row v1 (List.map e_arena_Span a2) 2 48, .var (blk p2) [.val (.int .i64 a0), .val (.int .i64 (w64 (a1 - a0)))] 48]) (o1 := fun x => [.var b0 [.val v1] 168, .row v1 (List.map e_arena_Span a2) 2 48, .var (blk p2) [.val (.int .i64 a0), .val (.int .i64 (w64 (a1 - a0)))] 48, .var (blk x) [.val (.int .i64 0), .val (.int .i64 0)] 48]) (d := fun x => .val (.pointer (some ⟨(blk x), 0, none⟩))) (Want.plain rfl) (by first | rfl | simp only [e12, hA.me, cond_true, cond_false, List.cons_append, List.nil_append, List.append_nil]) (fun x => by first | rfl | simp only [ins_self, ins_ne D (show 11 ≠ 12 by decide), upd_self, e12, hA.me, cond_true, cond_false, List.cons_append, List.nil_append, List.append_nil]) (fun x => rfl) (OpR.alloc rfl rfl (fun _ => rfl))
   refine OpsS.cons' true ?_ (fun _ _ _ _ _ _ _ => rfl) ?_
   · intro D env6 hA
     have e11 : D 11 = true := hA.yes 11 _ rfl rfl
     exact OpS.yes (o0 := [.var b0 [.val v1] 168, .row v1 (List.map e_arena_Span a2) 2 48, .var (blk p2) [.val (.int .i64 a0), .val (.int .i64 (w64 (a1 - a0)))] 48, .var (blk (env6 11)) [.val (.int .i64 0), .val (.int .i64 0)] 48]) (o1 := fun x => [.var b0 [.val v1] 168, .row v1 (List.map e_arena_Span a2) 2 48, .var (blk p2) [.val (.int .i64 a0), .val (.int .i64 (w64 (a1 - a0)))] 48, .var (blk (env6 11)) [.val (.int .i64 x8.1.fAt), .val (.int .i64 x8.1.fN)] 48]) (d := fun x => .dead) (Want.plain rfl) (by first | rfl | simp only [e11, hA.me, cond_true, cond_false, List.cons_append, List.nil_append, List.append_nil]) (fun x => by first | rfl | simp only [ins_self, ins_ne D (show 12 ≠ 11 by decide), upd_self, upd_ne env6 x (show 12 ≠ 11 by decide), e11, hA.me, cond_true, cond_false, List.cons_append, List.nil_append, List.append_nil]) (fun x => rfl) (OpR.store 3 rfl rfl rfl rfl rfl rfl rfl rfl)
   refine aC ?_
   exact trivial
 intro env6
 show T X _ _ _
 refine aS ?_
 refine aA rfl rfl ?_
 refine TL.nil ?_
 show T X _ _ _
 rcases ite_some ht3 with ⟨c9, ht3⟩ | ⟨c9, ht3⟩
 rotate_left
 · refine T.condF rfl (eq_false_of_ne_true c9) ?_
   refine T.skip ?_
   obtain rfl := Option.some.inj ht3
   exact ⟨_, Gst.trans (Gst.only [0, 6] rfl) (Gst.pick [0, 1, 2] rfl rfl), _, rfl, rfl⟩
 refine T.condT rfl (c9) ?_
 refine T.seq ?_
 refine T.drawS drawsX (fun env10 => [.val (.pointer (some ⟨b0, 0, none⟩)), .val (.pointer (some ⟨b0, 0, none⟩)), .val v1, .val (.int .i64 (w64 ((a2.length : Int) - 1))), .agg [.val (.int .i64 x8.1.fAt), .val (.int .i64 x8.1.fN)], .val (.pointer (some ⟨blk v1, (w64 ((a2.length : Int) - 1)).toNat * 2, none⟩)), .dead]) (fun D env10 => [.var b0 [.val v1] 168, (bif D 6 then .row v1 (List.map e_arena_Span (a2.set (w64 ((a2.length : Int) - 1)).toNat x8.1)) 2 48 else .row v1 (List.map e_arena_Span a2) 2 48), .var (blk p2) [.val (.int .i64 a0), .val (.int .i64 (w64 (a1 - a0)))] 48, .var (blk (env6 11)) [.val (.int .i64 x8.1.fAt), .val (.int .i64 x8.1.fN)] 48]) [0, 1, 3, 0, 0, 31, 63] [0, 6] (fun env10 => [.var b0 [.val v1] 168, .row v1 (List.map e_arena_Span (a2.set (w64 ((a2.length : Int) - 1)).toNat x8.1)) 2 48, .var (blk p2) [.val (.int .i64 a0), .val (.int .i64 (w64 (a1 - a0)))] 48, .var (blk (env6 11)) [.val (.int .i64 x8.1.fAt), .val (.int .i64 x8.1.fN)] 48]) (by decide +kernel) (by decide +kernel) (fun _ => rfl) (fun _ => rfl) ?_ (fun _ => rfl) (fun _ => rfl) ?_
 rotate_left
 · intro env10
   show T X _ _ _
   refine T.ret ?_
   obtain rfl := Option.some.inj ht3
   obtain rfl := Option.some.inj h0
   exact PostG.retP (ks := [0, 1]) (Gst.trans (Gst.only [] rfl) (Gst.pick [0, 1] rfl rfl)) (.tuple #[v1]) ResL.nil rfl rfl rfl rfl
 iterate 2 refine aC ?_
 refine oS (d := .val v1) (fun _ => Want.plain rfl) (fun _ => rfl) (fun _ _ _ => rfl) (fun _ _ => OpR.loadPtr 0 rfl rfl rfl rfl) (fun _ _ _ _ _ _ _ => rfl) ?_
 refine aC ?_
 refine oS (d := .agg [.val (.int .i64 x8.1.fAt), .val (.int .i64 x8.1.fN)]) (fun _ => Want.plain rfl) (fun _ => rfl) (fun _ _ _ => rfl) (fun _ _ => OpR.loadPtr 3 rfl rfl rfl rfl) (fun _ _ _ _ _ _ _ => rfl) ?_
 refine OpsS.cons' true ?_ (fun _ _ _ _ _ _ _ => rfl) ?_
 · intro D env10 hA
   have e6 : D 6 = false := hA.no 6 _ rfl rfl
   exact OpS.yes (o0 := [.var b0 [.val v1] 168, .row v1 (List.map e_arena_Span a2) 2 48, .var (blk p2) [.val (.int .i64 a0), .val (.int .i64 (w64 (a1 - a0)))] 48, .var (blk (env6 11)) [.val (.int .i64 x8.1.fAt), .val (.int .i64 x8.1.fN)] 48]) (o1 := fun x => [.var b0 [.val v1] 168, .row v1 (List.map e_arena_Span a2) 2 48, .var (blk p2) [.val (.int .i64 a0), .val (.int .i64 (w64 (a1 - a0)))] 48, .var (blk (env6 11)) [.val (.int .i64 x8.1.fAt), .val (.int .i64 x8.1.fN)] 48]) (d := fun x => .val (.pointer (some ⟨blk v1, (w64 ((a2.length : Int) - 1)).toNat * 2, none⟩))) (Want.plain rfl) (by first | rfl | simp only [e6, cond_true, cond_false, List.cons_append, List.nil_append, List.append_nil]) (fun x => by first | rfl | simp only [ins_self, ins_ne D (show 5 ≠ 6 by decide), upd_self, e6, cond_true, cond_false, List.cons_append, List.nil_append, List.append_nil]) (fun x => rfl) (OpR.rowIndexM e_arena_Span 1 hx7 rfl rfl rfl rfl rfl rfl rfl)
 refine OpsS.cons' true ?_ (fun _ _ _ _ _ _ _ => rfl) ?_
 · intro D env10 hA
   exact OpS.yes (o0 := [.var b0 [.val v1] 168, .row v1 (List.map e_arena_Span a2) 2 48, .var (blk p2) [.val (.int .i64 a0), .val (.int .i64 (w64 (a1 - a0)))] 48, .var (blk (env6 11)) [.val (.int .i64 x8.1.fAt), .val (.int .i64 x8.1.fN)] 48]) (o1 := fun x => [.var b0 [.val v1] 168, .row v1 (List.map e_arena_Span (a2.set (w64 ((a2.length : Int) - 1)).toNat x8.1)) 2 48, .var (blk p2) [.val (.int .i64 a0), .val (.int .i64 (w64 (a1 - a0)))] 48, .var (blk (env6 11)) [.val (.int .i64 x8.1.fAt), .val (.int .i64 x8.1.fN)] 48]) (d := fun x => .dead) (Want.plain rfl) (by first | rfl | simp only [hA.me, cond_true, cond_false, List.cons_append, List.nil_append, List.append_nil]) (fun x => by first | rfl | simp only [ins_self, upd_self, hA.me, cond_true, cond_false, List.cons_append, List.nil_append, List.append_nil]) (fun x => rfl) (OpR.rowStore0M (j := w64 ((a2.length : Int) - 1)) e_arena_Span x8.1 1 hx7 rfl rfl rfl rfl rfl rfl rfl rfl rfl)
 exact trivial
noncomputable def scan_reader_marked (a0 : List UInt8) (a1 : Int) : Option Bool :=
  bnd (scan_reader_done a0 a1) fun x1 =>
  if x1 = true then
    some true
  else
    bnd (idx a0 a1) fun x4 =>
    bnd (if (x4.toNat : Int) = 44 then
      some ((x4.toNat : Int) == 44)
    else
      if (x4.toNat : Int) = 13 then
        some ((x4.toNat : Int) == 13)
      else
        some ((x4.toNat : Int) == 10) : Option Bool) fun t5 =>
    if t5 = true then
      some true
    else
      some false
set_option maxHeartbeats 4000000 in
theorem scan_reader_marked_c {a0 : List UInt8} {a1 : Int} {b0 : Nat} {res : Bool} (h0 : scan_reader_marked a0 a1 = some res) : CallF X 96 [.val (.pointer (some ⟨b0, 0, none⟩))] [.var b0 [.sl 1 (List.map byteD a0), .val (.int .i64 a1)] 126] (fun x => .val (.bool res)) (fun x => [.var b0 [.sl 1 (List.map byteD a0), .val (.int .i64 a1)] 126]) := by
 unfold scan_reader_marked at h0
 refine CallF.mkG (X := X) rfl Try.func96 rfl rfl Try.ntmps96 rfl rfl ?_
 refine aS ?_
 refine aA rfl rfl ?_
 refine TL.nil ?_
 show T X _ _ _
 refine T.seq ?_
 refine aS ?_
 refine aA rfl rfl ?_
 obtain ⟨x1, hx1, h0⟩ := bnd_some h0
 refine TL.op1 (OpR.call [0] fn52 (scan_reader_done_c hx1) rfl rfl rfl (fun _ => rfl)) rfl ?_
 refine TL.nil ?_
 show T X _ _ _
 rcases ite_some h0 with ⟨c2, h0⟩ | ⟨c2, h0⟩
 · refine T.condT rfl (c2) ?_
   refine aS ?_
   refine aA rfl rfl ?_
   refine TL.nil ?_
   show T X _ _ _
   refine T.ret ?_
   obtain rfl := Option.some.inj h0
   exact PostG.retP (ks := [0]) (Gst.only [2] rfl) undef (ResL.cons (ResV.tmp rfl) ResL.nil) rfl rfl rfl rfl
 refine T.condF rfl (eq_false_of_ne_true c2) ?_
 refine T.skip ?_
 show T X _ _ _
 refine T.seq ?_
 refine T.seq ?_
 obtain ⟨x4, hx4, h0⟩ := bnd_some h0
 refine T.drawQ drawsX [.val (.pointer (some ⟨b0, 0, none⟩)), .val (.pointer (some ⟨b0, 0, none⟩)), .val (.pointer (some ⟨b0, 0, none⟩)), .sl 1 (List.map byteD a0), .val (.pointer (some ⟨b0, 0, none⟩)), .val (.pointer (some ⟨b0, 0, none⟩)), .val (.pointer (some ⟨b0, 1, none⟩)), .val (.int .i64 a1), .nod [.val (.int .u8 (x4.toNat : Int))], .val (.int .u8 (x4.toNat : Int))] [2, 14] (by decide +kernel) rfl ?_ rfl ?_
 · iterate 3 refine aB rfl rfl rfl ?_
   refine OpsQ.yes (Want.plain rfl) rfl (OpR.loadPtr 0 rfl rfl rfl rfl) ?_
   iterate 3 refine aB rfl rfl rfl ?_
   refine OpsQ.yes (Want.plain rfl) rfl (OpR.loadPtr 0 rfl rfl rfl rfl) ?_
   refine OpsQ.yes (Want.plain rfl) rfl (OpR.indexM byteD hx4 rfl rfl rfl rfl rfl) ?_
   refine aB rfl rfl rfl ?_
   exact OpsQ.nil
 show T X _ _ _
 refine T.block ?_
 refine T.seq ?_
 refine aS ?_
 iterate 2 refine aA rfl rfl ?_
 refine TL.nil ?_
 show T X _ _ _
 obtain ⟨t5, ht5, h0⟩ := bnd_some h0
 refine T.cutC (fun S' => S' = ⟨[(15, .val (.bool t5)), (2, .val (.bool false))], [.var b0 [.sl 1 (List.map byteD a0), .val (.int .i64 a1)] 126], 19⟩) (fun _ h => h) ?_ ?_
 rotate_left
 · rintro _ rfl
   show T X _ _ _
   rcases ite_some h0 with ⟨c8, h0⟩ | ⟨c8, h0⟩
   · refine T.condT rfl (c8) ?_
     refine aS ?_
     refine aA rfl rfl ?_
     refine TL.nil ?_
     show T X _ _ _
     refine T.ret ?_
     obtain rfl := Option.some.inj h0
     exact PostG.retP (ks := [0]) (Gst.only [2] rfl) undef (ResL.cons (ResV.tmp rfl) ResL.nil) rfl rfl rfl rfl
   refine T.condF rfl (eq_false_of_ne_true c8) ?_
   refine T.skip ?_
   show T X _ _ _
   refine aS ?_
   refine aA rfl rfl ?_
   refine TL.nil ?_
   show T X _ _ _
   refine T.ret ?_
   obtain rfl := Option.some.inj h0
   exact PostG.retP (ks := [0]) (Gst.only [2] rfl) undef (ResL.cons (ResV.tmp rfl) ResL.nil) rfl rfl rfl rfl
 rcases ite_some ht5 with ⟨c6, ht5⟩ | ⟨c6, ht5⟩
 · refine T.condT rfl (beq_iff_eq.2 c6) ?_
   refine T.skip ?_
   obtain rfl := Option.some.inj ht5
   exact ⟨_, Gst.only [2, 15] rfl, rfl⟩
 refine T.condF rfl (beq_eq_false_iff_ne.2 c6) ?_
 refine aS ?_
 iterate 2 refine aA rfl rfl ?_
 refine TL.nil ?_
 show T X _ _ _
 rcases ite_some ht5 with ⟨c7, ht5⟩ | ⟨c7, ht5⟩
 · refine T.condT rfl (beq_iff_eq.2 c7) ?_
   refine T.skip ?_
   obtain rfl := Option.some.inj ht5
   exact ⟨_, Gst.only [2, 15] rfl, rfl⟩
 refine T.condF rfl (beq_eq_false_iff_ne.2 c7) ?_
 refine T.region ?_
 iterate 2 refine aA rfl rfl ?_
 refine TL.nil ?_
 obtain rfl := Option.some.inj ht5
 exact ⟨_, Gst.only [2, 15] rfl, rfl⟩
noncomputable def scan_reader_plain.l1 (a0 : List UInt8) (s2 : Bool × Int) : Option (Lp (Bool × Int) (Bool × Int)) :=
  bnd (scan_reader_marked a0 s2.2) fun x10 =>
  if x10 = true then
    some (Lp.done (s2.1, s2.2))
  else
    bnd (if s2.1 = true then
      some true
    else
      bnd (scan_reader_is 34 a0 s2.2) fun x14 =>
      some x14 : Option Bool) fun t12 =>
    some (Lp.next (t12, w64 (s2.2 + 1)))
noncomputable def scan_reader_plain (a0 : List UInt8) (a1 : Int) : Option (Bool × Int) :=
  bnd (loop (scan_reader_plain.l1 a0) (false, a1) : Option (Bool × Int)) fun t1 =>
  some (t1.1, t1.2)
set_option maxHeartbeats 4000000 in
theorem scan_reader_plain_c {a0 : List UInt8} {a1 : Int} {b0 : Nat} {res : Bool × Int} (h0 : scan_reader_plain a0 a1 = some res) : CallF X 91 [.val (.pointer (some ⟨b0, 0, none⟩))] [.var b0 [.sl 1 (List.map byteD a0), .val (.int .i64 a1)] 126] (fun x => .val (.bool res.1)) (fun x => [.var b0 [.sl 1 (List.map byteD a0), .val (.int .i64 res.2)] 126]) := by
 unfold scan_reader_plain at h0
 refine CallF.mkG (X := X) rfl Try.func91 rfl rfl Try.ntmps91 rfl rfl ?_
 refine aS ?_
 refine aA rfl rfl ?_
 refine TL.nil ?_
 show T X _ _ _
 refine aS ?_
 refine aA rfl rfl ?_
 refine TL.nil ?_
 show T X _ _ _
 refine T.seq ?_
 obtain ⟨t1, ht1, h0⟩ := bnd_some h0
 refine T.cutC (fun S' => S' = ⟨[(3, .val (.bool t1.1)), (2, .val (.bool false))], [.var b0 [.sl 1 (List.map byteD a0), .val (.int .i64 t1.2)] 126], 20⟩) (fun _ h => h) ?_ ?_
 rotate_left
 · rintro _ rfl
   show T X _ _ _
   refine aS ?_
   iterate 2 refine aA rfl rfl ?_
   refine TL.nil ?_
   show T X _ _ _
   refine T.ret ?_
   obtain rfl := Option.some.inj h0
   exact PostG.retP (ks := [0]) (Gst.only [2] rfl) undef (ResL.cons (ResV.tmp rfl) ResL.nil) rfl rfl rfl rfl
 refine T.block ?_
 obtain ⟨n3, n8⟩ := loop_some ht1
 refine T.loop (fun n S' => ∃ S'', Gst S' S'' ∧ ∃ s2 : Bool × Int, S'' = ⟨[(3, .val (.bool s2.1)), (2, .val (.bool false)), (0, .val (.pointer (some ⟨b0, 0, none⟩)))], [.var b0 [.sl 1 (List.map byteD a0), .val (.int .i64 s2.2)] 126], 20⟩ ∧ iter (scan_reader_plain.l1 a0) n s2 = some t1) n3 ?_ ?_
 · exact ⟨_, Gst.only [0, 2, 3] rfl, (false, a1), rfl, n8⟩
 rintro n3 _ ⟨_, g, s2, rfl, i7⟩
 refine T.ghost g ?_
 obtain ⟨m4, q5, rfl, q6, i7⟩ := iter_succ i7
 unfold scan_reader_plain.l1 at q6
 refine T.seq ?_
 refine aS ?_
 refine aA rfl rfl ?_
 obtain ⟨x10, hx10, q6⟩ := bnd_some q6
 refine TL.op1 (OpR.call [0] fn96 (scan_reader_marked_c hx10) rfl rfl rfl (fun _ => rfl)) rfl ?_
 refine aA rfl rfl ?_
 refine TL.nil ?_
 show T X _ _ _
 rcases ite_some q6 with ⟨c11, q6⟩ | ⟨c11, q6⟩
 · refine T.condF rfl (not_t (c11)) ?_
   refine T.exit ?_
   obtain rfl := Option.some.inj q6
   obtain rfl : _ = _ := i7
   exact ⟨_, Gst.only [2, 3] rfl, rfl⟩
 refine T.condT rfl (not_f (eq_false_of_ne_true c11)) ?_
 refine T.skip ?_
 show T X _ _ _
 refine T.seq ?_
 refine T.block ?_
 obtain ⟨t12, ht12, q6⟩ := bnd_some q6
 refine T.cutC (fun S' => S' = ⟨[(3, .val (.bool t12)), (2, .val (.bool false)), (0, .val (.pointer (some ⟨b0, 0, none⟩)))], [.var b0 [.sl 1 (List.map byteD a0), .val (.int .i64 s2.2)] 126], 20⟩) (fun _ h => h) ?_ ?_
 rotate_left
 · rintro _ rfl
   show T X _ _ _
   refine T.region ?_
   iterate 3 refine aA rfl rfl ?_
   refine TL.op1 (OpR.loadPtr 0 rfl rfl rfl rfl) rfl ?_
   iterate 3 refine aA rfl rfl ?_
   refine TL.op0 (OpR.store 0 rfl rfl rfl rfl rfl rfl rfl rfl) ?_
   refine TL.nil ?_
   obtain rfl := Option.some.inj q6
   exact ⟨m4, Nat.lt_succ_self _, _, Gst.only [0, 2, 3] rfl, (t12, w64 (s2.2 + 1)), rfl, i7⟩
 refine T.region ?_
 iterate 2 refine aA rfl rfl ?_
 rcases ite_some ht12 with ⟨c13, ht12⟩ | ⟨c13, ht12⟩
 · refine TL.off rfl rfl rfl rfl (c13) rfl rfl ?_
   refine TL.off rfl rfl rfl rfl (c13) rfl rfl ?_
   refine TL.op1 (OpR.pickT rfl (c13) rfl) rfl ?_
   refine aA rfl rfl ?_
   refine TL.nil ?_
   obtain rfl := Option.some.inj ht12
   exact ⟨_, Gst.only [0, 2, 3] rfl, rfl⟩
 refine TL.on rfl rfl rfl rfl (eq_false_of_ne_true c13) ?_
 refine aA rfl rfl ?_
 refine TL.on rfl rfl rfl rfl (eq_false_of_ne_true c13) ?_
 obtain ⟨x14, hx14, ht12⟩ := bnd_some ht12
 refine TL.op1 (OpR.call [0] fn71 (scan_reader_is_c hx14) rfl rfl rfl (fun _ => rfl)) rfl ?_
 refine TL.op1 (OpR.pickF rfl (eq_false_of_ne_true c13) rfl) rfl ?_
 refine aA rfl rfl ?_
 refine TL.nil ?_
 obtain rfl := Option.some.inj ht12
 exact ⟨_, Gst.only [0, 2, 3] rfl, rfl⟩
noncomputable def scan_reader_quoted.l1 (a0 : List UInt8) (s14 : Int) : Option (Lp Int Int) :=
  bnd (bnd (scan_reader_done a0 s14) fun x23 =>
  if x23 = true then
    some false
  else
    bnd (scan_reader_is 34 a0 s14) fun x25 =>
    some (!x25) : Option Bool) fun t22 =>
  if t22 = true then
    some (Lp.next (w64 (s14 + 1)))
  else
    some (Lp.done s14)
noncomputable def scan_reader_quoted.l2 (a0 : List UInt8) (s5 : Int × Int × (List arena_Span)) : Option (Lp (Int × Int × (List arena_Span)) (Int × (List arena_Span) × Int)) :=
  bnd (loop (scan_reader_quoted.l1 a0) s5.2.1 : Option Int) fun t13 =>
  bnd (scan_reader_done a0 t13) fun x27 =>
  if x27 = true then
    bnd (scan_parts_add_2 s5.1 t13 s5.2.2) fun x29 =>
    some (Lp.done (4, x29, t13))
  else
    bnd (scan_reader_is 34 a0 (w64 (t13 + 1))) fun x32 =>
    if x32 = true then
      bnd (scan_parts_add_2 s5.1 (w64 (t13 + 1)) s5.2.2) fun x34 =>
      some (Lp.next (w64 ((w64 (t13 + 1)) + 1), w64 ((w64 (t13 + 1)) + 1), x34))
    else
      bnd (scan_parts_add_2 s5.1 (w64 ((w64 (t13 + 1)) - 1)) s5.2.2) fun x36 =>
      bnd (scan_reader_plain a0 (w64 (t13 + 1))) fun x38 =>
      bnd (scan_parts_add_2 (w64 (t13 + 1)) x38.2 x36) fun x39 =>
      if x38.2 > (w64 (t13 + 1)) then
        some (Lp.done (3, x39, x38.2))
      else
        some (Lp.done (1, x39, x38.2))
noncomputable def scan_reader_quoted (a0 : List UInt8) (a1 : Int) : Option (Int × (List arena_Span) × Int) :=
  loop (scan_reader_quoted.l2 a0) (w64 (a1 + 1), w64 (a1 + 1), [])
set_option maxHeartbeats 4000000 in
theorem scan_reader_quoted_c {a0 : List UInt8} {a1 : Int} {b0 : Nat} {res : Int × (List arena_Span) × Int} (h0 : scan_reader_quoted a0 a1 = some res) : CallF X 79 [.val (.pointer (some ⟨b0, 0, none⟩))] [.var b0 [.sl 1 (List.map byteD a0), .val (.int .i64 a1)] 126] (fun x => .tup [.val (.int .i64 res.1), .sl 2 (List.map e_arena_Span res.2.1)]) (fun x => [.var b0 [.sl 1 (List.map byteD a0), .val (.int .i64 res.2.2)] 126]) := by
 unfold scan_reader_quoted at h0
 refine CallF.mkG (X := X) rfl Try.func79 rfl rfl Try.ntmps79 rfl rfl ?_
 refine aS ?_
 iterate 2 refine aA rfl rfl ?_
 refine TL.nil ?_
 show T X _ _ _
 refine T.scope rfl 0 rfl ?_
 refine aS ?_
 refine TL.op (OpR.alloc rfl rfl (fun _ => rfl)) rfl (fun p3 => ?_)
 refine TL.nil ?_
 show T X _ _ _
 refine aS ?_
 iterate 3 refine aA rfl rfl ?_
 refine TL.op1 (OpR.loadPtr 0 rfl rfl rfl rfl) rfl ?_
 iterate 3 refine aA rfl rfl ?_
 refine TL.op0 (OpR.store 0 rfl rfl rfl rfl rfl rfl rfl rfl) ?_
 refine TL.nil ?_
 show T X _ _ _
 refine aS ?_
 iterate 3 refine aA rfl rfl ?_
 refine TL.op1 (OpR.loadPtr 0 rfl rfl rfl rfl) rfl ?_
 refine aA rfl rfl ?_
 refine TL.nil ?_
 show T X _ _ _
 refine T.seq ?_
 refine T.label ?_
 show T X _ _ _
 obtain ⟨n6, n11⟩ := loop_some h0
 refine T.atLabelS rfl ?_ (fun n S' => ∃ S'', Gst S' S'' ∧ ∃ y4 : Value, ∃ s5 : Int × Int × (List arena_Span), S'' = ⟨[(5, .val (.int .i64 s5.1)), (4, .val (.pointer (some ⟨(blk p3), 0, none⟩))), (3, .val (.slice none 0 0)), (2, .val (.int .i64 0)), (0, .val (.pointer (some ⟨b0, 0, none⟩)))], [.var b0 [.sl 1 (List.map byteD a0), .val (.int .i64 s5.2.1)] 126, .var (blk p3) [.val y4] 168, .row y4 (List.map e_arena_Span s5.2.2) 2 48], 94⟩ ∧ iter (scan_reader_quoted.l2 a0) n s5 = some res) n6 ?_ ?_
 · rfl
 · exact ⟨_, Gst.trans (Gst.only [0, 2, 3, 4, 5] rfl) (Gst.nilRow (ow := [.var b0 [.sl 1 (List.map byteD a0), .val (.int .i64 (w64 (a1 + 1)))] 126, .var (blk p3) [.val (.slice none 0 0)] 168]) 2 48 rfl), (.slice none 0 0), (w64 (a1 + 1), w64 (a1 + 1), []), rfl, n11⟩
 rintro n6 _ ⟨_, g, y4, s5, rfl, i10⟩
 refine T.ghost g ?_
 obtain ⟨m7, q8, rfl, q9, i10⟩ := iter_succ i10
 unfold scan_reader_quoted.l2 at q9
 refine T.seq ?_
 obtain ⟨t13, ht13, q9⟩ := bnd_some q9
 refine T.cutC (fun S' => S' = ⟨[(5, .val (.int .i64 s5.1)), (4, .val (.pointer (some ⟨(blk p3), 0, none⟩))), (3, .val (.slice none 0 0)), (2, .val (.int .i64 0)), (0, .val (.pointer (some ⟨b0, 0, none⟩)))], [.var b0 [.sl 1 (List.map byteD a0), .val (.int .i64 t13)] 126, .var (blk p3) [.val y4] 168, .row y4 (List.map e_arena_Span s5.2.2) 2 48], 94⟩) (fun _ h => h) ?_ ?_
 · refine T.block ?_
   obtain ⟨n15, n20⟩ := loop_some ht13
   refine T.loop (fun n S' => ∃ S'', Gst S' S'' ∧ ∃ s14 : Int, S'' = ⟨[(5, .val (.int .i64 s5.1)), (4, .val (.pointer (some ⟨(blk p3), 0, none⟩))), (3, .val (.slice none 0 0)), (2, .val (.int .i64 0)), (0, .val (.pointer (some ⟨b0, 0, none⟩)))], [.var b0 [.sl 1 (List.map byteD a0), .val (.int .i64 s14)] 126, .var (blk p3) [.val y4] 168, .row y4 (List.map e_arena_Span s5.2.2) 2 48], 94⟩ ∧ iter (scan_reader_quoted.l1 a0) n s14 = some t13) n15 ?_ ?_
   · exact ⟨_, Gst.only [0, 2, 3, 4, 5] rfl, s5.2.1, rfl, n20⟩
   rintro n15 _ ⟨_, g, s14, rfl, i19⟩
   refine T.ghost g ?_
   obtain ⟨m16, q17, rfl, q18, i19⟩ := iter_succ i19
   unfold scan_reader_quoted.l1 at q18
   refine T.seq ?_
   refine T.seq ?_
   obtain ⟨t22, ht22, q18⟩ := bnd_some q18
   refine T.cutC (fun S' => S' = ⟨[(24, .val (.bool t22)), (5, .val (.int .i64 s5.1)), (4, .val (.pointer (some ⟨(blk p3), 0, none⟩))), (3, .val (.slice none 0 0)), (2, .val (.int .i64 0)), (0, .val (.pointer (some ⟨b0, 0, none⟩)))], [.var b0 [.sl 1 (List.map byteD a0), .val (.int .i64 s14)] 126, .var (blk p3) [.val y4] 168, .row y4 (List.map e_arena_Span s5.2.2) 2 48], 94⟩) (fun _ h => h) ?_ ?_
   rotate_left
   · rintro _ rfl
     show T X _ _ _
     rcases ite_some q18 with ⟨c26, q18⟩ | ⟨c26, q18⟩
     rotate_left
     · refine T.condF rfl (eq_false_of_ne_true c26) ?_
       refine T.exit ?_
       obtain rfl := Option.some.inj q18
       obtain rfl : _ = _ := i19
       exact ⟨_, Gst.only [0, 2, 3, 4, 5] rfl, rfl⟩
     refine T.condT rfl (c26) ?_
     refine T.skip ?_
     show T X _ _ _
     refine T.block ?_
     refine T.region ?_
     iterate 3 refine aA rfl rfl ?_
     refine TL.op1 (OpR.loadPtr 0 rfl rfl rfl rfl) rfl ?_
     iterate 3 refine aA rfl rfl ?_
     refine TL.op0 (OpR.store 0 rfl rfl rfl rfl rfl rfl rfl rfl) ?_
     refine TL.nil ?_
     obtain rfl := Option.some.inj q18
     exact ⟨m16, Nat.lt_succ_self _, _, Gst.only [0, 2, 3, 4, 5] rfl, w64 (s14 + 1), rfl, i19⟩
   refine T.region ?_
   refine aA rfl rfl ?_
   obtain ⟨x23, hx23, ht22⟩ := bnd_some ht22
   refine TL.op1 (OpR.call [0] fn52 (scan_reader_done_c hx23) rfl rfl rfl (fun _ => rfl)) rfl ?_
   iterate 2 refine aA rfl rfl ?_
   rcases ite_some ht22 with ⟨c24, ht22⟩ | ⟨c24, ht22⟩
   · refine TL.off rfl rfl rfl rfl (not_t (c24)) rfl rfl ?_
     refine TL.off rfl rfl rfl rfl (not_t (c24)) rfl rfl ?_
     refine TL.off rfl rfl rfl rfl (not_t (c24)) rfl rfl ?_
     refine TL.op1 (OpR.pickF rfl (not_t (c24)) rfl) rfl ?_
     refine TL.nil ?_
     obtain rfl := Option.some.inj ht22
     exact ⟨_, Gst.only [0, 2, 3, 4, 5, 24] rfl, rfl⟩
   refine TL.on rfl rfl rfl rfl (not_f (eq_false_of_ne_true c24)) ?_
   refine aA rfl rfl ?_
   refine TL.on rfl rfl rfl rfl (not_f (eq_false_of_ne_true c24)) ?_
   obtain ⟨x25, hx25, ht22⟩ := bnd_some ht22
   refine TL.op1 (OpR.call [0] fn71 (scan_reader_is_c hx25) rfl rfl rfl (fun _ => rfl)) rfl ?_
   refine TL.on rfl rfl rfl rfl (not_f (eq_false_of_ne_true c24)) ?_
   refine aA rfl rfl ?_
   refine TL.op1 (OpR.pickT rfl (not_f (eq_false_of_ne_true c24)) rfl) rfl ?_
   refine TL.nil ?_
   obtain rfl := Option.some.inj ht22
   exact ⟨_, Gst.only [0, 2, 3, 4, 5, 24] rfl, rfl⟩
 rintro _ rfl
 show T X _ _ _
 refine T.seq ?_
 refine aS ?_
 refine aA rfl rfl ?_
 obtain ⟨x27, hx27, q9⟩ := bnd_some q9
 refine TL.op1 (OpR.call [0] fn52 (scan_reader_done_c hx27) rfl rfl rfl (fun _ => rfl)) rfl ?_
 refine TL.nil ?_
 show T X _ _ _
 rcases ite_some q9 with ⟨c28, q9⟩ | ⟨c28, q9⟩
 · refine T.condT rfl (c28) ?_
   refine aS ?_
   iterate 4 refine aA rfl rfl ?_
   refine TL.op1 (OpR.loadPtr 0 rfl rfl rfl rfl) rfl ?_
   obtain ⟨x29, hx29, q9⟩ := bnd_some q9
   refine TL.op (OpR.call [1, 2] fn90 (scan_parts_add_2_c hx29) rfl rfl rfl (fun _ => rfl)) rfl (fun w30 => ?_)
   refine TL.nil ?_
   show T X _ _ _
   refine T.seq ?_
   refine T.drawQ drawsX [.val (vn w30 0), .val (.int .i64 4), .val (vn w30 0)] [0, 2, 3, 4, 5] (by decide +kernel) rfl ?_ rfl ?_
   · refine OpsQ.yes (Want.plain rfl) rfl (OpR.loadPtr 1 rfl rfl rfl rfl) ?_
     iterate 2 refine aB rfl rfl rfl ?_
     exact OpsQ.nil
   show T X _ _ _
   refine T.ret ?_
   obtain rfl := Option.some.inj q9
   obtain rfl : _ = _ := i10
   exact PostG.retP (ks := [0]) (Gst.trans (Gst.only [2, 3] rfl) (Gst.trans (Gst.freezeRow 2 rfl rfl (ReS.cons (Re.base .all) (ReS.cons Re.refl ReS.nil)) (ReO.same (ReO.var (ReL.cons (Re.base .all) ReL.nil) (ReO.same ReO.nil)))) (Gst.pick [0] rfl rfl))) undef (ResL.cons (ResV.tmp rfl) (ResL.cons (ResV.tmp rfl) ResL.nil)) rfl rfl rfl rfl
 refine T.condF rfl (eq_false_of_ne_true c28) ?_
 refine T.skip ?_
 show T X _ _ _
 refine aS ?_
 iterate 3 refine aA rfl rfl ?_
 refine TL.op1 (OpR.loadPtr 0 rfl rfl rfl rfl) rfl ?_
 iterate 3 refine aA rfl rfl ?_
 refine TL.op0 (OpR.store 0 rfl rfl rfl rfl rfl rfl rfl rfl) ?_
 refine TL.nil ?_
 show T X _ _ _
 refine T.seq ?_
 refine aS ?_
 refine aA rfl rfl ?_
 obtain ⟨x32, hx32, q9⟩ := bnd_some q9
 refine TL.op1 (OpR.call [0] fn71 (scan_reader_is_c hx32) rfl rfl rfl (fun _ => rfl)) rfl ?_
 refine TL.nil ?_
 show T X _ _ _
 rcases ite_some q9 with ⟨c33, q9⟩ | ⟨c33, q9⟩
 · refine T.condT rfl (c33) ?_
   refine aS ?_
   iterate 4 refine aA rfl rfl ?_
   refine TL.op1 (OpR.loadPtr 0 rfl rfl rfl rfl) rfl ?_
   obtain ⟨x34, hx34, q9⟩ := bnd_some q9
   refine TL.op (OpR.call [1, 2] fn90 (scan_parts_add_2_c hx34) rfl rfl rfl (fun _ => rfl)) rfl (fun w35 => ?_)
   refine TL.nil ?_
   show T X _ _ _
   refine aS ?_
   iterate 3 refine aA rfl rfl ?_
   refine TL.op1 (OpR.loadPtr 0 rfl rfl rfl rfl) rfl ?_
   iterate 3 refine aA rfl rfl ?_
   refine TL.op0 (OpR.store 0 rfl rfl rfl rfl rfl rfl rfl rfl) ?_
   refine TL.nil ?_
   show T X _ _ _
   refine aS ?_
   iterate 3 refine aA rfl rfl ?_
   refine TL.op1 (OpR.loadPtr 0 rfl rfl rfl rfl) rfl ?_
   refine aA rfl rfl ?_
   refine TL.nil ?_
   show T X _ _ _
   refine T.goto ?_
   obtain rfl := Option.some.inj q9
   exact ⟨rfl, m7, Nat.lt_succ_self _, _, Gst.only [0, 2, 3, 4, 5] rfl, (vn w35 0), (w64 ((w64 (t13 + 1)) + 1), w64 ((w64 (t13 + 1)) + 1), x34), rfl, i10⟩
 refine T.condF rfl (eq_false_of_ne_true c33) ?_
 refine T.skip ?_
 show T X _ _ _
 refine aS ?_
 iterate 4 refine aA rfl rfl ?_
 refine TL.op1 (OpR.loadPtr 0 rfl rfl rfl rfl) rfl ?_
 refine aA rfl rfl ?_
 obtain ⟨x36, hx36, q9⟩ := bnd_some q9
 refine TL.op (OpR.call [1, 2] fn90 (scan_parts_add_2_c hx36) rfl rfl rfl (fun _ => rfl)) rfl (fun w37 => ?_)
 refine TL.nil ?_
 show T X _ _ _
 refine aS ?_
 iterate 3 refine aA rfl rfl ?_
 refine TL.op1 (OpR.loadPtr 0 rfl rfl rfl rfl) rfl ?_
 refine aA rfl rfl ?_
 refine TL.nil ?_
 show T X _ _ _
 refine aS ?_
 refine aA rfl rfl ?_
 obtain ⟨x38, hx38, q9⟩ := bnd_some q9
 refine TL.op1 (OpR.call [0] fn91 (scan_reader_plain_c hx38) rfl rfl rfl (fun _ => rfl)) rfl ?_
 refine TL.nil ?_
 show T X _ _ _
 refine aS ?_
 iterate 4 refine aA rfl rfl ?_
 refine TL.op1 (OpR.loadPtr 0 rfl rfl rfl rfl) rfl ?_
 obtain ⟨x39, hx39, q9⟩ := bnd_some q9
 refine TL.op (OpR.call [1, 2] fn90 (scan_parts_add_2_c hx39) rfl rfl rfl (fun _ => rfl)) rfl (fun w40 => ?_)
 refine TL.nil ?_
 show T X _ _ _
 refine T.seq ?_
 refine aS ?_
 iterate 3 refine aA rfl rfl ?_
 refine TL.op1 (OpR.loadPtr 0 rfl rfl rfl rfl) rfl ?_
 iterate 2 refine aA rfl rfl ?_
 refine TL.nil ?_
 show T X _ _ _
 rcases ite_some q9 with ⟨c41, q9⟩ | ⟨c41, q9⟩
 · refine T.condT rfl (decide_eq_true c41) ?_
   refine T.seq ?_
   refine T.drawQ drawsX [.val (vn w40 0), .val (.int .i64 3), .val (vn w40 0)] [0, 2, 3, 4, 5] (by decide +kernel) rfl ?_ rfl ?_
   · refine OpsQ.yes (Want.plain rfl) rfl (OpR.loadPtr 1 rfl rfl rfl rfl) ?_
     iterate 2 refine aB rfl rfl rfl ?_
     exact OpsQ.nil
   show T X _ _ _
   refine T.ret ?_
   obtain rfl := Option.some.inj q9
   obtain rfl : _ = _ := i10
   exact PostG.retP (ks := [0]) (Gst.trans (Gst.only [2, 3] rfl) (Gst.trans (Gst.freezeRow 2 rfl rfl (ReS.cons (Re.base .all) (ReS.cons Re.refl ReS.nil)) (ReO.same (ReO.var (ReL.cons (Re.base .all) ReL.nil) (ReO.same ReO.nil)))) (Gst.pick [0] rfl rfl))) undef (ResL.cons (ResV.tmp rfl) (ResL.cons (ResV.tmp rfl) ResL.nil)) rfl rfl rfl rfl
 refine T.condF rfl (decide_eq_false c41) ?_
 refine T.skip ?_
 show T X _ _ _
 refine T.seq ?_
 refine T.drawQ drawsX [.val (vn w40 0), .val (.int .i64 1), .val (vn w40 0)] [0, 2, 3, 4, 5] (by decide +kernel) rfl ?_ rfl ?_
 · refine OpsQ.yes (Want.plain rfl) rfl (OpR.loadPtr 1 rfl rfl rfl rfl) ?_
   iterate 2 refine aB rfl rfl rfl ?_
   exact OpsQ.nil
 show T X _ _ _
 refine T.ret ?_
 obtain rfl := Option.some.inj q9
 obtain rfl : _ = _ := i10
 exact PostG.retP (ks := [0]) (Gst.trans (Gst.only [2, 3] rfl) (Gst.trans (Gst.freezeRow 2 rfl rfl (ReS.cons (Re.base .all) (ReS.cons Re.refl ReS.nil)) (ReO.same (ReO.var (ReL.cons (Re.base .all) ReL.nil) (ReO.same ReO.nil)))) (Gst.pick [0] rfl rfl))) undef (ResL.cons (ResV.tmp rfl) (ResL.cons (ResV.tmp rfl) ResL.nil)) rfl rfl rfl rfl
noncomputable def scan_parts_add (a0 : Int) (a1 : Int) : Option (List arena_Span) :=
  if a1 ≤ a0 then
    some []
  else
    if (w64 (0 - 1)) ≥ 0 then
      bnd (idx ([] : List arena_Span) (w64 (0 - 1))) fun x5 =>
      none
    else
      bnd (app 16 [] [(⟨a0, w64 (a1 - a0)⟩ : arena_Span)]) fun x7 =>
      some x7
set_option maxHeartbeats 4000000 in
theorem scan_parts_add_c {a0 : Int} {a1 : Int} {b0 : Nat} {res : (List arena_Span)} (h0 : scan_parts_add a0 a1 = some res) : CallF X 90 [.val (.pointer (some ⟨b0, 0, none⟩)), .val (.int .i64 a0), .val (.int .i64 a1)] [.var b0 [.val (.slice none 0 0)] 168] (fun x => .tup []) (fun x => [.var b0 [.val (vn x 0)] 168, .row (vn x 0) (List.map e_arena_Span res) 2 48]) := by
 unfold scan_parts_add at h0
 refine CallF.mkG (X := X) rfl Try.func90 rfl rfl Try.ntmps90 rfl rfl ?_
 refine T.seq ?_
 refine aS ?_
 iterate 3 refine aA rfl rfl ?_
 refine TL.nil ?_
 show T X _ _ _
 rcases ite_some h0 with ⟨c1, h0⟩ | ⟨c1, h0⟩
 · refine T.condT rfl (decide_eq_true c1) ?_
   refine T.ret ?_
   obtain rfl := Option.some.inj h0
   exact PostG.retP (ks := [0, 1]) (Gst.trans (Gst.only [] rfl) (Gst.nilRow (ow := [.var b0 [.val (.slice none 0 0)] 168]) 2 48 rfl)) (.tuple #[(.slice none 0 0)]) ResL.nil rfl rfl rfl rfl
 refine T.condF rfl (decide_eq_false c1) ?_
 refine T.skip ?_
 show T X _ _ _
 refine aS ?_
 iterate 4 refine aA rfl rfl ?_
 refine TL.op1 (OpR.build rfl rfl rfl rfl rfl) rfl ?_
 refine TL.op (OpR.alloc rfl rfl (fun _ => rfl)) rfl (fun p2 => ?_)
 refine TL.op0 (OpR.store 1 rfl rfl rfl rfl rfl rfl rfl rfl) ?_
 refine TL.nil ?_
 show T X _ _ _
 refine T.seq ?_
 refine aS ?_
 iterate 2 refine aA rfl rfl ?_
 refine TL.op1 (OpR.loadPtr 0 rfl rfl rfl rfl) rfl ?_
 iterate 3 refine aA rfl rfl ?_
 refine TL.nil ?_
 show T X _ _ _
 refine aS ?_
 iterate 2 refine aA rfl rfl ?_
 refine TL.nil ?_
 show T X _ _ _
 rcases ite_some h0 with ⟨c3, h0⟩ | ⟨c3, h0⟩
 · refine T.condT rfl (decide_eq_true c3) ?_
   refine T.seq ?_
   obtain ⟨x5, hx5, h0⟩ := bnd_some h0
   exact (idx_nil hx5).elim
 refine T.condF rfl (decide_eq_false c3) ?_
 refine T.skip ?_
 show T X _ _ _
 refine T.ghost (Gst.nilRow 2 48 rfl) ?_
 obtain ⟨x7, hx7, h0⟩ := bnd_some h0
 refine T.drawS drawsX (fun env6 => [.val (.pointer (some ⟨b0, 0, none⟩)), .val (.pointer (some ⟨b0, 0, none⟩)), .val (.pointer (some ⟨b0, 0, none⟩)), .val (.slice none 0 0), .agg [.val (.int .i64 a0), .val (.int .i64 (w64 (a1 - a0)))], .sl 2 (List.map e_arena_Span [(⟨a0, w64 (a1 - a0)⟩ : arena_Span)]), .val (env6 6), .val (.pointer (some ⟨b0, 0, none⟩)), .dead]) (fun D env6 => [(bif D 8 then .var b0 [.val (env6 6)] 168 else .var b0 [.val (.slice none 0 0)] 168), .var (blk p2) [.val (.int .i64 a0), .val (.int .i64 (w64 (a1 - a0)))] 48, (bif D 6 then .row (env6 6) (List.map e_arena_Span x7) 2 48 else .row (.slice none 0 0) (List.map e_arena_Span []) 2 48)]) [0, 0, 2, 6, 0, 16, 62, 127, 255] [] (fun env6 => [.var b0 [.val (env6 6)] 168, .var (blk p2) [.val (.int .i64 a0), .val (.int .i64 (w64 (a1 - a0)))] 48, .row (env6 6) (List.map e_arena_Span x7) 2 48]) (by decide +kernel) (by decide +kernel) (fun _ => rfl) (fun _ => rfl) ?_ (fun _ => rfl) (fun _ => rfl) ?_
 rotate_left
 · intro env6
   obtain rfl := Option.some.inj h0
   exact PostG.finP (ks := [0, 1]) (Gst.trans (Gst.only [] rfl) (Gst.pick [0, 2] rfl rfl)) (.tuple #[(env6 6)]) ResL.nil rfl rfl rfl rfl
 iterate 3 refine aC ?_
 refine OpsS.cons' true ?_ (fun _ _ _ _ _ _ _ => rfl) ?_
 · intro D env6 hA
   have e6 : D 6 = false := hA.no 6 _ rfl rfl
   have e8 : D 8 = false := hA.no 8 _ rfl rfl
   exact OpS.yes (o0 := [.var b0 [.val (.slice none 0 0)] 168, .var (blk p2) [.val (.int .i64 a0), .val (.int .i64 (w64 (a1 - a0)))] 48, .row (.slice none 0 0) (List.map e_arena_Span []) 2 48]) (o1 := fun x => [.var b0 [.val (.slice none 0 0)] 168, .var (blk p2) [.val (.int .i64 a0), .val (.int .i64 (w64 (a1 - a0)))] 48, .row (.slice none 0 0) (List.map e_arena_Span []) 2 48]) (d := fun x => .val (.slice none 0 0)) (Want.plain rfl) (by first | rfl | simp only [e6, e8, cond_true, cond_false, List.cons_append, List.nil_append, List.append_nil]) (fun x => by first | rfl | simp only [ins_self, ins_ne D (show 3 ≠ 6 by decide), ins_ne D (show 3 ≠ 8 by decide), upd_self, upd_ne env6 x (show 3 ≠ 6 by decide), e6, e8, cond_true, cond_false, List.cons_append, List.nil_append, List.append_nil]) (fun x => rfl) (OpR.loadPtr 0 rfl rfl rfl rfl)
 refine oS (d := .agg [.val (.int .i64 a0), .val (.int .i64 (w64 (a1 - a0)))]) (fun _ => Want.plain rfl) (fun _ => rfl) (fun _ _ _ => rfl) (fun _ _ => OpR.loadPtr 1 rfl rfl rfl rfl) (fun _ _ _ _ _ _ _ => rfl) ?_
 refine oS (d := .sl 2 (List.map e_arena_Span [(⟨a0, w64 (a1 - a0)⟩ : arena_Span)])) (fun _ => Want.plain rfl) (fun _ => rfl) (fun _ _ _ => rfl) (fun _ _ => OpR.lit rfl rfl rfl rfl rfl rfl rfl) (fun _ _ _ _ _ _ _ => rfl) ?_
 refine OpsS.cons' true ?_ (fun D hA env6 x j hj hD => match j, hj, hD with | 0, _, _ => rfl | 1, _, _ => rfl | 2, _, _ => rfl | 3, _, _ => rfl | 4, _, _ => rfl | 5, _, _ => rfl | 6, hj, _ => absurd rfl hj | 7, _, _ => rfl | 8, _, _ => rfl | _ + 9, _, _ => rfl) ?_
 · intro D env6 hA
   have e8 : D 8 = false := hA.no 8 _ rfl rfl
   exact OpS.yes (o0 := [.var b0 [.val (.slice none 0 0)] 168, .var (blk p2) [.val (.int .i64 a0), .val (.int .i64 (w64 (a1 - a0)))] 48, .row (.slice none 0 0) (List.map e_arena_Span []) 2 48]) (o1 := fun x => [.var b0 [.val (.slice none 0 0)] 168, .var (blk p2) [.val (.int .i64 a0), .val (.int .i64 (w64 (a1 - a0)))] 48, .row x (List.map e_arena_Span x7) 2 48]) (d := fun x => .val x) (Want.plain rfl) (by first | rfl | simp only [e8, hA.me, cond_true, cond_false, List.cons_append, List.nil_append, List.append_nil]) (fun x => by first | rfl | simp only [ins_self, ins_ne D (show 6 ≠ 8 by decide), upd_self, e8, hA.me, cond_true, cond_false, List.cons_append, List.nil_append, List.append_nil]) (fun x => rfl) (OpR.appendM (m := [(⟨a0, w64 (a1 - a0)⟩ : arena_Span)]) e_arena_Span 2 hx7 rfl rfl rfl rfl rfl rfl rfl rfl rfl (fun _ => rfl))
 refine aC ?_
 refine OpsS.cons' true ?_ (fun _ _ _ _ _ _ _ => rfl) ?_
 · intro D env6 hA
   have e6 : D 6 = true := hA.yes 6 _ rfl rfl
   exact OpS.yes (o0 := [.var b0 [.val (.slice none 0 0)] 168, .var (blk p2) [.val (.int .i64 a0), .val (.int .i64 (w64 (a1 - a0)))] 48, .row (env6 6) (List.map e_arena_Span x7) 2 48]) (o1 := fun x => [.var b0 [.val (env6 6)] 168, .var (blk p2) [.val (.int .i64 a0), .val (.int .i64 (w64 (a1 - a0)))] 48, .row (env6 6) (List.map e_arena_Span x7) 2 48]) (d := fun x => .dead) (Want.plain rfl) (by first | rfl | simp only [e6, hA.me, cond_true, cond_false, List.cons_append, List.nil_append, List.append_nil]) (fun x => by first | rfl | simp only [ins_self, ins_ne D (show 8 ≠ 6 by decide), upd_self, upd_ne env6 x (show 8 ≠ 6 by decide), e6, hA.me, cond_true, cond_false, List.cons_append, List.nil_append, List.append_nil]) (fun x => rfl) (OpR.store 0 rfl rfl rfl rfl rfl rfl rfl rfl)
 exact trivial
noncomputable def scan_reader_bare (a0 : List UInt8) (a1 : Int) : Option (Int × (List arena_Span) × Int) :=
  bnd (scan_reader_plain a0 a1) fun x2 =>
  bnd (scan_parts_add a1 x2.2) fun x3 =>
  if x2.1 = true then
    some (2, x3, x2.2)
  else
    some (0, x3, x2.2)
set_option maxHeartbeats 4000000 in
theorem scan_reader_bare_c {a0 : List UInt8} {a1 : Int} {b0 : Nat} {res : Int × (List arena_Span) × Int} (h0 : scan_reader_bare a0 a1 = some res) : CallF X 80 [.val (.pointer (some ⟨b0, 0, none⟩))] [.var b0 [.sl 1 (List.map byteD a0), .val (.int .i64 a1)] 126] (fun x => .tup [.val (.int .i64 res.1), .sl 2 (List.map e_arena_Span res.2.1)]) (fun x => [.var b0 [.sl 1 (List.map byteD a0), .val (.int .i64 res.2.2)] 126]) := by
 unfold scan_reader_bare at h0
 refine CallF.mkG (X := X) rfl Try.func80 rfl rfl Try.ntmps80 rfl rfl ?_
 refine aS ?_
 iterate 2 refine aA rfl rfl ?_
 refine TL.nil ?_
 show T X _ _ _
 refine aS ?_
 refine TL.op (OpR.alloc rfl rfl (fun _ => rfl)) rfl (fun p1 => ?_)
 refine TL.nil ?_
 show T X _ _ _
 refine aS ?_
 iterate 3 refine aA rfl rfl ?_
 refine TL.op1 (OpR.loadPtr 0 rfl rfl rfl rfl) rfl ?_
 refine aA rfl rfl ?_
 refine TL.nil ?_
 show T X _ _ _
 refine aS ?_
 refine aA rfl rfl ?_
 obtain ⟨x2, hx2, h0⟩ := bnd_some h0
 refine TL.op1 (OpR.call [0] fn91 (scan_reader_plain_c hx2) rfl rfl rfl (fun _ => rfl)) rfl ?_
 refine aA rfl rfl ?_
 refine TL.nil ?_
 show T X _ _ _
 refine aS ?_
 iterate 4 refine aA rfl rfl ?_
 refine TL.op1 (OpR.loadPtr 0 rfl rfl rfl rfl) rfl ?_
 obtain ⟨x3, hx3, h0⟩ := bnd_some h0
 refine TL.op (OpR.call [1] fn90 (scan_parts_add_c hx3) rfl rfl rfl (fun _ => rfl)) rfl (fun w4 => ?_)
 refine TL.nil ?_
 show T X _ _ _
 refine T.seq ?_
 refine aS ?_
 refine aA rfl rfl ?_
 refine TL.nil ?_
 show T X _ _ _
 rcases ite_some h0 with ⟨c5, h0⟩ | ⟨c5, h0⟩
 · refine T.condT rfl (c5) ?_
   refine T.seq ?_
   refine T.drawQ drawsX [.val (vn w4 0), .val (.int .i64 2), .val (vn w4 0)] [2, 3, 4] (by decide +kernel) rfl ?_ rfl ?_
   · refine OpsQ.yes (Want.plain rfl) rfl (OpR.loadPtr 1 rfl rfl rfl rfl) ?_
     iterate 2 refine aB rfl rfl rfl ?_
     exact OpsQ.nil
   show T X _ _ _
   refine T.ret ?_
   obtain rfl := Option.some.inj h0
   exact PostG.retP (ks := [0]) (Gst.trans (Gst.only [2, 3] rfl) (Gst.trans (Gst.freezeRow 2 rfl rfl (ReS.cons (Re.base .all) (ReS.cons Re.refl ReS.nil)) (ReO.same (ReO.var (ReL.cons (Re.base .all) ReL.nil) (ReO.same ReO.nil)))) (Gst.pick [0] rfl rfl))) undef (ResL.cons (ResV.tmp rfl) (ResL.cons (ResV.tmp rfl) ResL.nil)) rfl rfl rfl rfl
 refine T.condF rfl (eq_false_of_ne_true c5) ?_
 refine T.skip ?_
 show T X _ _ _
 refine T.seq ?_
 refine T.drawQ drawsX [.val (vn w4 0), .val (.int .i64 0), .val (vn w4 0)] [2, 3] (by decide +kernel) rfl ?_ rfl ?_
 · refine OpsQ.yes (Want.plain rfl) rfl (OpR.loadPtr 1 rfl rfl rfl rfl) ?_
   iterate 2 refine aB rfl rfl rfl ?_
   exact OpsQ.nil
 show T X _ _ _
 refine T.ret ?_
 obtain rfl := Option.some.inj h0
 exact PostG.retP (ks := [0]) (Gst.trans (Gst.only [2, 3] rfl) (Gst.trans (Gst.freezeRow 2 rfl rfl (ReS.cons (Re.base .all) (ReS.cons Re.refl ReS.nil)) (ReO.same (ReO.var (ReL.cons (Re.base .all) ReL.nil) (ReO.same ReO.nil)))) (Gst.pick [0] rfl rfl))) undef (ResL.cons (ResV.tmp rfl) (ResL.cons (ResV.tmp rfl) ResL.nil)) rfl rfl rfl rfl
noncomputable def scan_reader_field (a0 : List UInt8) (a1 : Int) : Option (scan_Field × Int) :=
  bnd (scan_reader_is 34 a0 a1) fun x3 =>
  bnd (if x3 = true then
    bnd (scan_reader_quoted a0 a1) fun x6 =>
    some (x6.2.2, x6.1, x6.2.1)
  else
    bnd (scan_reader_bare a0 a1) fun x7 =>
    some (x7.2.2, x7.1, x7.2.1) : Option (Int × Int × (List arena_Span))) fun t4 =>
  some ((⟨(⟨a1, w64 (t4.1 - a1)⟩ : arena_Span), t4.2.1, t4.2.2⟩ : scan_Field), t4.1)
set_option maxHeartbeats 4000000 in
theorem scan_reader_field_c {a0 : List UInt8} {a1 : Int} {b0 : Nat} {res : scan_Field × Int} (h0 : scan_reader_field a0 a1 = some res) : CallF X 70 [.val (.pointer (some ⟨b0, 0, none⟩))] [.var b0 [.sl 1 (List.map byteD a0), .val (.int .i64 a1)] 126] (fun x => .agg [.val (.int .i64 res.1.fRaw.fAt), .val (.int .i64 res.1.fRaw.fN), .val (.int .i64 res.1.fKind), .sl 2 (List.map e_arena_Span res.1.fParts)]) (fun x => [.var b0 [.sl 1 (List.map byteD a0), .val (.int .i64 res.2)] 126]) := by
 unfold scan_reader_field at h0
 refine CallF.mkG (X := X) rfl Try.func70 rfl rfl Try.ntmps70 rfl rfl ?_
 refine aS ?_
 refine TL.op (OpR.alloc rfl rfl (fun _ => rfl)) rfl (fun p1 => ?_)
 refine TL.nil ?_
 show T X _ _ _
 refine aS ?_
 iterate 3 refine aA rfl rfl ?_
 refine TL.op1 (OpR.loadPtr 0 rfl rfl rfl rfl) rfl ?_
 refine aA rfl rfl ?_
 refine TL.nil ?_
 show T X _ _ _
 refine aS ?_
 refine TL.op (OpR.alloc rfl rfl (fun _ => rfl)) rfl (fun p2 => ?_)
 refine TL.nil ?_
 show T X _ _ _
 refine T.seq ?_
 refine aS ?_
 refine aA rfl rfl ?_
 obtain ⟨x3, hx3, h0⟩ := bnd_some h0
 refine TL.op1 (OpR.call [0] fn71 (scan_reader_is_c hx3) rfl rfl rfl (fun _ => rfl)) rfl ?_
 refine TL.nil ?_
 show T X _ _ _
 obtain ⟨t4, ht4, h0⟩ := bnd_some h0
 refine T.cutC (fun S' => S' = ⟨[(4, .val (.pointer (some ⟨(blk p2), 0, none⟩))), (3, .val (.int .i64 a1)), (2, .val (.pointer (some ⟨(blk p1), 0, none⟩))), (0, .val (.pointer (some ⟨b0, 0, none⟩)))], [.var b0 [.sl 1 (List.map byteD a0), .val (.int .i64 t4.1)] 126, .var (blk p1) [.val (.int .i64 0), .val (.int .i64 0), .val (.int .i64 0), .val (.slice none 0 0)] 129, .var (blk p2) [.val (.int .i64 0), .val (.int .i64 0), .val (.int .i64 t4.2.1), .sl 2 (List.map e_arena_Span t4.2.2)] 129], 35⟩) (fun _ h => h) ?_ ?_
 rotate_left
 · rintro _ rfl
   show T X _ _ _
   refine aS ?_
   iterate 4 refine aA rfl rfl ?_
   refine TL.op1 (OpR.loadPtr 0 rfl rfl rfl rfl) rfl ?_
   iterate 2 refine aA rfl rfl ?_
   refine TL.op1 (OpR.build rfl rfl rfl rfl rfl) rfl ?_
   refine aA rfl rfl ?_
   refine TL.op0 (OpR.store 2 rfl rfl rfl rfl rfl rfl rfl rfl) ?_
   refine TL.nil ?_
   show T X _ _ _
   refine aS ?_
   refine TL.op1 (OpR.loadPtr 2 rfl rfl rfl rfl) rfl ?_
   refine TL.op0 (OpR.store 1 rfl rfl rfl rfl rfl rfl rfl rfl) ?_
   refine TL.nil ?_
   show T X _ _ _
   refine T.ret ?_
   obtain rfl := Option.some.inj h0
   exact PostG.retP (ks := [0]) (Gst.trans (Gst.only [2] rfl) (Gst.pick [0, 1] rfl rfl)) undef (ResL.cons (ResV.var 1 rfl rfl rfl rfl) ResL.nil) rfl rfl rfl rfl
 rcases ite_some ht4 with ⟨c5, ht4⟩ | ⟨c5, ht4⟩
 · refine T.condT rfl (c5) ?_
   refine T.region ?_
   refine aA rfl rfl ?_
   obtain ⟨x6, hx6, ht4⟩ := bnd_some ht4
   refine TL.op1 (OpR.call [0] fn79 (scan_reader_quoted_c hx6) rfl rfl rfl (fun _ => rfl)) rfl ?_
   iterate 4 refine aA rfl rfl ?_
   refine TL.op0 (OpR.store 2 rfl rfl rfl rfl rfl rfl rfl rfl) ?_
   refine aA rfl rfl ?_
   refine TL.op0 (OpR.store 2 rfl rfl rfl rfl rfl rfl rfl rfl) ?_
   refine TL.nil ?_
   obtain rfl := Option.some.inj ht4
   exact ⟨_, Gst.only [0, 2, 3, 4] rfl, rfl⟩
 refine T.condF rfl (eq_false_of_ne_true c5) ?_
 refine T.region ?_
 refine aA rfl rfl ?_
 obtain ⟨x7, hx7, ht4⟩ := bnd_some ht4
 refine TL.op1 (OpR.call [0] fn80 (scan_reader_bare_c hx7) rfl rfl rfl (fun _ => rfl)) rfl ?_
 iterate 4 refine aA rfl rfl ?_
 refine TL.op0 (OpR.store 2 rfl rfl rfl rfl rfl rfl rfl rfl) ?_
 refine aA rfl rfl ?_
 refine TL.op0 (OpR.store 2 rfl rfl rfl rfl rfl rfl rfl rfl) ?_
 refine TL.nil ?_
 obtain rfl := Option.some.inj ht4
 exact ⟨_, Gst.only [0, 2, 3, 4] rfl, rfl⟩
noncomputable def scan_reader_end (a0 : List UInt8) (a1 : Int) : Option (Int × Int) :=
  bnd (scan_reader_is 10 a0 a1) fun x1 =>
  if x1 = true then
    some (1, w64 (a1 + 1))
  else
    bnd (scan_reader_is 13 a0 a1) fun x3 =>
    if x3 = true then
      bnd (scan_reader_is 10 a0 (w64 (a1 + 1))) fun x5 =>
      if x5 = true then
        some (2, w64 ((w64 (a1 + 1)) + 1))
      else
        some (3, w64 (a1 + 1))
    else
      some (0, a1)
set_option maxHeartbeats 4000000 in
theorem scan_reader_end_c {a0 : List UInt8} {a1 : Int} {b0 : Nat} {res : Int × Int} (h0 : scan_reader_end a0 a1 = some res) : CallF X 72 [.val (.pointer (some ⟨b0, 0, none⟩))] [.var b0 [.sl 1 (List.map byteD a0), .val (.int .i64 a1)] 126] (fun x => .val (.int .i64 res.1)) (fun x => [.var b0 [.sl 1 (List.map byteD a0), .val (.int .i64 res.2)] 126]) := by
 unfold scan_reader_end at h0
 refine CallF.mkG (X := X) rfl Try.func72 rfl rfl Try.ntmps72 rfl rfl ?_
 refine aS ?_
 refine aA rfl rfl ?_
 refine TL.nil ?_
 show T X _ _ _
 refine T.seq ?_
 refine T.block ?_
 refine aS ?_
 refine aA rfl rfl ?_
 obtain ⟨x1, hx1, h0⟩ := bnd_some h0
 refine TL.op1 (OpR.call [0] fn71 (scan_reader_is_c hx1) rfl rfl rfl (fun _ => rfl)) rfl ?_
 refine aA rfl rfl ?_
 refine TL.nil ?_
 show T X _ _ _
 rcases ite_some h0 with ⟨c2, h0⟩ | ⟨c2, h0⟩
 · refine T.condT rfl (c2) ?_
   refine aS ?_
   iterate 3 refine aA rfl rfl ?_
   refine TL.op1 (OpR.loadPtr 0 rfl rfl rfl rfl) rfl ?_
   iterate 3 refine aA rfl rfl ?_
   refine TL.op0 (OpR.store 0 rfl rfl rfl rfl rfl rfl rfl rfl) ?_
   refine TL.nil ?_
   show T X _ _ _
   refine aS ?_
   refine aA rfl rfl ?_
   refine TL.nil ?_
   show T X _ _ _
   refine T.ret ?_
   obtain rfl := Option.some.inj h0
   exact PostG.retP (ks := [0]) (Gst.only [2] rfl) undef (ResL.cons (ResV.tmp rfl) ResL.nil) rfl rfl rfl rfl
 refine T.condF rfl (eq_false_of_ne_true c2) ?_
 refine aS ?_
 refine aA rfl rfl ?_
 obtain ⟨x3, hx3, h0⟩ := bnd_some h0
 refine TL.op1 (OpR.call [0] fn71 (scan_reader_is_c hx3) rfl rfl rfl (fun _ => rfl)) rfl ?_
 refine aA rfl rfl ?_
 refine TL.nil ?_
 show T X _ _ _
 rcases ite_some h0 with ⟨c4, h0⟩ | ⟨c4, h0⟩
 rotate_left
 · refine T.condF rfl (eq_false_of_ne_true c4) ?_
   refine T.skip ?_
   show T X _ _ _
   refine aS ?_
   refine aA rfl rfl ?_
   refine TL.nil ?_
   show T X _ _ _
   refine T.ret ?_
   obtain rfl := Option.some.inj h0
   exact PostG.retP (ks := [0]) (Gst.only [2] rfl) undef (ResL.cons (ResV.tmp rfl) ResL.nil) rfl rfl rfl rfl
 refine T.condT rfl (c4) ?_
 refine aS ?_
 iterate 3 refine aA rfl rfl ?_
 refine TL.op1 (OpR.loadPtr 0 rfl rfl rfl rfl) rfl ?_
 iterate 3 refine aA rfl rfl ?_
 refine TL.op0 (OpR.store 0 rfl rfl rfl rfl rfl rfl rfl rfl) ?_
 refine TL.nil ?_
 show T X _ _ _
 refine T.seq ?_
 refine aS ?_
 refine aA rfl rfl ?_
 obtain ⟨x5, hx5, h0⟩ := bnd_some h0
 refine TL.op1 (OpR.call [0] fn71 (scan_reader_is_c hx5) rfl rfl rfl (fun _ => rfl)) rfl ?_
 refine TL.nil ?_
 show T X _ _ _
 rcases ite_some h0 with ⟨c6, h0⟩ | ⟨c6, h0⟩
 rotate_left
 · refine T.condF rfl (eq_false_of_ne_true c6) ?_
   refine T.skip ?_
   show T X _ _ _
   refine aS ?_
   refine aA rfl rfl ?_
   refine TL.nil ?_
   show T X _ _ _
   refine T.ret ?_
   obtain rfl := Option.some.inj h0
   exact PostG.retP (ks := [0]) (Gst.only [2] rfl) undef (ResL.cons (ResV.tmp rfl) ResL.nil) rfl rfl rfl rfl
 refine T.condT rfl (c6) ?_
 refine aS ?_
 iterate 3 refine aA rfl rfl ?_
 refine TL.op1 (OpR.loadPtr 0 rfl rfl rfl rfl) rfl ?_
 iterate 3 refine aA rfl rfl ?_
 refine TL.op0 (OpR.store 0 rfl rfl rfl rfl rfl rfl rfl rfl) ?_
 refine TL.nil ?_
 show T X _ _ _
 refine aS ?_
 refine aA rfl rfl ?_
 refine TL.nil ?_
 show T X _ _ _
 refine T.ret ?_
 obtain rfl := Option.some.inj h0
 exact PostG.retP (ks := [0]) (Gst.only [2] rfl) undef (ResL.cons (ResV.tmp rfl) ResL.nil) rfl rfl rfl rfl
noncomputable def scan_reader_row.l1 (a0 : List UInt8) (s8 : Int × (List scan_Field)) : Option (Lp (Int × (List scan_Field)) (Int × (List scan_Field))) :=
  bnd (scan_reader_is 44 a0 s8.1) fun x16 =>
  if x16 = true then
    bnd (scan_reader_field a0 (w64 (s8.1 + 1))) fun x19 =>
    bnd (app 48 s8.2 [x19.1]) fun x20 =>
    some (Lp.next (x19.2, x20))
  else
    some (Lp.done (s8.1, s8.2))
noncomputable def scan_reader_row (a0 : List UInt8) (a1 : Int) : Option (scan_Row × Int) :=
  bnd (scan_reader_field a0 a1) fun x2 =>
  bnd (loop (scan_reader_row.l1 a0) (x2.2, [x2.1]) : Option (Int × (List scan_Field))) fun t5 =>
  bnd (scan_reader_end a0 t5.1) fun x21 =>
  some ((⟨t5.2, x21.1⟩ : scan_Row), x21.2)
set_option maxHeartbeats 4000000 in
theorem scan_reader_row_c {a0 : List UInt8} {a1 : Int} {b0 : Nat} {res : scan_Row × Int} (h0 : scan_reader_row a0 a1 = some res) : CallF X 53 [.val (.pointer (some ⟨b0, 0, none⟩))] [.var b0 [.sl 1 (List.map byteD a0), .val (.int .i64 a1)] 126] (fun x => .agg [.sl 4 (List.map e_scan_Field res.1.fFields), .val (.int .i64 res.1.fEnd)]) (fun x => [.var b0 [.sl 1 (List.map byteD a0), .val (.int .i64 res.2)] 126]) := by
 unfold scan_reader_row at h0
 refine CallF.mkG (X := X) rfl Try.func53 rfl rfl Try.ntmps53 rfl rfl ?_
 refine aS ?_
 refine TL.op (OpR.alloc rfl rfl (fun _ => rfl)) rfl (fun p1 => ?_)
 refine TL.nil ?_
 show T X _ _ _
 refine aS ?_
 refine aA rfl rfl ?_
 obtain ⟨x2, hx2, h0⟩ := bnd_some h0
 refine TL.op1 (OpR.call [0] fn70 (scan_reader_field_c hx2) rfl rfl rfl (fun _ => rfl)) rfl ?_
 refine TL.op (OpR.litRow rfl rfl rfl rfl rfl rfl rfl rfl (fun _ => rfl)) rfl (fun v3 => ?_)
 refine TL.op1 (OpR.build rfl rfl rfl rfl rfl) rfl ?_
 refine TL.op (OpR.alloc rfl rfl (fun _ => rfl)) rfl (fun p4 => ?_)
 refine TL.op0 (OpR.store 3 rfl rfl rfl rfl rfl rfl rfl rfl) ?_
 refine TL.nil ?_
 show T X _ _ _
 refine T.seq ?_
 obtain ⟨t5, ht5, h0⟩ := bnd_some h0
 refine T.cutC (fun S' => ∃ y6 : Value, S' = ⟨[(3, .val (.pointer (some ⟨(blk p4), 0, none⟩))), (2, .val (.pointer (some ⟨(blk p1), 0, none⟩))), (0, .val (.pointer (some ⟨b0, 0, none⟩)))], [.var b0 [.sl 1 (List.map byteD a0), .val (.int .i64 t5.1)] 126, .var (blk p1) [.val (.slice none 0 0), .val (.int .i64 0)] 84, .var (blk p4) [.val y6, .val (.int .i64 0)] 84, .row y6 (List.map e_scan_Field t5.2) 4 129], 28⟩) (fun _ h => h) ?_ ?_
 rotate_left
 · rintro _ ⟨y6, rfl⟩
   show T X _ _ _
   refine aS ?_
   refine aA rfl rfl ?_
   obtain ⟨x21, hx21, h0⟩ := bnd_some h0
   refine TL.op1 (OpR.call [0] fn72 (scan_reader_end_c hx21) rfl rfl rfl (fun _ => rfl)) rfl ?_
   refine aA rfl rfl ?_
   refine TL.op0 (OpR.store 2 rfl rfl rfl rfl rfl rfl rfl rfl) ?_
   refine TL.nil ?_
   show T X _ _ _
   refine aS ?_
   refine TL.op1 (OpR.loadPtr 2 rfl rfl rfl rfl) rfl ?_
   refine TL.op0 (OpR.store 1 rfl rfl rfl rfl rfl rfl rfl rfl) ?_
   refine TL.nil ?_
   show T X _ _ _
   refine T.ret ?_
   obtain rfl := Option.some.inj h0
   exact PostG.retP (ks := [0]) (Gst.trans (Gst.only [2] rfl) (Gst.trans (Gst.freezeRow 3 rfl rfl (ReS.cons Re.refl ReS.nil) (ReO.same (ReO.var (ReL.cons (Re.base .all) (ReL.cons Re.refl ReL.nil)) (ReO.var (ReL.cons (Re.base .all) (ReL.cons Re.refl ReL.nil)) (ReO.same ReO.nil))))) (Gst.pick [0, 1] rfl rfl))) undef (ResL.cons (ResV.var 1 rfl rfl rfl rfl) ResL.nil) rfl rfl rfl rfl
 refine T.block ?_
 obtain ⟨n9, n14⟩ := loop_some ht5
 refine T.loop (fun n S' => ∃ S'', Gst S' S'' ∧ ∃ y7 : Value, ∃ s8 : Int × (List scan_Field), S'' = ⟨[(3, .val (.pointer (some ⟨(blk p4), 0, none⟩))), (2, .val (.pointer (some ⟨(blk p1), 0, none⟩))), (0, .val (.pointer (some ⟨b0, 0, none⟩)))], [.var b0 [.sl 1 (List.map byteD a0), .val (.int .i64 s8.1)] 126, .var (blk p1) [.val (.slice none 0 0), .val (.int .i64 0)] 84, .var (blk p4) [.val y7, .val (.int .i64 0)] 84, .row y7 (List.map e_scan_Field s8.2) 4 129], 28⟩ ∧ iter (scan_reader_row.l1 a0) n s8 = some t5) n9 ?_ ?_
 · exact ⟨_, Gst.trans (Gst.only [0, 2, 3] rfl) (Gst.pick [0, 1, 3, 2] rfl rfl), v3, (x2.2, [x2.1]), rfl, n14⟩
 rintro n9 _ ⟨_, g, y7, s8, rfl, i13⟩
 refine T.ghost g ?_
 obtain ⟨m10, q11, rfl, q12, i13⟩ := iter_succ i13
 unfold scan_reader_row.l1 at q12
 refine T.seq ?_
 refine aS ?_
 refine aA rfl rfl ?_
 obtain ⟨x16, hx16, q12⟩ := bnd_some q12
 refine TL.op1 (OpR.call [0] fn71 (scan_reader_is_c hx16) rfl rfl rfl (fun _ => rfl)) rfl ?_
 refine TL.nil ?_
 show T X _ _ _
 rcases ite_some q12 with ⟨c17, q12⟩ | ⟨c17, q12⟩
 rotate_left
 · refine T.condF rfl (eq_false_of_ne_true c17) ?_
   refine T.exit ?_
   obtain rfl := Option.some.inj q12
   obtain rfl : _ = _ := i13
   exact ⟨_, Gst.only [0, 2, 3] rfl, y7, rfl⟩
 refine T.condT rfl (c17) ?_
 refine T.skip ?_
 show T X _ _ _
 refine T.block ?_
 refine aS ?_
 iterate 3 refine aA rfl rfl ?_
 refine TL.op1 (OpR.loadPtr 0 rfl rfl rfl rfl) rfl ?_
 iterate 3 refine aA rfl rfl ?_
 refine TL.op0 (OpR.store 0 rfl rfl rfl rfl rfl rfl rfl rfl) ?_
 refine TL.nil ?_
 show T X _ _ _
 obtain ⟨x19, hx19, q12⟩ := bnd_some q12
 obtain ⟨x20, hx20, q12⟩ := bnd_some q12
 refine T.drawS drawsX (fun env18 => [.val (.pointer (some ⟨(blk p4), 0, none⟩)), .val y7, .val (.pointer (some ⟨b0, 0, none⟩)), .agg [.val (.int .i64 x19.1.fRaw.fAt), .val (.int .i64 x19.1.fRaw.fN), .val (.int .i64 x19.1.fKind), .sl 2 (List.map e_arena_Span x19.1.fParts)], .sl 4 (List.map e_scan_Field [x19.1]), .val (env18 5), .val (.pointer (some ⟨(blk p4), 0, none⟩)), .dead]) (fun D env18 => [(bif D 3 then .var b0 [.sl 1 (List.map byteD a0), .val (.int .i64 x19.2)] 126 else .var b0 [.sl 1 (List.map byteD a0), .val (.int .i64 (w64 (s8.1 + 1)))] 126), .var (blk p1) [.val (.slice none 0 0), .val (.int .i64 0)] 84, (bif D 7 then .var (blk p4) [.val (env18 5), .val (.int .i64 0)] 84 else .var (blk p4) [.val y7, .val (.int .i64 0)] 84), (bif D 5 then .row (env18 5) (List.map e_scan_Field x20) 4 129 else .row y7 (List.map e_scan_Field s8.2) 4 129)]) [0, 1, 0, 4, 12, 31, 63, 127] [0, 2, 3] (fun env18 => [.var b0 [.sl 1 (List.map byteD a0), .val (.int .i64 x19.2)] 126, .var (blk p1) [.val (.slice none 0 0), .val (.int .i64 0)] 84, .var (blk p4) [.val (env18 5), .val (.int .i64 0)] 84, .row (env18 5) (List.map e_scan_Field x20) 4 129]) (by decide +kernel) (by decide +kernel) (fun _ => rfl) (fun _ => rfl) ?_ (fun _ => rfl) (fun _ => rfl) ?_
 rotate_left
 · intro env18
   obtain rfl := Option.some.inj q12
   exact ⟨m10, Nat.lt_succ_self _, _, Gst.only [0, 2, 3] rfl, (env18 5), (x19.2, x20), rfl, i13⟩
 refine aC ?_
 refine OpsS.cons' true ?_ (fun _ _ _ _ _ _ _ => rfl) ?_
 · intro D env18 hA
   have e5 : D 5 = false := hA.no 5 _ rfl rfl
   have e7 : D 7 = false := hA.no 7 _ rfl rfl
   rcases Bool.eq_false_or_eq_true (D 3) with e3 | e3
   · exact OpS.yes (o0 := [.var b0 [.sl 1 (List.map byteD a0), .val (.int .i64 x19.2)] 126, .var (blk p1) [.val (.slice none 0 0), .val (.int .i64 0)] 84, .var (blk p4) [.val y7, .val (.int .i64 0)] 84, .row y7 (List.map e_scan_Field s8.2) 4 129]) (o1 := fun x => [.var b0 [.sl 1 (List.map byteD a0), .val (.int .i64 x19.2)] 126, .var (blk p1) [.val (.slice none 0 0), .val (.int .i64 0)] 84, .var (blk p4) [.val y7, .val (.int .i64 0)] 84, .row y7 (List.map e_scan_Field s8.2) 4 129]) (d := fun x => .val y7) (Want.plain rfl) (by first | rfl | simp only [e5, e7, e3, cond_true, cond_false, List.cons_append, List.nil_append, List.append_nil]) (fun x => by first | rfl | simp only [ins_self, ins_ne D (show 1 ≠ 3 by decide), ins_ne D (show 1 ≠ 5 by decide), ins_ne D (show 1 ≠ 7 by decide), upd_self, upd_ne env18 x (show 1 ≠ 5 by decide), e5, e7, e3, cond_true, cond_false, List.cons_append, List.nil_append, List.append_nil]) (fun x => rfl) (OpR.loadPtr 2 rfl rfl rfl rfl)
   exact OpS.yes (o0 := [.var b0 [.sl 1 (List.map byteD a0), .val (.int .i64 (w64 (s8.1 + 1)))] 126, .var (blk p1) [.val (.slice none 0 0), .val (.int .i64 0)] 84, .var (blk p4) [.val y7, .val (.int .i64 0)] 84, .row y7 (List.map e_scan_Field s8.2) 4 129]) (o1 := fun x => [.var b0 [.sl 1 (List.map byteD a0), .val (.int .i64 (w64 (s8.1 + 1)))] 126, .var (blk p1) [.val (.slice none 0 0), .val (.int .i64 0)] 84, .var (blk p4) [.val y7, .val (.int .i64 0)] 84, .row y7 (List.map e_scan_Field s8.2) 4 129]) (d := fun x => .val y7) (Want.plain rfl) (by first | rfl | simp only [e5, e7, e3, cond_true, cond_false, List.cons_append, List.nil_append, List.append_nil]) (fun x => by first | rfl | simp only [ins_self, ins_ne D (show 1 ≠ 3 by decide), ins_ne D (show 1 ≠ 5 by decide), ins_ne D (show 1 ≠ 7 by decide), upd_self, upd_ne env18 x (show 1 ≠ 5 by decide), e5, e7, e3, cond_true, cond_false, List.cons_append, List.nil_append, List.append_nil]) (fun x => rfl) (OpR.loadPtr 2 rfl rfl rfl rfl)
 refine aC ?_
 refine OpsS.cons' true ?_ (fun _ _ _ _ _ _ _ => rfl) ?_
 · intro D env18 hA
   have e5 : D 5 = false := hA.no 5 _ rfl rfl
   have e7 : D 7 = false := hA.no 7 _ rfl rfl
   exact OpS.yes (o0 := [.var b0 [.sl 1 (List.map byteD a0), .val (.int .i64 (w64 (s8.1 + 1)))] 126, .var (blk p1) [.val (.slice none 0 0), .val (.int .i64 0)] 84, .var (blk p4) [.val y7, .val (.int .i64 0)] 84, .row y7 (List.map e_scan_Field s8.2) 4 129]) (o1 := fun x => [.var b0 [.sl 1 (List.map byteD a0), .val (.int .i64 x19.2)] 126, .var (blk p1) [.val (.slice none 0 0), .val (.int .i64 0)] 84, .var (blk p4) [.val y7, .val (.int .i64 0)] 84, .row y7 (List.map e_scan_Field s8.2) 4 129]) (d := fun x => .agg [.val (.int .i64 x19.1.fRaw.fAt), .val (.int .i64 x19.1.fRaw.fN), .val (.int .i64 x19.1.fKind), .sl 2 (List.map e_arena_Span x19.1.fParts)]) (Want.plain rfl) (by first | rfl | simp only [e5, e7, hA.me, cond_true, cond_false, List.cons_append, List.nil_append, List.append_nil]) (fun x => by first | rfl | simp only [ins_self, ins_ne D (show 3 ≠ 5 by decide), ins_ne D (show 3 ≠ 7 by decide), upd_self, upd_ne env18 x (show 3 ≠ 5 by decide), e5, e7, hA.me, cond_true, cond_false, List.cons_append, List.nil_append, List.append_nil]) (fun x => rfl) (OpR.call [0] fn70 (scan_reader_field_c hx19) rfl rfl rfl (fun _ => rfl))
 refine oS (d := .sl 4 (List.map e_scan_Field [x19.1])) (fun _ => Want.plain rfl) (fun _ => rfl) (fun _ _ _ => rfl) (fun _ _ => OpR.lit rfl rfl rfl rfl rfl rfl rfl) (fun _ _ _ _ _ _ _ => rfl) ?_
 refine OpsS.cons' true ?_ (fun D hA env18 x j hj hD => match j, hj, hD with | 0, _, _ => rfl | 1, _, _ => rfl | 2, _, _ => rfl | 3, _, _ => rfl | 4, _, _ => rfl | 5, hj, _ => absurd rfl hj | 6, _, _ => rfl | 7, _, _ => rfl | _ + 8, _, _ => rfl) ?_
 · intro D env18 hA
   have e3 : D 3 = true := hA.yes 3 _ rfl rfl
   have e7 : D 7 = false := hA.no 7 _ rfl rfl
   exact OpS.yes (o0 := [.var b0 [.sl 1 (List.map byteD a0), .val (.int .i64 x19.2)] 126, .var (blk p1) [.val (.slice none 0 0), .val (.int .i64 0)] 84, .var (blk p4) [.val y7, .val (.int .i64 0)] 84, .row y7 (List.map e_scan_Field s8.2) 4 129]) (o1 := fun x => [.var b0 [.sl 1 (List.map byteD a0), .val (.int .i64 x19.2)] 126, .var (blk p1) [.val (.slice none 0 0), .val (.int .i64 0)] 84, .var (blk p4) [.val y7, .val (.int .i64 0)] 84, .row x (List.map e_scan_Field x20) 4 129]) (d := fun x => .val x) (Want.plain rfl) (by first | rfl | simp only [e3, e7, hA.me, cond_true, cond_false, List.cons_append, List.nil_append, List.append_nil]) (fun x => by first | rfl | simp only [ins_self, ins_ne D (show 5 ≠ 3 by decide), ins_ne D (show 5 ≠ 7 by decide), upd_self, e3, e7, hA.me, cond_true, cond_false, List.cons_append, List.nil_append, List.append_nil]) (fun x => rfl) (OpR.appendM (m := [x19.1]) e_scan_Field 3 hx20 rfl rfl rfl rfl rfl rfl rfl rfl rfl (fun _ => rfl))
 refine aC ?_
 refine OpsS.cons' true ?_ (fun _ _ _ _ _ _ _ => rfl) ?_
 · intro D env18 hA
   have e3 : D 3 = true := hA.yes 3 _ rfl rfl
   have e5 : D 5 = true := hA.yes 5 _ rfl rfl
   exact OpS.yes (o0 := [.var b0 [.sl 1 (List.map byteD a0), .val (.int .i64 x19.2)] 126, .var (blk p1) [.val (.slice none 0 0), .val (.int .i64 0)] 84, .var (blk p4) [.val y7, .val (.int .i64 0)] 84, .row (env18 5) (List.map e_scan_Field x20) 4 129]) (o1 := fun x => [.var b0 [.sl 1 (List.map byteD a0), .val (.int .i64 x19.2)] 126, .var (blk p1) [.val (.slice none 0 0), .val (.int .i64 0)] 84, .var (blk p4) [.val (env18 5), .val (.int .i64 0)] 84, .row (env18 5) (List.map e_scan_Field x20) 4 129]) (d := fun x => .dead) (Want.plain rfl) (by first | rfl | simp only [e3, e5, hA.me, cond_true, cond_false, List.cons_append, List.nil_append, List.append_nil]) (fun x => by first | rfl | simp only [ins_self, ins_ne D (show 7 ≠ 3 by decide), ins_ne D (show 7 ≠ 5 by decide), upd_self, upd_ne env18 x (show 7 ≠ 5 by decide), e3, e5, hA.me, cond_true, cond_false, List.cons_append, List.nil_append, List.append_nil]) (fun x => rfl) (OpR.store 2 rfl rfl rfl rfl rfl rfl rfl rfl)
 exact trivial
noncomputable def scan_All.l1 (a0 : List UInt8) (s5 : (List scan_Row) × Int) : Option (Lp ((List scan_Row) × Int) (List scan_Row)) :=
  bnd (scan_reader_done a0 s5.2) fun x13 =>
  if x13 = true then
    some (Lp.done s5.1)
  else
    bnd (scan_reader_row a0 s5.2) fun x15 =>
    bnd (app 32 s5.1 [x15.1]) fun x16 =>
    some (Lp.next (x16, x15.2))
noncomputable def scan_All (a0 : List UInt8) : Option (List scan_Row) :=
  bnd (loop (scan_All.l1 a0) ([], 0) : Option (List scan_Row)) fun t2 =>
  some t2
set_option maxHeartbeats 4000000 in
theorem scan_All_c {a0 : List UInt8} {res : (List scan_Row)} (h0 : scan_All a0 = some res) : CallF X 24 [.sl 1 (List.map byteD a0)] [] (fun x => .sl 2 (List.map e_scan_Row res)) (fun x => []) := by
 unfold scan_All at h0
 refine CallF.mkG (X := X) rfl Try.func24 rfl rfl Try.ntmps24 rfl rfl ?_
 refine aS ?_
 refine aA rfl rfl ?_
 refine TL.nil ?_
 show T X _ _ _
 refine aS ?_
 refine aA rfl rfl ?_
 refine TL.nil ?_
 show T X _ _ _
 refine T.seq ?_
 refine aS ?_
 refine aA rfl rfl ?_
 refine TL.op1 (OpR.build rfl rfl rfl rfl rfl) rfl ?_
 refine TL.op (OpR.boxVar rfl rfl (fun _ => rfl)) rfl (fun p1 => ?_)
 refine aA rfl rfl ?_
 refine TL.nil ?_
 show T X _ _ _
 obtain ⟨t2, ht2, h0⟩ := bnd_some h0
 refine T.cutC (fun S' => ∃ y3 : Value, S' = ⟨[(3, .val y3), (2, .val (.slice none 0 0))], [.row y3 (List.map e_scan_Row t2) 2 84], 17⟩) (fun _ h => h) ?_ ?_
 rotate_left
 · rintro _ ⟨y3, rfl⟩
   show T X _ _ _
   refine aS ?_
   iterate 2 refine aA rfl rfl ?_
   refine TL.nil ?_
   show T X _ _ _
   refine T.ret ?_
   obtain rfl := Option.some.inj h0
   exact PostG.retP (ks := []) (Gst.trans (Gst.only [2] rfl) (Gst.trans (Gst.freezeRow 0 rfl rfl (ReS.cons (Re.base .all) ReS.nil) (ReO.same ReO.nil)) (Gst.pick [] rfl rfl))) undef (ResL.cons (ResV.tmp rfl) ResL.nil) rfl rfl rfl rfl
 refine T.block ?_
 obtain ⟨n6, n11⟩ := loop_some ht2
 refine T.loop (fun n S' => ∃ S'', Gst S' S'' ∧ ∃ y4 : Value, ∃ s5 : (List scan_Row) × Int, S'' = ⟨[(4, .val (.pointer (some ⟨(blk p1), 0, none⟩))), (3, .val y4), (2, .val (.slice none 0 0))], [.row y4 (List.map e_scan_Row s5.1) 2 84, .var (blk p1) [.sl 1 (List.map byteD a0), .val (.int .i64 s5.2)] 126], 17⟩ ∧ iter (scan_All.l1 a0) n s5 = some t2) n6 ?_ ?_
 · exact ⟨_, Gst.trans (Gst.only [2, 3, 4] rfl) (Gst.trans (Gst.nilRow (ow := [.var (blk p1) [.sl 1 (List.map byteD a0), .val (.int .i64 0)] 126]) 2 84 rfl) (Gst.pick [1, 0] rfl rfl)), (.slice none 0 0), ([], 0), rfl, n11⟩
 rintro n6 _ ⟨_, g, y4, s5, rfl, i10⟩
 refine T.ghost g ?_
 obtain ⟨m7, q8, rfl, q9, i10⟩ := iter_succ i10
 unfold scan_All.l1 at q9
 refine T.seq ?_
 refine aS ?_
 refine aA rfl rfl ?_
 obtain ⟨x13, hx13, q9⟩ := bnd_some q9
 refine TL.op1 (OpR.call [1] fn52 (scan_reader_done_c hx13) rfl rfl rfl (fun _ => rfl)) rfl ?_
 refine aA rfl rfl ?_
 refine TL.nil ?_
 show T X _ _ _
 rcases ite_some q9 with ⟨c14, q9⟩ | ⟨c14, q9⟩
 · refine T.condF rfl (not_t (c14)) ?_
   refine T.exit ?_
   obtain rfl := Option.some.inj q9
   obtain rfl : _ = _ := i10
   exact ⟨_, Gst.trans (Gst.only [2, 3] rfl) (Gst.pick [0] rfl rfl), y4, rfl⟩
 refine T.condT rfl (not_f (eq_false_of_ne_true c14)) ?_
 refine T.skip ?_
 show T X _ _ _
 refine T.block ?_
 refine T.region ?_
 iterate 2 refine aA rfl rfl ?_
 obtain ⟨x15, hx15, q9⟩ := bnd_some q9
 refine TL.op1 (OpR.call [1] fn53 (scan_reader_row_c hx15) rfl rfl rfl (fun _ => rfl)) rfl ?_
 refine TL.op1 (OpR.lit rfl rfl rfl rfl rfl rfl rfl) rfl ?_
 obtain ⟨x16, hx16, q9⟩ := bnd_some q9
 refine TL.op (OpR.appendM (m := [x15.1]) e_scan_Row 0 hx16 rfl rfl rfl rfl rfl rfl rfl rfl rfl (fun _ => rfl)) rfl (fun v17 => ?_)
 refine aA rfl rfl ?_
 refine TL.nil ?_
 obtain rfl := Option.some.inj q9
 exact ⟨m7, Nat.lt_succ_self _, _, Gst.only [2, 3, 4] rfl, v17, (x16, x15.2), rfl, i10⟩
noncomputable def arena_New_2 : Option (Int × (List UInt8)) :=
  bnd ((mkc 1 0 : Option (List UInt8))) fun x1 =>
  some (0, x1)
set_option maxHeartbeats 4000000 in
theorem arena_New_2_c {res : Int × (List UInt8)} (h0 : arena_New_2 = some res) : CallF X 22 [.val (.slice none 0 0)] [] (fun x => .tup [.val (.pointer (some ⟨(blk (vn x 0)), 0, none⟩)), .val (.int .i64 res.1)]) (fun x => [.var (blk (vn x 0)) [.val (vn x 1)] 123, .row (vn x 1) (List.map byteD res.2) 1 5]) := by
 unfold arena_New_2 at h0
 refine CallF.mkG (X := X) rfl Try.func22 rfl rfl Try.ntmps22 rfl rfl ?_
 refine aS ?_
 iterate 2 refine aA rfl rfl ?_
 refine TL.nil ?_
 show T X _ _ _
 refine T.seq ?_
 refine aS ?_
 iterate 2 refine aA rfl rfl ?_
 refine TL.op1 (OpR.cast (OpR.pure rfl) (boolE (show (decide ((0 : Int) > 4096)) = false by decide))) rfl ?_
 refine TL.nil ?_
 show T X _ _ _
 refine T.condF rfl rfl ?_
 refine T.skip ?_
 show T X _ _ _
 refine aS ?_
 iterate 2 refine aA rfl rfl ?_
 obtain ⟨x1, hx1, h0⟩ := bnd_some h0
 refine TL.op (OpR.makeC byteD hx1 rfl rfl rfl rfl rfl rfl rfl (fun _ => rfl)) rfl (fun v2 => ?_)
 refine TL.op1 (OpR.build rfl rfl rfl rfl rfl) rfl ?_
 refine TL.op (OpR.boxVar rfl rfl (fun _ => rfl)) rfl (fun p3 => ?_)
 refine aA rfl rfl ?_
 refine TL.nil ?_
 show T X _ _ _
 refine aS ?_
 iterate 3 refine aA rfl rfl ?_
 refine TL.op1 (OpR.loadPtr 1 rfl rfl rfl rfl) rfl ?_
 refine aA rfl rfl ?_
 refine TL.op1 (OpR.copyNil 0 rfl rfl rfl rfl rfl rfl) rfl ?_
 refine TL.nil ?_
 show T X _ _ _
 refine aS ?_
 iterate 3 refine aA rfl rfl ?_
 refine TL.nil ?_
 show T X _ _ _
 refine T.ret ?_
 obtain rfl := Option.some.inj h0
 exact PostG.retP (ks := [0, 1]) (Gst.trans (Gst.only [2, 3] rfl) (Gst.pick [1, 0] rfl rfl)) (.tuple #[p3, v2]) (ResL.cons (ResV.tmp rfl) (ResL.cons (ResV.tmp rfl) ResL.nil)) rfl rfl rfl rfl
noncomputable def grid_refused (a0 : Int) : Option (grid_Grid × Int × (List UInt8)) :=
  bnd (arena_New_2) fun x2 =>
  some ((⟨(⟨none⟩ : tree_Tree_damier_row_Row), false, 2⟩ : grid_Grid), a0, x2.2)
set_option maxHeartbeats 4000000 in
theorem grid_refused_c {a0 : Int} {res : grid_Grid × Int × (List UInt8)} (h0 : grid_refused a0 = some res) : CallF X 23 [.val (.int .i64 a0)] [] (fun x => .tup [.agg [(eOP res.1.fRows.fRoot), .val (.bool res.1.fTail), .val (.int .i64 res.1.fEnd)], .val (.pointer (some ⟨(blk (vn x 0)), 0, none⟩)), .val (.int .i64 res.2.1)]) (fun x => [.var (blk (vn x 0)) [.val (vn x 1)] 123, .row (vn x 1) (List.map byteD res.2.2) 1 5]) := by
 unfold grid_refused at h0
 refine CallF.mkG (X := X) rfl Try.func23 rfl rfl Try.ntmps23 rfl rfl ?_
 refine aS ?_
 refine TL.op (OpR.alloc rfl rfl (fun _ => rfl)) rfl (fun p1 => ?_)
 iterate 2 refine aA rfl rfl ?_
 refine TL.nil ?_
 show T X _ _ _
 refine aS ?_
 obtain ⟨x2, hx2, h0⟩ := bnd_some h0
 refine TL.op (OpR.call [] fn22 (arena_New_2_c hx2) rfl rfl rfl (fun _ => rfl)) rfl (fun w3 => ?_)
 iterate 5 refine aA rfl rfl ?_
 refine TL.nil ?_
 show T X _ _ _
 refine aS ?_
 refine TL.op1 (OpR.build rfl rfl rfl rfl rfl) rfl ?_
 iterate 2 refine aA rfl rfl ?_
 refine TL.op0 (OpR.store 0 rfl rfl rfl rfl rfl rfl rfl rfl) ?_
 iterate 2 refine aA rfl rfl ?_
 refine TL.nil ?_
 show T X _ _ _
 refine T.ret ?_
 obtain rfl := Option.some.inj h0
 exact PostG.retP (ks := [1, 2]) (Gst.only [2, 3, 4] rfl) (.tuple #[(vn w3 0), (vn w3 1)]) (ResL.cons (ResV.var 0 rfl rfl rfl rfl) (ResL.cons (ResV.tmp rfl) (ResL.cons (ResV.tmp rfl) ResL.nil))) rfl rfl rfl rfl
noncomputable def piece_Text_with_2 (a0 : arena_Span) (a1 : Int) (a2 : List arena_Span) : Option (Int × (List arena_Span)) :=
  if a0.fN < 1 then
    some (a1, a2)
  else
    bnd (if (w64 ((a2.length : Int) - 1)) ≥ 0 then
      bnd (idx a2 (w64 ((a2.length : Int) - 1))) fun x7 =>
      bnd (arena_Join x7 a0) fun x8 =>
      if x8.2 = true then
        some (Ex.ret (w64 (a1 + a0.fN), (a2.set (w64 ((a2.length : Int) - 1)).toNat x8.1)))
      else
        some (Ex.brk ())
    else
      some (Ex.brk ()) : Option (Ex Unit (Int × (List arena_Span)))) fun t3 => match t3 with
      | .brk u4 =>
        bnd (app 16 a2 [a0]) fun x12 =>
        some (w64 (a1 + a0.fN), x12)
      | .ret u4 => some u4
set_option maxHeartbeats 4000000 in
theorem piece_Text_with_2_c {a0 : arena_Span} {a1 : Int} {a2 : List arena_Span} {b0 : Nat} {v1 : Value} {res : Int × (List arena_Span)} (h0 : piece_Text_with_2 a0 a1 a2 = some res) : CallF X 81 [.val (.pointer (some ⟨b0, 0, none⟩)), .agg [.val (.int .i64 a0.fAt), .val (.int .i64 a0.fN)]] [.var b0 [.val v1, .val (.int .i64 a1)] 46, .row v1 (List.map e_arena_Span a2) 2 48] (fun x => .tup []) (fun x => [.var b0 [.val (vn x 0), .val (.int .i64 res.1)] 46, .row (vn x 0) (List.map e_arena_Span res.2) 2 48]) := by
 unfold piece_Text_with_2 at h0
 refine CallF.mkG (X := X) rfl Try.func81 rfl rfl Try.ntmps81 rfl rfl ?_
 refine aS ?_
 refine TL.op1 (OpR.boxImm rfl rfl) rfl ?_
 refine TL.nil ?_
 show T X _ _ _
 refine T.seq ?_
 refine aS ?_
 iterate 3 refine aA rfl rfl ?_
 refine TL.nil ?_
 show T X _ _ _
 rcases ite_some h0 with ⟨c1, h0⟩ | ⟨c1, h0⟩
 · refine T.condT rfl (decide_eq_true c1) ?_
   refine T.ret ?_
   obtain rfl := Option.some.inj h0
   exact PostG.retP (ks := [0, 1]) (Gst.only [] rfl) (.tuple #[v1]) ResL.nil rfl rfl rfl rfl
 refine T.condF rfl (decide_eq_false c1) ?_
 refine T.skip ?_
 show T X _ _ _
 refine T.seq ?_
 refine T.drawS drawsX (fun env2 => [.val (.pointer (some ⟨b0, 0, none⟩)), .val (.pointer (some ⟨b0, 0, none⟩)), .val (.pointer (some ⟨b0, 1, none⟩)), .val (.int .i64 a1), .nod [.val (.int .i64 a0.fN)], .val (.int .i64 a0.fN), .val (.int .i64 (w64 (a1 + a0.fN))), .val (.pointer (some ⟨b0, 0, none⟩)), .val (.pointer (some ⟨b0, 1, none⟩)), .dead]) (fun D env2 => [(bif D 9 then .var b0 [.val v1, .val (.int .i64 (w64 (a1 + a0.fN)))] 46 else .var b0 [.val v1, .val (.int .i64 a1)] 46), .row v1 (List.map e_arena_Span a2) 2 48]) [0, 1, 3, 7, 0, 16, 63, 127, 255, 511] [0, 3] (fun env2 => [.var b0 [.val v1, .val (.int .i64 (w64 (a1 + a0.fN)))] 46, .row v1 (List.map e_arena_Span a2) 2 48]) (by decide +kernel) (by decide +kernel) (fun _ => rfl) (fun _ => rfl) ?_ (fun _ => rfl) (fun _ => rfl) ?_
 · iterate 3 refine aC ?_
   refine OpsS.cons' true ?_ (fun _ _ _ _ _ _ _ => rfl) ?_
   · intro D env2 hA
     have e9 : D 9 = false := hA.no 9 _ rfl rfl
     exact OpS.yes (o0 := [.var b0 [.val v1, .val (.int .i64 a1)] 46, .row v1 (List.map e_arena_Span a2) 2 48]) (o1 := fun x => [.var b0 [.val v1, .val (.int .i64 a1)] 46, .row v1 (List.map e_arena_Span a2) 2 48]) (d := fun x => .val (.int .i64 a1)) (Want.plain rfl) (by first | rfl | simp only [e9, cond_true, cond_false, List.cons_append, List.nil_append, List.append_nil]) (fun x => by first | rfl | simp only [ins_self, ins_ne D (show 3 ≠ 9 by decide), upd_self, e9, cond_true, cond_false, List.cons_append, List.nil_append, List.append_nil]) (fun x => rfl) (OpR.loadPtr 0 rfl rfl rfl rfl)
   iterate 5 refine aC ?_
   refine OpsS.cons' true ?_ (fun _ _ _ _ _ _ _ => rfl) ?_
   · intro D env2 hA
     exact OpS.yes (o0 := [.var b0 [.val v1, .val (.int .i64 a1)] 46, .row v1 (List.map e_arena_Span a2) 2 48]) (o1 := fun x => [.var b0 [.val v1, .val (.int .i64 (w64 (a1 + a0.fN)))] 46, .row v1 (List.map e_arena_Span a2) 2 48]) (d := fun x => .dead) (Want.plain rfl) (by first | rfl | simp only [hA.me, cond_true, cond_false, List.cons_append, List.nil_append, List.append_nil]) (fun x => by first | rfl | simp only [ins_self, upd_self, hA.me, cond_true, cond_false, List.cons_append, List.nil_append, List.append_nil]) (fun x => rfl) (OpR.store 0 rfl rfl rfl rfl rfl rfl rfl rfl)
   exact trivial
 intro env2
 show T X _ _ _
 refine T.seq ?_
 refine aS ?_
 iterate 3 refine aA rfl rfl ?_
 refine TL.op1 (OpR.loadPtr 0 rfl rfl rfl rfl) rfl ?_
 refine TL.op1 (OpR.rowLenM e_arena_Span 1 rfl rfl rfl rfl) rfl ?_
 iterate 2 refine aA rfl rfl ?_
 refine TL.nil ?_
 show T X _ _ _
 refine aS ?_
 iterate 2 refine aA rfl rfl ?_
 refine TL.nil ?_
 show T X _ _ _
 obtain ⟨t3, ht3, h0⟩ := bnd_some h0
 refine T.cutC (fun S' => ∃ u4, t3 = Ex.brk u4 ∧ S' = ⟨[(3, .nod [.val (.int .i64 a0.fAt), .val (.int .i64 a0.fN)]), (0, .val (.pointer (some ⟨b0, 0, none⟩)))], [.var b0 [.val v1, .val (.int .i64 (w64 (a1 + a0.fN)))] 46, .row v1 (List.map e_arena_Span a2) 2 48], 57⟩) (fun _ h => h) ?_ ?_
 rotate_left
 · rintro _ ⟨u4, rfl, rfl⟩
   show T X _ _ _
   obtain ⟨x12, hx12, h0⟩ := bnd_some h0
   refine T.drawS drawsX (fun env11 => [.val (.pointer (some ⟨b0, 0, none⟩)), .val (.pointer (some ⟨b0, 0, none⟩)), .val (.pointer (some ⟨b0, 0, none⟩)), .val (.pointer (some ⟨b0, 0, none⟩)), .val v1, .agg [.val (.int .i64 a0.fAt), .val (.int .i64 a0.fN)], .sl 2 (List.map e_arena_Span [a0]), .val (env11 7), .val (.pointer (some ⟨b0, 0, none⟩)), .val (.pointer (some ⟨b0, 0, none⟩)), .dead]) (fun D env11 => [(bif D 10 then .var b0 [.val (env11 7), .val (.int .i64 (w64 (a1 + a0.fN)))] 46 else .var b0 [.val v1, .val (.int .i64 (w64 (a1 + a0.fN)))] 46), (bif D 7 then .row (env11 7) (List.map e_arena_Span x12) 2 48 else .row v1 (List.map e_arena_Span a2) 2 48)]) [0, 0, 2, 6, 14, 0, 32, 126, 255, 511, 1023] [] (fun env11 => [.var b0 [.val (env11 7), .val (.int .i64 (w64 (a1 + a0.fN)))] 46, .row (env11 7) (List.map e_arena_Span x12) 2 48]) (by decide +kernel) (by decide +kernel) (fun _ => rfl) (fun _ => rfl) ?_ (fun _ => rfl) (fun _ => rfl) ?_
   rotate_left
   · intro env11
     obtain rfl := Option.some.inj h0
     exact PostG.finP (ks := [0, 1]) (Gst.only [] rfl) (.tuple #[(env11 7)]) ResL.nil rfl rfl rfl rfl
   iterate 4 refine aC ?_
   refine OpsS.cons' true ?_ (fun _ _ _ _ _ _ _ => rfl) ?_
   · intro D env11 hA
     have e7 : D 7 = false := hA.no 7 _ rfl rfl
     have e10 : D 10 = false := hA.no 10 _ rfl rfl
     exact OpS.yes (o0 := [.var b0 [.val v1, .val (.int .i64 (w64 (a1 + a0.fN)))] 46, .row v1 (List.map e_arena_Span a2) 2 48]) (o1 := fun x => [.var b0 [.val v1, .val (.int .i64 (w64 (a1 + a0.fN)))] 46, .row v1 (List.map e_arena_Span a2) 2 48]) (d := fun x => .val v1) (Want.plain rfl) (by first | rfl | simp only [e7, e10, cond_true, cond_false, List.cons_append, List.nil_append, List.append_nil]) (fun x => by first | rfl | simp only [ins_self, ins_ne D (show 4 ≠ 7 by decide), ins_ne D (show 4 ≠ 10 by decide), upd_self, upd_ne env11 x (show 4 ≠ 7 by decide), e7, e10, cond_true, cond_false, List.cons_append, List.nil_append, List.append_nil]) (fun x => rfl) (OpR.loadPtr 0 rfl rfl rfl rfl)
   refine aC ?_
   refine oS (d := .sl 2 (List.map e_arena_Span [a0])) (fun _ => Want.plain rfl) (fun _ => rfl) (fun _ _ _ => rfl) (fun _ _ => OpR.lit rfl rfl rfl rfl rfl rfl rfl) (fun _ _ _ _ _ _ _ => rfl) ?_
   refine OpsS.cons' true ?_ (fun D hA env11 x j hj hD => match j, hj, hD with | 0, _, _ => rfl | 1, _, _ => rfl | 2, _, _ => rfl | 3, _, _ => rfl | 4, _, _ => rfl | 5, _, _ => rfl | 6, _, _ => rfl | 7, hj, _ => absurd rfl hj | 8, _, _ => rfl | 9, _, _ => rfl | 10, _, _ => rfl | _ + 11, _, _ => rfl) ?_
   · intro D env11 hA
     have e10 : D 10 = false := hA.no 10 _ rfl rfl
     exact OpS.yes (o0 := [.var b0 [.val v1, .val (.int .i64 (w64 (a1 + a0.fN)))] 46, .row v1 (List.map e_arena_Span a2) 2 48]) (o1 := fun x => [.var b0 [.val v1, .val (.int .i64 (w64 (a1 + a0.fN)))] 46, .row x (List.map e_arena_Span x12) 2 48]) (d := fun x => .val x) (Want.plain rfl) (by first | rfl | simp only [e10, hA.me, cond_true, cond_false, List.cons_append, List.nil_append, List.append_nil]) (fun x => by first | rfl | simp only [ins_self, ins_ne D (show 7 ≠ 10 by decide), upd_self, e10, hA.me, cond_true, cond_false, List.cons_append, List.nil_append, List.append_nil]) (fun x => rfl) (OpR.appendM (m := [a0]) e_arena_Span 1 hx12 rfl rfl rfl rfl rfl rfl rfl rfl rfl (fun _ => rfl))
   iterate 2 refine aC ?_
   refine OpsS.cons' true ?_ (fun _ _ _ _ _ _ _ => rfl) ?_
   · intro D env11 hA
     have e7 : D 7 = true := hA.yes 7 _ rfl rfl
     exact OpS.yes (o0 := [.var b0 [.val v1, .val (.int .i64 (w64 (a1 + a0.fN)))] 46, .row (env11 7) (List.map e_arena_Span x12) 2 48]) (o1 := fun x => [.var b0 [.val (env11 7), .val (.int .i64 (w64 (a1 + a0.fN)))] 46, .row (env11 7) (List.map e_arena_Span x12) 2 48]) (d := fun x => .dead) (Want.plain rfl) (by first | rfl | simp only [e7, hA.me, cond_true, cond_false, List.cons_append, List.nil_append, List.append_nil]) (fun x => by first | rfl | simp only [ins_self, ins_ne D (show 10 ≠ 7 by decide), upd_self, upd_ne env11 x (show 10 ≠ 7 by decide), e7, hA.me, cond_true, cond_false, List.cons_append, List.nil_append, List.append_nil]) (fun x => rfl) (OpR.store 0 rfl rfl rfl rfl rfl rfl rfl rfl)
   exact trivial
 rcases ite_some ht3 with ⟨c5, ht3⟩ | ⟨c5, ht3⟩
 rotate_left
 · refine T.condF rfl (decide_eq_false c5) ?_
   refine T.skip ?_
   obtain rfl := Option.some.inj ht3
   exact ⟨_, Gst.only [0, 3] rfl, _, rfl, rfl⟩
 refine T.condT rfl (decide_eq_true c5) ?_
 refine T.seq ?_
 obtain ⟨x7, hx7, ht3⟩ := bnd_some ht3
 obtain ⟨x8, hx8, ht3⟩ := bnd_some ht3
 refine T.drawS drawsX (fun env6 => [.val (.pointer (some ⟨b0, 0, none⟩)), .val (.pointer (some ⟨b0, 0, none⟩)), .val (.pointer (some ⟨b0, 0, none⟩)), .val v1, .val (.int .i64 (w64 ((a2.length : Int) - 1))), .val (.pointer (some ⟨blk v1, (w64 ((a2.length : Int) - 1)).toNat * 2, none⟩)), .agg [.val (.int .i64 x7.fAt), .val (.int .i64 x7.fN)], .agg [.val (.int .i64 a0.fAt), .val (.int .i64 a0.fN)], .tup [.agg [.val (.int .i64 x8.1.fAt), .val (.int .i64 x8.1.fN)], .val (.bool x8.2)], .tup [.agg [.val (.int .i64 x8.1.fAt), .val (.int .i64 x8.1.fN)], .val (.bool x8.2)], .agg [.val (.int .i64 x8.1.fAt), .val (.int .i64 x8.1.fN)], .val (.bool x8.2), .val (.pointer (some ⟨(blk (env6 12)), 0, none⟩)), .dead, .val (.bool x8.2)]) (fun D env6 => [.var b0 [.val v1, .val (.int .i64 (w64 (a1 + a0.fN)))] 46, .row v1 (List.map e_arena_Span a2) 2 48] ++ (bif D 12 then [(bif D 13 then .var (blk (env6 12)) [.val (.int .i64 x8.1.fAt), .val (.int .i64 x8.1.fN)] 48 else .var (blk (env6 12)) [.val (.int .i64 0), .val (.int .i64 0)] 48)] else [])) [0, 1, 3, 7, 0, 31, 63, 0, 255, 511, 1023, 1023, 0, 6143, 16383] [0, 3, 4, 5, 6] (fun env6 => [.var b0 [.val v1, .val (.int .i64 (w64 (a1 + a0.fN)))] 46, .row v1 (List.map e_arena_Span a2) 2 48, .var (blk (env6 12)) [.val (.int .i64 x8.1.fAt), .val (.int .i64 x8.1.fN)] 48]) (by decide +kernel) (by decide +kernel) (fun _ => rfl) (fun _ => rfl) ?_ (fun _ => rfl) (fun _ => rfl) ?_
 · iterate 3 refine aC ?_
   refine oS (d := .val v1) (fun _ => Want.plain rfl) (fun _ => rfl) (fun _ _ _ => rfl) (fun _ _ => OpR.loadPtr 0 rfl rfl rfl rfl) (fun _ _ _ _ _ _ _ => rfl) ?_
   refine aC ?_
   refine oS (d := .val (.pointer (some ⟨blk v1, (w64 ((a2.length : Int) - 1)).toNat * 2, none⟩))) (fun _ => Want.plain rfl) (fun _ => rfl) (fun _ _ _ => rfl) (fun _ _ => OpR.rowIndexM e_arena_Span 1 hx7 rfl rfl rfl rfl rfl rfl rfl) (fun _ _ _ _ _ _ _ => rfl) ?_
   refine oS (d := .agg [.val (.int .i64 x7.fAt), .val (.int .i64 x7.fN)]) (fun _ => Want.plain rfl) (fun _ => rfl) (fun _ _ _ => rfl) (fun _ _ => OpR.rowLoad0M (j := w64 ((a2.length : Int) - 1)) e_arena_Span 1 hx7 rfl rfl rfl rfl) (fun _ _ _ _ _ _ _ => rfl) ?_
   refine aC ?_
   refine oS (d := .tup [.agg [.val (.int .i64 x8.1.fAt), .val (.int .i64 x8.1.fN)], .val (.bool x8.2)]) (fun _ => Want.plain rfl) (fun _ => rfl) (fun _ _ _ => rfl) (fun _ _ => OpR.call0 fn92 (arena_Join_c hx8) rfl) (fun _ _ _ _ _ _ _ => rfl) ?_
   iterate 3 refine aC ?_
   refine OpsS.cons' true ?_ (fun D hA env6 x j hj hD => match j, hj, hD with | 0, _, _ => rfl | 1, _, _ => rfl | 2, _, _ => rfl | 3, _, _ => rfl | 4, _, _ => rfl | 5, _, _ => rfl | 6, _, _ => rfl | 7, _, _ => rfl | 8, _, _ => rfl | 9, _, _ => rfl | 10, _, _ => rfl | 11, _, _ => rfl | 12, hj, _ => absurd rfl hj | 13, _, _ => rfl | 14, _, _ => rfl | _ + 15, _, _ => rfl) ?_
   · intro D env6 hA
     have e13 : D 13 = false := hA.no 13 _ rfl rfl
     exact OpS.yes (o0 := [.var b0 [.val v1, .val (.int .i64 (w64 (a1 + a0.fN)))] 46, .row v1 (List.map e_arena_Span a2) 2 48]) (o1 := fun x => [.var b0 [.val v1, .val (.int .i64 (w64 (a1 + a0.fN)))] 46, .row v1 (List.map e_arena_Span a2) 2 48, .var (blk x) [.val (.int .i64 0), .val (.int .i64 0)] 48]) (d := fun x => .val (.pointer (some ⟨(blk x), 0, none⟩))) (Want.plain rfl) (by first | rfl | simp only [e13, hA.me, cond_true, cond_false, List.cons_append, List.nil_append, List.append_nil]) (fun x => by first | rfl | simp only [ins_self, ins_ne D (show 12 ≠ 13 by decide), upd_self, e13, hA.me, cond_true, cond_false, List.cons_append, List.nil_append, List.append_nil]) (fun x => rfl) (OpR.alloc rfl rfl (fun _ => rfl))
   refine OpsS.cons' true ?_ (fun _ _ _ _ _ _ _ => rfl) ?_
   · intro D env6 hA
     have e12 : D 12 = true := hA.yes 12 _ rfl rfl
     exact OpS.yes (o0 := [.var b0 [.val v1, .val (.int .i64 (w64 (a1 + a0.fN)))] 46, .row v1 (List.map e_arena_Span a2) 2 48, .var (blk (env6 12)) [.val (.int .i64 0), .val (.int .i64 0)] 48]) (o1 := fun x => [.var b0 [.val v1, .val (.int .i64 (w64 (a1 + a0.fN)))] 46, .row v1 (List.map e_arena_Span a2) 2 48, .var (blk (env6 12)) [.val (.int .i64 x8.1.fAt), .val (.int .i64 x8.1.fN)] 48]) (d := fun x => .dead) (Want.plain rfl) (by first | rfl | simp only [e12, hA.me, cond_true, cond_false, List.cons_append, List.nil_append, List.append_nil]) (fun x => by first | rfl | simp only [ins_self, ins_ne D (show 13 ≠ 12 by decide), upd_self, upd_ne env6 x (show 13 ≠ 12 by decide), e12, hA.me, cond_true, cond_false, List.cons_append, List.nil_append, List.append_nil]) (fun x => rfl) (OpR.store 2 rfl rfl rfl rfl rfl rfl rfl rfl)
   refine aC ?_
   exact trivial
 intro env6
 show T X _ _ _
 refine aS ?_
 refine aA rfl rfl ?_
 refine TL.nil ?_
 show T X _ _ _
 rcases ite_some ht3 with ⟨c9, ht3⟩ | ⟨c9, ht3⟩
 rotate_left
 · refine T.condF rfl (eq_false_of_ne_true c9) ?_
   refine T.skip ?_
   obtain rfl := Option.some.inj ht3
   exact ⟨_, Gst.trans (Gst.only [0, 3] rfl) (Gst.pick [0, 1] rfl rfl), _, rfl, rfl⟩
 refine T.condT rfl (c9) ?_
 refine T.seq ?_
 refine T.drawS drawsX (fun env10 => [.val (.pointer (some ⟨b0, 0, none⟩)), .val (.pointer (some ⟨b0, 0, none⟩)), .val (.pointer (some ⟨b0, 0, none⟩)), .val v1, .val (.int .i64 (w64 ((a2.length : Int) - 1))), .agg [.val (.int .i64 x8.1.fAt), .val (.int .i64 x8.1.fN)], .val (.pointer (some ⟨blk v1, (w64 ((a2.length : Int) - 1)).toNat * 2, none⟩)), .dead]) (fun D env10 => [.var b0 [.val v1, .val (.int .i64 (w64 (a1 + a0.fN)))] 46, (bif D 7 then .row v1 (List.map e_arena_Span (a2.set (w64 ((a2.length : Int) - 1)).toNat x8.1)) 2 48 else .row v1 (List.map e_arena_Span a2) 2 48), .var (blk (env6 12)) [.val (.int .i64 x8.1.fAt), .val (.int .i64 x8.1.fN)] 48]) [0, 1, 3, 7, 0, 0, 63, 127] [0, 3] (fun env10 => [.var b0 [.val v1, .val (.int .i64 (w64 (a1 + a0.fN)))] 46, .row v1 (List.map e_arena_Span (a2.set (w64 ((a2.length : Int) - 1)).toNat x8.1)) 2 48, .var (blk (env6 12)) [.val (.int .i64 x8.1.fAt), .val (.int .i64 x8.1.fN)] 48]) (by decide +kernel) (by decide +kernel) (fun _ => rfl) (fun _ => rfl) ?_ (fun _ => rfl) (fun _ => rfl) ?_
 rotate_left
 · intro env10
   show T X _ _ _
   refine T.ret ?_
   obtain rfl := Option.some.inj ht3
   obtain rfl := Option.some.inj h0
   exact PostG.retP (ks := [0, 1]) (Gst.trans (Gst.only [] rfl) (Gst.pick [0, 1] rfl rfl)) (.tuple #[v1]) ResL.nil rfl rfl rfl rfl
 iterate 3 refine aC ?_
 refine oS (d := .val v1) (fun _ => Want.plain rfl) (fun _ => rfl) (fun _ _ _ => rfl) (fun _ _ => OpR.loadPtr 0 rfl rfl rfl rfl) (fun _ _ _ _ _ _ _ => rfl) ?_
 refine aC ?_
 refine oS (d := .agg [.val (.int .i64 x8.1.fAt), .val (.int .i64 x8.1.fN)]) (fun _ => Want.plain rfl) (fun _ => rfl) (fun _ _ _ => rfl) (fun _ _ => OpR.loadPtr 2 rfl rfl rfl rfl) (fun _ _ _ _ _ _ _ => rfl) ?_
 refine OpsS.cons' true ?_ (fun _ _ _ _ _ _ _ => rfl) ?_
 · intro D env10 hA
   have e7 : D 7 = false := hA.no 7 _ rfl rfl
   exact OpS.yes (o0 := [.var b0 [.val v1, .val (.int .i64 (w64 (a1 + a0.fN)))] 46, .row v1 (List.map e_arena_Span a2) 2 48, .var (blk (env6 12)) [.val (.int .i64 x8.1.fAt), .val (.int .i64 x8.1.fN)] 48]) (o1 := fun x => [.var b0 [.val v1, .val (.int .i64 (w64 (a1 + a0.fN)))] 46, .row v1 (List.map e_arena_Span a2) 2 48, .var (blk (env6 12)) [.val (.int .i64 x8.1.fAt), .val (.int .i64 x8.1.fN)] 48]) (d := fun x => .val (.pointer (some ⟨blk v1, (w64 ((a2.length : Int) - 1)).toNat * 2, none⟩))) (Want.plain rfl) (by first | rfl | simp only [e7, cond_true, cond_false, List.cons_append, List.nil_append, List.append_nil]) (fun x => by first | rfl | simp only [ins_self, ins_ne D (show 6 ≠ 7 by decide), upd_self, e7, cond_true, cond_false, List.cons_append, List.nil_append, List.append_nil]) (fun x => rfl) (OpR.rowIndexM e_arena_Span 1 hx7 rfl rfl rfl rfl rfl rfl rfl)
 refine OpsS.cons' true ?_ (fun _ _ _ _ _ _ _ => rfl) ?_
 · intro D env10 hA
   exact OpS.yes (o0 := [.var b0 [.val v1, .val (.int .i64 (w64 (a1 + a0.fN)))] 46, .row v1 (List.map e_arena_Span a2) 2 48, .var (blk (env6 12)) [.val (.int .i64 x8.1.fAt), .val (.int .i64 x8.1.fN)] 48]) (o1 := fun x => [.var b0 [.val v1, .val (.int .i64 (w64 (a1 + a0.fN)))] 46, .row v1 (List.map e_arena_Span (a2.set (w64 ((a2.length : Int) - 1)).toNat x8.1)) 2 48, .var (blk (env6 12)) [.val (.int .i64 x8.1.fAt), .val (.int .i64 x8.1.fN)] 48]) (d := fun x => .dead) (Want.plain rfl) (by first | rfl | simp only [hA.me, cond_true, cond_false, List.cons_append, List.nil_append, List.append_nil]) (fun x => by first | rfl | simp only [ins_self, upd_self, hA.me, cond_true, cond_false, List.cons_append, List.nil_append, List.append_nil]) (fun x => rfl) (OpR.rowStore0M (j := w64 ((a2.length : Int) - 1)) e_arena_Span x8.1 1 hx7 rfl rfl rfl rfl rfl rfl rfl rfl rfl)
 exact trivial
noncomputable def piece_Of.l1 (a0 : List arena_Span) (s6 : Int × Int × (List arena_Span)) : Option (Lp (Int × Int × (List arena_Span)) (Int × (List arena_Span))) :=
  if s6.1 < (a0.length : Int) then
    bnd (idx a0 s6.1) fun x15 =>
    bnd (piece_Text_with_2 x15 s6.2.1 s6.2.2) fun x17 =>
    some (Lp.next (w64 (s6.1 + 1), x17.1, x17.2))
  else
    some (Lp.done (s6.2.1, s6.2.2))
noncomputable def piece_Of (a0 : List arena_Span) : Option piece_Text :=
  bnd (loop (piece_Of.l1 a0) (0, 0, []) : Option (Int × (List arena_Span))) fun t3 =>
  some (⟨t3.2, t3.1⟩ : piece_Text)
set_option maxHeartbeats 4000000 in
theorem piece_Of_c {a0 : List arena_Span} {res : piece_Text} (h0 : piece_Of a0 = some res) : CallF X 73 [.sl 2 (List.map e_arena_Span a0)] [] (fun x => .agg [.sl 2 (List.map e_arena_Span res.fL), .val (.int .i64 res.fN)]) (fun x => []) := by
 unfold piece_Of at h0
 refine CallF.mkG (X := X) rfl Try.func73 rfl rfl Try.ntmps73 rfl rfl ?_
 refine aS ?_
 refine TL.op (OpR.alloc rfl rfl (fun _ => rfl)) rfl (fun p1 => ?_)
 refine TL.nil ?_
 show T X _ _ _
 refine aS ?_
 refine TL.op (OpR.alloc rfl rfl (fun _ => rfl)) rfl (fun p2 => ?_)
 refine TL.nil ?_
 show T X _ _ _
 refine T.seq ?_
 refine aS ?_
 refine aA rfl rfl ?_
 refine TL.op1 (OpR.cast (OpR.pure rfl) (intE (lenM _ _))) rfl ?_
 refine aA rfl rfl ?_
 refine TL.nil ?_
 show T X _ _ _
 obtain ⟨t3, ht3, h0⟩ := bnd_some h0
 refine T.cutC (fun S' => ∃ y4 : Value, S' = ⟨[(3, .val (.pointer (some ⟨(blk p2), 0, none⟩))), (2, .val (.pointer (some ⟨(blk p1), 0, none⟩)))], [.var (blk p1) [.val (.slice none 0 0), .val (.int .i64 0)] 46, .var (blk p2) [.val y4, .val (.int .i64 t3.1)] 46, .row y4 (List.map e_arena_Span t3.2) 2 48], 16⟩) (fun _ h => h) ?_ ?_
 rotate_left
 · rintro _ ⟨y4, rfl⟩
   show T X _ _ _
   refine aS ?_
   refine TL.op1 (OpR.loadPtr 1 rfl rfl rfl rfl) rfl ?_
   refine TL.op0 (OpR.store 0 rfl rfl rfl rfl rfl rfl rfl rfl) ?_
   refine TL.nil ?_
   show T X _ _ _
   refine T.ret ?_
   obtain rfl := Option.some.inj h0
   exact PostG.retP (ks := []) (Gst.trans (Gst.only [2] rfl) (Gst.trans (Gst.freezeRow 2 rfl rfl (ReS.cons Re.refl ReS.nil) (ReO.var (ReL.cons (Re.base .all) (ReL.cons Re.refl ReL.nil)) (ReO.var (ReL.cons (Re.base .all) (ReL.cons Re.refl ReL.nil)) (ReO.same ReO.nil)))) (Gst.pick [0] rfl rfl))) undef (ResL.cons (ResV.var 0 rfl rfl rfl rfl) ResL.nil) rfl rfl rfl rfl
 refine T.block ?_
 obtain ⟨n7, n12⟩ := loop_some ht3
 refine T.loop (fun n S' => ∃ S'', Gst S' S'' ∧ ∃ y5 : Value, ∃ s6 : Int × Int × (List arena_Span), S'' = ⟨[(8, .val (.int .i64 s6.1)), (7, .val (.int .i64 (a0.length : Int))), (6, .sl 2 (List.map e_arena_Span a0)), (3, .val (.pointer (some ⟨(blk p2), 0, none⟩))), (2, .val (.pointer (some ⟨(blk p1), 0, none⟩)))], [.var (blk p1) [.val (.slice none 0 0), .val (.int .i64 0)] 46, .var (blk p2) [.val y5, .val (.int .i64 s6.2.1)] 46, .row y5 (List.map e_arena_Span s6.2.2) 2 48], 16⟩ ∧ iter (piece_Of.l1 a0) n s6 = some t3) n7 ?_ ?_
 · exact ⟨_, Gst.trans (Gst.only [2, 3, 6, 7, 8] rfl) (Gst.nilRow (ow := [.var (blk p1) [.val (.slice none 0 0), .val (.int .i64 0)] 46, .var (blk p2) [.val (.slice none 0 0), .val (.int .i64 0)] 46]) 2 48 rfl), (.slice none 0 0), (0, 0, []), rfl, n12⟩
 rintro n7 _ ⟨_, g, y5, s6, rfl, i11⟩
 refine T.ghost g ?_
 obtain ⟨m8, q9, rfl, q10, i11⟩ := iter_succ i11
 unfold piece_Of.l1 at q10
 refine aS ?_
 refine aA rfl rfl ?_
 refine TL.nil ?_
 show T X _ _ _
 refine T.seq ?_
 rcases ite_some q10 with ⟨c14, q10⟩ | ⟨c14, q10⟩
 rotate_left
 · refine T.condF rfl (decide_eq_false c14) ?_
   refine T.exit ?_
   obtain rfl := Option.some.inj q10
   obtain rfl : _ = _ := i11
   exact ⟨_, Gst.only [2, 3] rfl, y5, rfl⟩
 refine T.condT rfl (decide_eq_true c14) ?_
 refine T.skip ?_
 show T X _ _ _
 refine T.seq ?_
 refine T.block ?_
 refine aS ?_
 obtain ⟨x15, hx15, q10⟩ := bnd_some q10
 refine TL.op1 (OpR.indexM e_arena_Span hx15 rfl rfl rfl rfl rfl) rfl ?_
 refine aA rfl rfl ?_
 refine TL.op (OpR.alloc rfl rfl (fun _ => rfl)) rfl (fun p16 => ?_)
 refine TL.op0 (OpR.store 3 rfl rfl rfl rfl rfl rfl rfl rfl) ?_
 refine TL.nil ?_
 show T X _ _ _
 refine T.region ?_
 refine TL.op1 (OpR.loadPtr 3 rfl rfl rfl rfl) rfl ?_
 obtain ⟨x17, hx17, q10⟩ := bnd_some q10
 refine TL.op (OpR.call [1, 2] fn81 (piece_Text_with_2_c hx17) rfl rfl rfl (fun _ => rfl)) rfl (fun w18 => ?_)
 refine TL.nil ?_
 show T X _ _ _
 refine T.region ?_
 iterate 2 refine aA rfl rfl ?_
 refine TL.nil ?_
 obtain rfl := Option.some.inj q10
 exact ⟨m8, Nat.lt_succ_self _, _, Gst.trans (Gst.only [2, 3, 6, 7, 8] rfl) (Gst.pick [0, 1, 2] rfl rfl), (vn w18 0), (w64 (s6.1 + 1), x17.1, x17.2), rfl, i11⟩
noncomputable def cell_Load (a0 : scan_Field) : Option cell_Cell :=
  bnd (piece_Of a0.fParts) fun x3 =>
  some (⟨x3, a0.fRaw, true⟩ : cell_Cell)
set_option maxHeartbeats 4000000 in
theorem cell_Load_c {a0 : scan_Field} {res : cell_Cell} (h0 : cell_Load a0 = some res) : CallF X 54 [.agg [.val (.int .i64 a0.fRaw.fAt), .val (.int .i64 a0.fRaw.fN), .val (.int .i64 a0.fKind), .sl 2 (List.map e_arena_Span a0.fParts)]] [] (fun x => .agg [.sl 2 (List.map e_arena_Span res.fText.fL), .val (.int .i64 res.fText.fN), .val (.int .i64 res.fRaw.fAt), .val (.int .i64 res.fRaw.fN), .val (.bool res.fKept)]) (fun x => []) := by
 unfold cell_Load at h0
 refine CallF.mkG (X := X) rfl Try.func54 rfl rfl Try.ntmps54 rfl rfl ?_
 refine aS ?_
 refine TL.op1 (OpR.boxImm rfl rfl) rfl ?_
 refine TL.op (OpR.alloc rfl rfl (fun _ => rfl)) rfl (fun p1 => ?_)
 refine TL.nil ?_
 show T X _ _ _
 refine T.seq ?_
 obtain ⟨x3, hx3, h0⟩ := bnd_some h0
 refine T.drawS drawsX (fun env2 => [.nod [.sl 2 (List.map e_arena_Span a0.fParts)], .sl 2 (List.map e_arena_Span a0.fParts), .agg [.sl 2 (List.map e_arena_Span x3.fL), .val (.int .i64 x3.fN)], .nod [.val (.int .i64 a0.fRaw.fAt), .val (.int .i64 a0.fRaw.fN), .val (.int .i64 a0.fKind), .sl 2 (List.map e_arena_Span a0.fParts)], .agg [.val (.int .i64 a0.fRaw.fAt), .val (.int .i64 a0.fRaw.fN)], .agg [.sl 2 (List.map e_arena_Span x3.fL), .val (.int .i64 x3.fN), .val (.int .i64 a0.fRaw.fAt), .val (.int .i64 a0.fRaw.fN), .val (.bool true)], .dead]) (fun D env2 => [(bif D 6 then .var (blk p1) [.sl 2 (List.map e_arena_Span x3.fL), .val (.int .i64 x3.fN), .val (.int .i64 a0.fRaw.fAt), .val (.int .i64 a0.fRaw.fN), .val (.bool true)] 50 else .var (blk p1) [.val (.slice none 0 0), .val (.int .i64 0), .val (.int .i64 0), .val (.int .i64 0), .val (.bool false)] 50)]) [0, 1, 3, 0, 8, 31, 63] [2] (fun env2 => [.var (blk p1) [.sl 2 (List.map e_arena_Span x3.fL), .val (.int .i64 x3.fN), .val (.int .i64 a0.fRaw.fAt), .val (.int .i64 a0.fRaw.fN), .val (.bool true)] 50]) (by decide +kernel) (by decide +kernel) (fun _ => rfl) (fun _ => rfl) ?_ (fun _ => rfl) (fun _ => rfl) ?_
 rotate_left
 · intro env2
   show T X _ _ _
   refine T.ret ?_
   obtain rfl := Option.some.inj h0
   exact PostG.retP (ks := []) (Gst.only [2] rfl) undef (ResL.cons (ResV.var 0 rfl rfl rfl rfl) ResL.nil) rfl rfl rfl rfl
 iterate 2 refine aC ?_
 refine oS (d := .agg [.sl 2 (List.map e_arena_Span x3.fL), .val (.int .i64 x3.fN)]) (fun _ => Want.plain rfl) (fun _ => rfl) (fun _ _ _ => rfl) (fun _ _ => OpR.call0 fn73 (piece_Of_c hx3) rfl) (fun _ _ _ _ _ _ _ => rfl) ?_
 iterate 2 refine aC ?_
 refine oS (d := .agg [.sl 2 (List.map e_arena_Span x3.fL), .val (.int .i64 x3.fN), .val (.int .i64 a0.fRaw.fAt), .val (.int .i64 a0.fRaw.fN), .val (.bool true)]) (fun _ => Want.plain rfl) (fun _ => rfl) (fun _ _ _ => rfl) (fun _ _ => OpR.build rfl rfl rfl rfl rfl) (fun _ _ _ _ _ _ _ => rfl) ?_
 refine OpsS.cons' true ?_ (fun _ _ _ _ _ _ _ => rfl) ?_
 · intro D env2 hA
   exact OpS.yes (o0 := [.var (blk p1) [.val (.slice none 0 0), .val (.int .i64 0), .val (.int .i64 0), .val (.int .i64 0), .val (.bool false)] 50]) (o1 := fun x => [.var (blk p1) [.sl 2 (List.map e_arena_Span x3.fL), .val (.int .i64 x3.fN), .val (.int .i64 a0.fRaw.fAt), .val (.int .i64 a0.fRaw.fN), .val (.bool true)] 50]) (d := fun x => .dead) (Want.plain rfl) (by first | rfl | simp only [hA.me, cond_true, cond_false, List.cons_append, List.nil_append, List.append_nil]) (fun x => by first | rfl | simp only [ins_self, upd_self, hA.me, cond_true, cond_false, List.cons_append, List.nil_append, List.append_nil]) (fun x => rfl) (OpR.store 0 rfl rfl rfl rfl rfl rfl rfl rfl)
 exact trivial
noncomputable def piece_Text_Len (a0 : piece_Text) : Option Int :=
  some a0.fN
set_option maxHeartbeats 4000000 in
theorem piece_Text_Len_c {a0 : piece_Text} {res : Int} (h0 : piece_Text_Len a0 = some res) : CallF X 55 [.agg [.sl 2 (List.map e_arena_Span a0.fL), .val (.int .i64 a0.fN)]] [] (fun x => .val (.int .i64 res)) (fun x => []) := by
 unfold piece_Text_Len at h0
 refine CallF.mkG (X := X) rfl Try.func55 rfl rfl Try.ntmps55 rfl rfl ?_
 refine aS ?_
 refine TL.op1 (OpR.boxImm rfl rfl) rfl ?_
 refine aA rfl rfl ?_
 refine TL.nil ?_
 show T X _ _ _
 refine aS ?_
 iterate 3 refine aA rfl rfl ?_
 refine TL.nil ?_
 show T X _ _ _
 refine T.ret ?_
 obtain rfl := Option.some.inj h0
 exact PostG.retP (ks := []) (Gst.only [2] rfl) undef (ResL.cons (ResV.tmp rfl) ResL.nil) rfl rfl rfl rfl
noncomputable def row_Load.l1 (a0 : scan_Row) (s7 : Int × (List cell_Cell)) : Option (Lp (Int × (List cell_Cell)) (Ex (List cell_Cell) (row_Row × Int))) :=
  if s7.1 < (a0.fFields.length : Int) then
    bnd (idx a0.fFields s7.1) fun x16 =>
    bnd (cell_Load x16) fun x19 =>
    bnd (idx s7.2 s7.1) fun x20 =>
    bnd (idx (s7.2.set s7.1.toNat x19) s7.1) fun x21 =>
    bnd (piece_Text_Len x21.fText) fun x22 =>
    if x22 > 400 then
      some (Lp.done (Ex.ret ((⟨[], 0, false⟩ : row_Row), 7)))
    else
      some (Lp.next (w64 (s7.1 + 1), (s7.2.set s7.1.toNat x19)))
  else
    some (Lp.done (Ex.brk s7.2))
noncomputable def row_Load (a0 : scan_Row) : Option (row_Row × Int) :=
  if (a0.fFields.length : Int) > 40 then
    some ((⟨[], 0, false⟩ : row_Row), 6)
  else
    bnd (mkz 56 (a0.fFields.length : Int) ((⟨(⟨[], 0⟩ : piece_Text), (⟨0, 0⟩ : arena_Span), false⟩ : cell_Cell) : cell_Cell)) fun x4 =>
    bnd (loop (row_Load.l1 a0) (0, x4) : Option (Ex (List cell_Cell) (row_Row × Int))) fun t5 => match t5 with
      | .brk u6 =>
        some ((⟨u6, a0.fEnd, false⟩ : row_Row), 0)
      | .ret u6 => some u6
set_option maxHeartbeats 4000000 in
theorem row_Load_c {a0 : scan_Row} {res : row_Row × Int} (h0 : row_Load a0 = some res) : CallF X 25 [.agg [.sl 4 (List.map e_scan_Field a0.fFields), .val (.int .i64 a0.fEnd)]] [] (fun x => .tup [.agg [.sl 5 (List.map e_cell_Cell res.1.fCells), .val (.int .i64 res.1.fEnd), .val (.bool res.1.fHidden)], .val (.int .i64 res.2)]) (fun x => []) := by
 unfold row_Load at h0
 refine CallF.mkG (X := X) rfl Try.func25 rfl rfl Try.ntmps25 rfl rfl ?_
 refine aS ?_
 refine TL.op1 (OpR.boxImm rfl rfl) rfl ?_
 refine TL.op (OpR.alloc rfl rfl (fun _ => rfl)) rfl (fun p1 => ?_)
 refine aA rfl rfl ?_
 refine TL.nil ?_
 show T X _ _ _
 refine T.seq ?_
 refine aS ?_
 iterate 2 refine aA rfl rfl ?_
 refine TL.op1 (OpR.cast (OpR.pure rfl) (intE (lenM _ _))) rfl ?_
 refine aA rfl rfl ?_
 refine TL.nil ?_
 show T X _ _ _
 rcases ite_some h0 with ⟨c2, h0⟩ | ⟨c2, h0⟩
 · refine T.condT rfl (decide_eq_true c2) ?_
   refine aS ?_
   refine TL.op1 (OpR.build rfl rfl rfl rfl rfl) rfl ?_
   refine TL.op0 (OpR.store 0 rfl rfl rfl rfl rfl rfl rfl rfl) ?_
   refine aA rfl rfl ?_
   refine TL.nil ?_
   show T X _ _ _
   refine T.ret ?_
   obtain rfl := Option.some.inj h0
   exact PostG.retP (ks := []) (Gst.trans (Gst.only [2, 3] rfl) (Gst.denil (ReS.cons Re.refl (ReS.cons Re.refl ReS.nil)) (ReO.var (ReL.cons (Re.base .nil) (ReL.cons Re.refl (ReL.cons Re.refl ReL.nil))) ReO.nil))) undef (ResL.cons (ResV.var 0 rfl rfl rfl rfl) (ResL.cons (ResV.tmp rfl) ResL.nil)) rfl rfl rfl rfl
 refine T.condF rfl (decide_eq_false c2) ?_
 refine T.skip ?_
 show T X _ _ _
 refine T.seq ?_
 obtain ⟨x4, hx4, h0⟩ := bnd_some h0
 refine T.drawS drawsX (fun env3 => [.nod [.sl 4 (List.map e_scan_Field a0.fFields), .val (.int .i64 a0.fEnd)], .sl 4 (List.map e_scan_Field a0.fFields), .val (.int .i64 (a0.fFields.length : Int)), .val (env3 3), .nod [.val (.int .i64 a0.fEnd)], .val (.int .i64 a0.fEnd), .agg [.val (env3 3), .val (.int .i64 a0.fEnd), .val (.bool false)], .val (.pointer (some ⟨(blk (env3 7)), 0, none⟩)), .dead]) (fun D env3 => [.var (blk p1) [.val (.slice none 0 0), .val (.int .i64 0), .val (.bool false)] 68] ++ (bif D 3 then [.row (env3 3) (List.map e_cell_Cell x4) 5 50] else []) ++ (bif D 7 then [(bif D 8 then .var (blk (env3 7)) [.val (env3 3), .val (.int .i64 a0.fEnd), .val (.bool false)] 68 else .var (blk (env3 7)) [.val (.slice none 0 0), .val (.int .i64 0), .val (.bool false)] 68)] else [])) [0, 1, 3, 7, 0, 16, 63, 0, 255] [1, 2, 3, 4] (fun env3 => [.var (blk p1) [.val (.slice none 0 0), .val (.int .i64 0), .val (.bool false)] 68, .row (env3 3) (List.map e_cell_Cell x4) 5 50, .var (blk (env3 7)) [.val (env3 3), .val (.int .i64 a0.fEnd), .val (.bool false)] 68]) (by decide +kernel) (by decide +kernel) (fun _ => rfl) (fun _ => rfl) ?_ (fun _ => rfl) (fun _ => rfl) ?_
 · iterate 2 refine aC ?_
   refine oS (d := .val (.int .i64 (a0.fFields.length : Int))) (fun _ => Want.plain rfl) (fun _ => rfl) (fun _ _ _ => rfl) (fun _ _ => OpR.cast (OpR.pure rfl) (intE (lenM _ _))) (fun _ _ _ _ _ _ _ => rfl) ?_
   refine OpsS.cons' true ?_ (fun D hA env3 x j hj hD => match j, hj, hD with | 0, _, _ => rfl | 1, _, _ => rfl | 2, _, _ => rfl | 3, hj, _ => absurd rfl hj | 4, _, _ => rfl | 5, _, _ => rfl | 6, _, hD => absurd hD (by rw [hA.no 6 _ rfl rfl]; decide) | 7, _, _ => rfl | 8, _, _ => rfl | _ + 9, _, _ => rfl) ?_
   · intro D env3 hA
     have e8 : D 8 = false := hA.no 8 _ rfl rfl
     rcases Bool.eq_false_or_eq_true (D 7) with e7 | e7
     rotate_left
     · exact OpS.yes (o0 := [.var (blk p1) [.val (.slice none 0 0), .val (.int .i64 0), .val (.bool false)] 68]) (o1 := fun x => [.var (blk p1) [.val (.slice none 0 0), .val (.int .i64 0), .val (.bool false)] 68, .row x (List.map e_cell_Cell x4) 5 50]) (d := fun x => .val x) (Want.plain rfl) (by first | rfl | simp only [e8, e7, hA.me, cond_true, cond_false, List.cons_append, List.nil_append, List.append_nil]) (fun x => by first | rfl | simp only [ins_self, ins_ne D (show 3 ≠ 7 by decide), ins_ne D (show 3 ≠ 8 by decide), upd_self, upd_ne env3 x (show 3 ≠ 7 by decide), e8, e7, hA.me, cond_true, cond_false, List.cons_append, List.nil_append, List.append_nil]) (fun x => rfl) (OpR.makeN e_cell_Cell hx4 rfl rfl rfl rfl rfl rfl rfl rfl rfl rfl (ReL.cons (Re.base .nil) (ReL.cons Re.refl (ReL.cons Re.refl (ReL.cons Re.refl (ReL.cons Re.refl ReL.nil))))) rfl (fun _ => rfl))
     exact OpS.yes (o0 := [.var (blk p1) [.val (.slice none 0 0), .val (.int .i64 0), .val (.bool false)] 68, .var (blk (env3 7)) [.val (.slice none 0 0), .val (.int .i64 0), .val (.bool false)] 68]) (o1 := fun x => [.var (blk p1) [.val (.slice none 0 0), .val (.int .i64 0), .val (.bool false)] 68, .row x (List.map e_cell_Cell x4) 5 50, .var (blk (env3 7)) [.val (.slice none 0 0), .val (.int .i64 0), .val (.bool false)] 68]) (d := fun x => .val x) (Want.plain rfl) (by first | rfl | simp only [e8, e7, hA.me, cond_true, cond_false, List.cons_append, List.nil_append, List.append_nil]) (fun x => by first | rfl | simp only [ins_self, ins_ne D (show 3 ≠ 7 by decide), ins_ne D (show 3 ≠ 8 by decide), upd_self, upd_ne env3 x (show 3 ≠ 7 by decide), e8, e7, hA.me, cond_true, cond_false, List.cons_append, List.nil_append, List.append_nil]) (fun x => rfl) (OpR.pick [0, 2, 1] (OpR.makeN e_cell_Cell hx4 rfl rfl rfl rfl rfl rfl rfl rfl rfl rfl (ReL.cons (Re.base .nil) (ReL.cons Re.refl (ReL.cons Re.refl (ReL.cons Re.refl (ReL.cons Re.refl ReL.nil))))) rfl (fun _ => rfl)) (fun _ => rfl) rfl)
   iterate 2 refine aC ?_
   refine OpsS.cons' true (fun D env3 hA => OpS.same (d := .agg [.val (env3 3), .val (.int .i64 a0.fEnd), .val (.bool false)]) (Want.plain rfl) (fun x => rfl) (fun x => rfl) (OpR.build rfl rfl rfl rfl rfl)) (fun _ _ _ _ _ _ _ => rfl) ?_
   refine OpsS.cons' true ?_ (fun D hA env3 x j hj hD => match j, hj, hD with | 0, _, _ => rfl | 1, _, _ => rfl | 2, _, _ => rfl | 3, _, _ => rfl | 4, _, _ => rfl | 5, _, _ => rfl | 6, _, _ => rfl | 7, hj, _ => absurd rfl hj | 8, _, _ => rfl | _ + 9, _, _ => rfl) ?_
   · intro D env3 hA
     have e8 : D 8 = false := hA.no 8 _ rfl rfl
     rcases Bool.eq_false_or_eq_true (D 3) with e3 | e3
     rotate_left
     · exact OpS.yes (o0 := [.var (blk p1) [.val (.slice none 0 0), .val (.int .i64 0), .val (.bool false)] 68]) (o1 := fun x => [.var (blk p1) [.val (.slice none 0 0), .val (.int .i64 0), .val (.bool false)] 68, .var (blk x) [.val (.slice none 0 0), .val (.int .i64 0), .val (.bool false)] 68]) (d := fun x => .val (.pointer (some ⟨(blk x), 0, none⟩))) (Want.plain rfl) (by first | rfl | simp only [e8, e3, hA.me, cond_true, cond_false, List.cons_append, List.nil_append, List.append_nil]) (fun x => by first | rfl | simp only [ins_self, ins_ne D (show 7 ≠ 3 by decide), ins_ne D (show 7 ≠ 8 by decide), upd_self, upd_ne env3 x (show 7 ≠ 3 by decide), e8, e3, hA.me, cond_true, cond_false, List.cons_append, List.nil_append, List.append_nil]) (fun x => rfl) (OpR.alloc rfl rfl (fun _ => rfl))
     exact OpS.yes (o0 := [.var (blk p1) [.val (.slice none 0 0), .val (.int .i64 0), .val (.bool false)] 68, .row (env3 3) (List.map e_cell_Cell x4) 5 50]) (o1 := fun x => [.var (blk p1) [.val (.slice none 0 0), .val (.int .i64 0), .val (.bool false)] 68, .row (env3 3) (List.map e_cell_Cell x4) 5 50, .var (blk x) [.val (.slice none 0 0), .val (.int .i64 0), .val (.bool false)] 68]) (d := fun x => .val (.pointer (some ⟨(blk x), 0, none⟩))) (Want.plain rfl) (by first | rfl | simp only [e8, e3, hA.me, cond_true, cond_false, List.cons_append, List.nil_append, List.append_nil]) (fun x => by first | rfl | simp only [ins_self, ins_ne D (show 7 ≠ 3 by decide), ins_ne D (show 7 ≠ 8 by decide), upd_self, upd_ne env3 x (show 7 ≠ 3 by decide), e8, e3, hA.me, cond_true, cond_false, List.cons_append, List.nil_append, List.append_nil]) (fun x => rfl) (OpR.alloc rfl rfl (fun _ => rfl))
   refine OpsS.cons' true ?_ (fun _ _ _ _ _ _ _ => rfl) ?_
   · intro D env3 hA
     have e3 : D 3 = true := hA.yes 3 _ rfl rfl
     have e7 : D 7 = true := hA.yes 7 _ rfl rfl
     exact OpS.yes (o0 := [.var (blk p1) [.val (.slice none 0 0), .val (.int .i64 0), .val (.bool false)] 68, .row (env3 3) (List.map e_cell_Cell x4) 5 50, .var (blk (env3 7)) [.val (.slice none 0 0), .val (.int .i64 0), .val (.bool false)] 68]) (o1 := fun x => [.var (blk p1) [.val (.slice none 0 0), .val (.int .i64 0), .val (.bool false)] 68, .row (env3 3) (List.map e_cell_Cell x4) 5 50, .var (blk (env3 7)) [.val (env3 3), .val (.int .i64 a0.fEnd), .val (.bool false)] 68]) (d := fun x => .dead) (Want.plain rfl) (by first | rfl | simp only [e3, e7, hA.me, cond_true, cond_false, List.cons_append, List.nil_append, List.append_nil]) (fun x => by first | rfl | simp only [ins_self, ins_ne D (show 8 ≠ 3 by decide), ins_ne D (show 8 ≠ 7 by decide), upd_self, upd_ne env3 x (show 8 ≠ 3 by decide), upd_ne env3 x (show 8 ≠ 7 by decide), e3, e7, hA.me, cond_true, cond_false, List.cons_append, List.nil_append, List.append_nil]) (fun x => rfl) (OpR.store 2 rfl rfl rfl rfl rfl rfl rfl rfl)
   exact trivial
 intro env3
 show T X _ _ _
 refine T.seq ?_
 refine aS ?_
 iterate 2 refine aA rfl rfl ?_
 refine TL.op1 (OpR.cast (OpR.pure rfl) (intE (lenM _ _))) rfl ?_
 refine aA rfl rfl ?_
 refine TL.nil ?_
 show T X _ _ _
 obtain ⟨t5, ht5, h0⟩ := bnd_some h0
 refine T.cutC (fun S' => ∃ u6, t5 = Ex.brk u6 ∧ S' = ⟨[(4, .val (.pointer (some ⟨(blk (env3 7)), 0, none⟩))), (3, .val (.int .i64 0)), (2, .val (.pointer (some ⟨(blk p1), 0, none⟩)))], [.var (blk p1) [.val (.slice none 0 0), .val (.int .i64 0), .val (.bool false)] 68, .var (blk (env3 7)) [.val (env3 3), .val (.int .i64 a0.fEnd), .val (.bool false)] 68, .row (env3 3) (List.map e_cell_Cell u6) 5 50], 44⟩) (fun _ h => h) ?_ ?_
 rotate_left
 · rintro _ ⟨u6, rfl, rfl⟩
   show T X _ _ _
   refine aS ?_
   refine TL.op1 (OpR.loadPtr 1 rfl rfl rfl rfl) rfl ?_
   refine TL.op0 (OpR.store 0 rfl rfl rfl rfl rfl rfl rfl rfl) ?_
   refine aA rfl rfl ?_
   refine TL.nil ?_
   show T X _ _ _
   refine T.ret ?_
   obtain rfl := Option.some.inj h0
   exact PostG.retP (ks := []) (Gst.trans (Gst.only [2, 3] rfl) (Gst.trans (Gst.freezeRow 2 rfl rfl (ReS.cons Re.refl (ReS.cons Re.refl ReS.nil)) (ReO.var (ReL.cons (Re.base .all) (ReL.cons Re.refl (ReL.cons Re.refl ReL.nil))) (ReO.var (ReL.cons (Re.base .all) (ReL.cons Re.refl (ReL.cons Re.refl ReL.nil))) (ReO.same ReO.nil)))) (Gst.pick [0] rfl rfl))) undef (ResL.cons (ResV.var 0 rfl rfl rfl rfl) (ResL.cons (ResV.tmp rfl) ResL.nil)) rfl rfl rfl rfl
 refine T.block ?_
 obtain ⟨n8, n13⟩ := loop_some ht5
 refine T.loop (fun n S' => ∃ S'', Gst S' S'' ∧ ∃ s7 : Int × (List cell_Cell), S'' = ⟨[(22, .val (.int .i64 s7.1)), (21, .val (.int .i64 (a0.fFields.length : Int))), (20, .sl 4 (List.map e_scan_Field a0.fFields)), (4, .val (.pointer (some ⟨(blk (env3 7)), 0, none⟩))), (3, .val (.int .i64 0)), (2, .val (.pointer (some ⟨(blk p1), 0, none⟩)))], [.var (blk p1) [.val (.slice none 0 0), .val (.int .i64 0), .val (.bool false)] 68, .var (blk (env3 7)) [.val (env3 3), .val (.int .i64 a0.fEnd), .val (.bool false)] 68, .row (env3 3) (List.map e_cell_Cell s7.2) 5 50], 44⟩ ∧ iter (row_Load.l1 a0) n s7 = some t5) n8 ?_ ?_
 · exact ⟨_, Gst.trans (Gst.only [2, 3, 4, 20, 21, 22] rfl) (Gst.pick [0, 2, 1] rfl rfl), (0, x4), rfl, n13⟩
 rintro n8 _ ⟨_, g, s7, rfl, i12⟩
 refine T.ghost g ?_
 obtain ⟨m9, q10, rfl, q11, i12⟩ := iter_succ i12
 unfold row_Load.l1 at q11
 refine aS ?_
 refine aA rfl rfl ?_
 refine TL.nil ?_
 show T X _ _ _
 refine T.seq ?_
 rcases ite_some q11 with ⟨c15, q11⟩ | ⟨c15, q11⟩
 rotate_left
 · refine T.condF rfl (decide_eq_false c15) ?_
   refine T.exit ?_
   obtain rfl := Option.some.inj q11
   obtain rfl : _ = _ := i12
   exact ⟨_, Gst.only [2, 3, 4] rfl, _, rfl, rfl⟩
 refine T.condT rfl (decide_eq_true c15) ?_
 refine T.skip ?_
 show T X _ _ _
 refine T.seq ?_
 refine T.block ?_
 refine aS ?_
 refine aA rfl rfl ?_
 obtain ⟨x16, hx16, q11⟩ := bnd_some q11
 refine TL.op1 (OpR.indexM e_scan_Field hx16 rfl rfl rfl rfl rfl) rfl ?_
 refine aA rfl rfl ?_
 refine TL.op (OpR.alloc rfl rfl (fun _ => rfl)) rfl (fun p17 => ?_)
 refine aA rfl rfl ?_
 refine TL.op0 (OpR.store 3 rfl rfl rfl rfl rfl rfl rfl rfl) ?_
 refine TL.nil ?_
 show T X _ _ _
 refine T.seq ?_
 obtain ⟨x19, hx19, q11⟩ := bnd_some q11
 obtain ⟨x20, hx20, q11⟩ := bnd_some q11
 refine T.drawS drawsX (fun env18 => [.val (.pointer (some ⟨(blk (env3 7)), 0, none⟩)), .val (env3 3), .val (.int .i64 s7.1), .agg [.val (.int .i64 x16.fRaw.fAt), .val (.int .i64 x16.fRaw.fN), .val (.int .i64 x16.fKind), .sl 2 (List.map e_arena_Span x16.fParts)], .agg [.sl 2 (List.map e_arena_Span x19.fText.fL), .val (.int .i64 x19.fText.fN), .val (.int .i64 x19.fRaw.fAt), .val (.int .i64 x19.fRaw.fN), .val (.bool x19.fKept)], .val (.pointer (some ⟨blk (env3 3), s7.1.toNat * 5, none⟩)), .dead]) (fun D env18 => [.var (blk p1) [.val (.slice none 0 0), .val (.int .i64 0), .val (.bool false)] 68, .var (blk (env3 7)) [.val (env3 3), .val (.int .i64 a0.fEnd), .val (.bool false)] 68, (bif D 6 then .row (env3 3) (List.map e_cell_Cell (s7.2.set s7.1.toNat x19)) 5 50 else .row (env3 3) (List.map e_cell_Cell s7.2) 5 50), .var (blk p17) [.val (.int .i64 x16.fRaw.fAt), .val (.int .i64 x16.fRaw.fN), .val (.int .i64 x16.fKind), .sl 2 (List.map e_arena_Span x16.fParts)] 129]) [0, 1, 0, 0, 8, 31, 63] [2, 3, 4, 5, 20, 21, 22] (fun env18 => [.var (blk p1) [.val (.slice none 0 0), .val (.int .i64 0), .val (.bool false)] 68, .var (blk (env3 7)) [.val (env3 3), .val (.int .i64 a0.fEnd), .val (.bool false)] 68, .row (env3 3) (List.map e_cell_Cell (s7.2.set s7.1.toNat x19)) 5 50, .var (blk p17) [.val (.int .i64 x16.fRaw.fAt), .val (.int .i64 x16.fRaw.fN), .val (.int .i64 x16.fKind), .sl 2 (List.map e_arena_Span x16.fParts)] 129]) (by decide +kernel) (by decide +kernel) (fun _ => rfl) (fun _ => rfl) ?_ (fun _ => rfl) (fun _ => rfl) ?_
 rotate_left
 · intro env18
   show T X _ _ _
   refine aS ?_
   refine aA rfl rfl ?_
   refine TL.op1 (OpR.loadPtr 1 rfl rfl rfl rfl) rfl ?_
   refine aA rfl rfl ?_
   obtain ⟨x21, hx21, q11⟩ := bnd_some q11
   refine TL.op1 (OpR.rowIndexM e_cell_Cell 2 hx21 rfl rfl rfl rfl rfl rfl rfl) rfl ?_
   refine aA rfl rfl ?_
   refine TL.op1 (OpR.rowLoad0M (j := s7.1) e_cell_Cell 2 hx21 rfl rfl rfl rfl) rfl ?_
   obtain ⟨x22, hx22, q11⟩ := bnd_some q11
   refine TL.op1 (OpR.call0 fn55 (piece_Text_Len_c hx22) rfl) rfl ?_
   refine aA rfl rfl ?_
   refine TL.nil ?_
   show T X _ _ _
   rcases ite_some q11 with ⟨c23, q11⟩ | ⟨c23, q11⟩
   rotate_left
   · refine T.condF rfl (decide_eq_false c23) ?_
     refine T.skip ?_
     show T X _ _ _
     refine T.region ?_
     iterate 2 refine aA rfl rfl ?_
     refine TL.nil ?_
     obtain rfl := Option.some.inj q11
     exact ⟨m9, Nat.lt_succ_self _, _, Gst.trans (Gst.only [2, 3, 4, 20, 21, 22] rfl) (Gst.pick [0, 1, 2] rfl rfl), (w64 (s7.1 + 1), (s7.2.set s7.1.toNat x19)), rfl, i12⟩
   refine T.condT rfl (decide_eq_true c23) ?_
   refine aS ?_
   refine TL.op1 (OpR.build rfl rfl rfl rfl rfl) rfl ?_
   refine TL.op0 (OpR.store 0 rfl rfl rfl rfl rfl rfl rfl rfl) ?_
   refine aA rfl rfl ?_
   refine TL.nil ?_
   show T X _ _ _
   refine T.ret ?_
   obtain rfl := Option.some.inj q11
   obtain rfl : _ = _ := i12
   obtain rfl := Option.some.inj h0
   exact PostG.retP (ks := []) (Gst.trans (Gst.only [2, 3] rfl) (Gst.trans (Gst.denil (ReS.cons Re.refl (ReS.cons Re.refl ReS.nil)) (ReO.var (ReL.cons (Re.base .nil) (ReL.cons Re.refl (ReL.cons Re.refl ReL.nil))) (ReO.same (ReO.same (ReO.same ReO.nil))))) (Gst.pick [0] rfl rfl))) undef (ResL.cons (ResV.var 0 rfl rfl rfl rfl) (ResL.cons (ResV.tmp rfl) ResL.nil)) rfl rfl rfl rfl
 refine aC ?_
 refine oS (d := .val (env3 3)) (fun _ => Want.plain rfl) (fun _ => rfl) (fun _ _ _ => rfl) (fun _ _ => OpR.loadPtr 1 rfl rfl rfl rfl) (fun _ _ _ _ _ _ _ => rfl) ?_
 refine aC ?_
 refine oS (d := .agg [.val (.int .i64 x16.fRaw.fAt), .val (.int .i64 x16.fRaw.fN), .val (.int .i64 x16.fKind), .sl 2 (List.map e_arena_Span x16.fParts)]) (fun _ => Want.plain rfl) (fun _ => rfl) (fun _ _ _ => rfl) (fun _ _ => OpR.loadPtr 3 rfl rfl rfl rfl) (fun _ _ _ _ _ _ _ => rfl) ?_
 refine oS (d := .agg [.sl 2 (List.map e_arena_Span x19.fText.fL), .val (.int .i64 x19.fText.fN), .val (.int .i64 x19.fRaw.fAt), .val (.int .i64 x19.fRaw.fN), .val (.bool x19.fKept)]) (fun _ => Want.plain rfl) (fun _ => rfl) (fun _ _ _ => rfl) (fun _ _ => OpR.call0 fn54 (cell_Load_c hx19) rfl) (fun _ _ _ _ _ _ _ => rfl) ?_
 refine OpsS.cons' true ?_ (fun _ _ _ _ _ _ _ => rfl) ?_
 · intro D env18 hA
   have e6 : D 6 = false := hA.no 6 _ rfl rfl
   exact OpS.yes (o0 := [.var (blk p1) [.val (.slice none 0 0), .val (.int .i64 0), .val (.bool false)] 68, .var (blk (env3 7)) [.val (env3 3), .val (.int .i64 a0.fEnd), .val (.bool false)] 68, .row (env3 3) (List.map e_cell_Cell s7.2) 5 50, .var (blk p17) [.val (.int .i64 x16.fRaw.fAt), .val (.int .i64 x16.fRaw.fN), .val (.int .i64 x16.fKind), .sl 2 (List.map e_arena_Span x16.fParts)] 129]) (o1 := fun x => [.var (blk p1) [.val (.slice none 0 0), .val (.int .i64 0), .val (.bool false)] 68, .var (blk (env3 7)) [.val (env3 3), .val (.int .i64 a0.fEnd), .val (.bool false)] 68, .row (env3 3) (List.map e_cell_Cell s7.2) 5 50, .var (blk p17) [.val (.int .i64 x16.fRaw.fAt), .val (.int .i64 x16.fRaw.fN), .val (.int .i64 x16.fKind), .sl 2 (List.map e_arena_Span x16.fParts)] 129]) (d := fun x => .val (.pointer (some ⟨blk (env3 3), s7.1.toNat * 5, none⟩))) (Want.plain rfl) (by first | rfl | simp only [e6, cond_true, cond_false, List.cons_append, List.nil_append, List.append_nil]) (fun x => by first | rfl | simp only [ins_self, ins_ne D (show 5 ≠ 6 by decide), upd_self, e6, cond_true, cond_false, List.cons_append, List.nil_append, List.append_nil]) (fun x => rfl) (OpR.rowIndexM e_cell_Cell 2 hx20 rfl rfl rfl rfl rfl rfl rfl)
 refine OpsS.cons' true ?_ (fun _ _ _ _ _ _ _ => rfl) ?_
 · intro D env18 hA
   exact OpS.yes (o0 := [.var (blk p1) [.val (.slice none 0 0), .val (.int .i64 0), .val (.bool false)] 68, .var (blk (env3 7)) [.val (env3 3), .val (.int .i64 a0.fEnd), .val (.bool false)] 68, .row (env3 3) (List.map e_cell_Cell s7.2) 5 50, .var (blk p17) [.val (.int .i64 x16.fRaw.fAt), .val (.int .i64 x16.fRaw.fN), .val (.int .i64 x16.fKind), .sl 2 (List.map e_arena_Span x16.fParts)] 129]) (o1 := fun x => [.var (blk p1) [.val (.slice none 0 0), .val (.int .i64 0), .val (.bool false)] 68, .var (blk (env3 7)) [.val (env3 3), .val (.int .i64 a0.fEnd), .val (.bool false)] 68, .row (env3 3) (List.map e_cell_Cell (s7.2.set s7.1.toNat x19)) 5 50, .var (blk p17) [.val (.int .i64 x16.fRaw.fAt), .val (.int .i64 x16.fRaw.fN), .val (.int .i64 x16.fKind), .sl 2 (List.map e_arena_Span x16.fParts)] 129]) (d := fun x => .dead) (Want.plain rfl) (by first | rfl | simp only [hA.me, cond_true, cond_false, List.cons_append, List.nil_append, List.append_nil]) (fun x => by first | rfl | simp only [ins_self, upd_self, hA.me, cond_true, cond_false, List.cons_append, List.nil_append, List.append_nil]) (fun x => rfl) (OpR.rowStore0M (j := s7.1) e_cell_Cell x19 2 hx20 rfl rfl rfl rfl rfl rfl rfl rfl rfl)
 exact trivial
noncomputable def slices_Clone_row_Row_row_Row (a0 : List row_Row) : Option (List row_Row) :=
  bnd (app 40 [] a0) fun x5 =>
  some x5
set_option maxHeartbeats 4000000 in
theorem slices_Clone_row_Row_row_Row_c {a0 : List row_Row} {res : (List row_Row)} (h0 : slices_Clone_row_Row_row_Row a0 = some res) : CallF X 66 [.sl 3 (List.map e_row_Row a0)] [] (fun x => .val (vn x 0)) (fun x => [.row (vn x 0) (List.map e_row_Row res) 3 68]) := by
 unfold slices_Clone_row_Row_row_Row at h0
 refine CallF.mkG (X := X) rfl Try.func66 rfl rfl Try.ntmps66 rfl rfl ?_
 refine aS ?_
 refine aA rfl rfl ?_
 refine TL.nil ?_
 show T X _ _ _
 refine T.seq ?_
 refine aS ?_
 refine aA rfl rfl ?_
 refine TL.isNil rfl rfl rfl rfl (fun b1 e2 => ?_)
 refine TL.nil ?_
 show T X _ _ _
 rcases Bool.eq_false_or_eq_true b1 with c3 | c3
 · obtain rfl := map_nil_of (e2 c3)
   rw [app_nil] at h0
   refine T.condT rfl (c3) ?_
   refine aS ?_
   refine aA rfl rfl ?_
   refine TL.nil ?_
   show T X _ _ _
   refine T.ret ?_
   obtain rfl := Option.some.inj h0
   exact PostG.retP (ks := [0]) (Gst.trans (Gst.only [2] rfl) (Gst.nilRow (ow := []) 3 68 rfl)) (.tuple #[(.slice none 0 0)]) (ResL.cons (ResV.tmp rfl) ResL.nil) rfl rfl rfl rfl
 refine T.condF rfl (c3) ?_
 refine T.skip ?_
 show T X _ _ _
 refine aS ?_
 refine TL.op (OpR.litRow rfl rfl rfl rfl rfl rfl rfl rfl (fun _ => rfl)) rfl (fun v4 => ?_)
 refine aA rfl rfl ?_
 obtain ⟨x5, hx5, h0⟩ := bnd_some h0
 refine TL.op (OpR.appendM (m := a0) e_row_Row 0 hx5 rfl rfl rfl rfl rfl rfl rfl rfl rfl (fun _ => rfl)) rfl (fun v6 => ?_)
 refine aA rfl rfl ?_
 refine TL.nil ?_
 show T X _ _ _
 refine T.ret ?_
 obtain rfl := Option.some.inj h0
 exact PostG.retP (ks := [0]) (Gst.only [2] rfl) (.tuple #[v6]) (ResL.cons (ResV.tmp rfl) ResL.nil) rfl rfl rfl rfl
noncomputable def tree_cuts_row_Row.l1 (s6 : (List row_Row) × Int × (List (List row_Row))) : Option (Lp ((List row_Row) × Int × (List (List row_Row))) (List (List row_Row))) :=
  if s6.2.1 > 0 then
    bnd (dvd (s6.1.length : Int) s6.2.1) fun x15 =>
    bnd (cut s6.1 0 x15) fun x16 =>
    bnd (slices_Clone_row_Row_row_Row x16) fun x17 =>
    bnd (app 24 s6.2.2 [x17]) fun x19 =>
    bnd (cut s6.1 x15 (s6.1.length : Int)) fun x21 =>
    some (Lp.next (x21, w64 (s6.2.1 - 1), x19))
  else
    some (Lp.done s6.2.2)
noncomputable def tree_cuts_row_Row (a0 : List row_Row) : Option (List (List row_Row)) :=
  bnd ((mkc 24 (w64 (quo (w64 ((w64 ((a0.length : Int) + 6)) - 1)) 5)) : Option (List (List row_Row)))) fun x1 =>
  bnd (loop tree_cuts_row_Row.l1 (a0, w64 (quo (w64 ((w64 ((a0.length : Int) + 6)) - 1)) 5), x1) : Option (List (List row_Row))) fun t3 =>
  some t3
set_option maxHeartbeats 4000000 in
theorem tree_cuts_row_Row_c {a0 : List row_Row} {res : (List (List row_Row))} (h0 : tree_cuts_row_Row a0 = some res) : CallF X 75 [.sl 3 (List.map e_row_Row a0)] [] (fun x => .sl 1 (List.map e_sl81 res)) (fun x => []) := by
 unfold tree_cuts_row_Row at h0
 refine CallF.mkG (X := X) rfl Try.func75 rfl rfl Try.ntmps75 rfl rfl ?_
 refine aS ?_
 refine aA rfl rfl ?_
 refine TL.nil ?_
 show T X _ _ _
 refine aS ?_
 refine aA rfl rfl ?_
 refine TL.op1 (OpR.cast (OpR.pure rfl) (intE (lenM _ _))) rfl ?_
 iterate 4 refine aA rfl rfl ?_
 refine TL.nil ?_
 show T X _ _ _
 refine aS ?_
 refine aA rfl rfl ?_
 obtain ⟨x1, hx1, h0⟩ := bnd_some h0
 refine TL.op (OpR.makeC e_sl81 hx1 rfl rfl rfl rfl rfl rfl rfl (fun _ => rfl)) rfl (fun v2 => ?_)
 refine aA rfl rfl ?_
 refine TL.nil ?_
 show T X _ _ _
 refine T.seq ?_
 obtain ⟨t3, ht3, h0⟩ := bnd_some h0
 refine T.cutC (fun S' => ∃ y4 : Value, S' = ⟨[(4, .val y4), (2, .val (.slice none 0 0))], [.row y4 (List.map e_sl81 t3) 1 81], 32⟩) (fun _ h => h) ?_ ?_
 rotate_left
 · rintro _ ⟨y4, rfl⟩
   show T X _ _ _
   refine aS ?_
   iterate 2 refine aA rfl rfl ?_
   refine TL.nil ?_
   show T X _ _ _
   refine T.ret ?_
   obtain rfl := Option.some.inj h0
   exact PostG.retP (ks := []) (Gst.trans (Gst.only [2] rfl) (Gst.trans (Gst.freezeRow 0 rfl rfl (ReS.cons (Re.base .all) ReS.nil) (ReO.same ReO.nil)) (Gst.pick [] rfl rfl))) undef (ResL.cons (ResV.tmp rfl) ResL.nil) rfl rfl rfl rfl
 refine T.block ?_
 obtain ⟨n7, n12⟩ := loop_some ht3
 refine T.loop (fun n S' => ∃ S'', Gst S' S'' ∧ ∃ y5 : Value, ∃ s6 : (List row_Row) × Int × (List (List row_Row)), S'' = ⟨[(4, .val y5), (3, .val (.int .i64 s6.2.1)), (2, .val (.slice none 0 0)), (0, .sl 3 (List.map e_row_Row s6.1))], [.row y5 (List.map e_sl81 s6.2.2) 1 81], 32⟩ ∧ iter tree_cuts_row_Row.l1 n s6 = some t3) n7 ?_ ?_
 · exact ⟨_, Gst.only [0, 2, 3, 4] rfl, v2, (a0, w64 (quo (w64 ((w64 ((a0.length : Int) + 6)) - 1)) 5), x1), rfl, n12⟩
 rintro n7 _ ⟨_, g, y5, s6, rfl, i11⟩
 refine T.ghost g ?_
 obtain ⟨m8, q9, rfl, q10, i11⟩ := iter_succ i11
 unfold tree_cuts_row_Row.l1 at q10
 refine T.seq ?_
 refine aS ?_
 iterate 2 refine aA rfl rfl ?_
 refine TL.nil ?_
 show T X _ _ _
 rcases ite_some q10 with ⟨c14, q10⟩ | ⟨c14, q10⟩
 rotate_left
 · refine T.condF rfl (decide_eq_false c14) ?_
   refine T.exit ?_
   obtain rfl := Option.some.inj q10
   obtain rfl : _ = _ := i11
   exact ⟨_, Gst.only [2, 4] rfl, y5, rfl⟩
 refine T.condT rfl (decide_eq_true c14) ?_
 refine T.skip ?_
 show T X _ _ _
 refine T.seq ?_
 refine T.block ?_
 refine aS ?_
 refine aA rfl rfl ?_
 refine TL.op1 (OpR.cast (OpR.pure rfl) (intE (lenM _ _))) rfl ?_
 refine aA rfl rfl ?_
 obtain ⟨x15, hx15, q10⟩ := bnd_some q10
 refine TL.op1 (OpR.dvdM hx15 rfl rfl rfl) rfl ?_
 refine aA rfl rfl ?_
 refine TL.nil ?_
 show T X _ _ _
 refine aS ?_
 iterate 3 refine aA rfl rfl ?_
 obtain ⟨x16, hx16, q10⟩ := bnd_some q10
 refine TL.op1 (OpR.sliceM (sz := 3) e_row_Row hx16 rfl rfl rfl rfl BdM.none (BdM.some rfl) rfl) rfl ?_
 obtain ⟨x17, hx17, q10⟩ := bnd_some q10
 refine TL.op (OpR.call [] fn66 (slices_Clone_row_Row_row_Row_c hx17) rfl rfl rfl (fun _ => rfl)) rfl (fun w18 => ?_)
 refine TL.ghost (Gst.freezeRow 1 rfl rfl (ReS.cons (Re.base .all) (ReS.refl _)) (ReO.same (ReO.same ReO.nil))) ?_
 refine TL.op1 (OpR.lit rfl rfl rfl rfl rfl rfl rfl) rfl ?_
 obtain ⟨x19, hx19, q10⟩ := bnd_some q10
 refine TL.op (OpR.appendM (m := [x17]) e_sl81 0 hx19 rfl rfl rfl rfl rfl rfl rfl rfl rfl (fun _ => rfl)) rfl (fun v20 => ?_)
 refine aA rfl rfl ?_
 refine TL.nil ?_
 show T X _ _ _
 refine T.region ?_
 iterate 2 refine aA rfl rfl ?_
 obtain ⟨x21, hx21, q10⟩ := bnd_some q10
 refine TL.op1 (OpR.sliceM (sz := 3) e_row_Row hx21 rfl rfl rfl rfl (BdM.some rfl) BdM.none rfl) rfl ?_
 refine aA rfl rfl ?_
 refine TL.nil ?_
 show T X _ _ _
 refine T.region ?_
 iterate 3 refine aA rfl rfl ?_
 refine TL.nil ?_
 obtain rfl := Option.some.inj q10
 exact ⟨m8, Nat.lt_succ_self _, _, Gst.trans (Gst.only [0, 2, 3, 4] rfl) (Gst.pick [0] rfl rfl), v20, (x21, w64 (s6.2.1 - 1), x19), rfl, i11⟩
noncomputable def tree_leaf_row_Row (a0 : List row_Row) : Option ((List NP) × (List row_Row) × Int) :=
  some ([], a0, (a0.length : Int))
set_option maxHeartbeats 4000000 in
theorem tree_leaf_row_Row_c {a0 : List row_Row} {res : (List NP) × (List row_Row) × Int} (h0 : tree_leaf_row_Row a0 = some res) : CallF X 76 [.sl 3 (List.map e_row_Row a0)] [] (fun x => .nod [.sl 1 (List.map eNP res.1), .sl 3 (List.map e_row_Row res.2.1), .val (.int .i64 res.2.2)]) (fun x => []) := by
 unfold tree_leaf_row_Row at h0
 refine CallF.mkG (X := X) rfl Try.func76 rfl rfl Try.ntmps76 rfl rfl ?_
 refine aS ?_
 refine aA rfl rfl ?_
 refine TL.nil ?_
 show T X _ _ _
 refine aS ?_
 iterate 2 refine aA rfl rfl ?_
 refine TL.op1 (OpR.cast (OpR.pure rfl) (intE (lenM _ _))) rfl ?_
 refine TL.op1 (OpR.wk (d' := fun _ => .agg [.sl 1 (List.map eNP []), .sl 3 (List.map e_row_Row a0), .val (.int .i64 (a0.length : Int))]) (OpR.build rfl rfl rfl rfl rfl) (fun _ => Re.agg (ReL.cons (Re.base .nil) (ReL.cons Re.refl (ReL.cons Re.refl ReL.nil))) (fun _ _ h => by cases h; exact ⟨_, rfl⟩))) rfl ?_
 refine TL.op (OpR.boxVar rfl rfl (fun _ => rfl)) rfl (fun p1 => ?_)
 refine aA rfl rfl ?_
 refine TL.nil ?_
 show T X _ _ _
 refine T.ghost (Gst.trans (Gst.only [2] rfl) (Gst.freezeVar 0 rfl rfl (ReS.cons (Re.base .all) ReS.nil) (ReO.same ReO.nil))) ?_
 refine T.ret ?_
 obtain rfl := Option.some.inj h0
 exact PostG.retP (ks := []) (Gst.trans (Gst.only [2] rfl) (Gst.pick [] rfl rfl)) undef (ResL.cons (ResV.tmp rfl) ResL.nil) rfl rfl rfl rfl
noncomputable def tree_leaves_row_Row.l1 (x1 : (List (List row_Row))) (s5 : Int × (List NP)) : Option (Lp (Int × (List NP)) (List NP)) :=
  if s5.1 < (x1.length : Int) then
    bnd (idx x1 s5.1) fun x14 =>
    bnd (tree_leaf_row_Row x14) fun x15 =>
    bnd (app 8 s5.2 [(c_tree_Node_damier_row_Row (⟨x15.1, x15.2.1, x15.2.2⟩ : tree_Node_damier_row_Row))]) fun x16 =>
    some (Lp.next (w64 (s5.1 + 1), x16))
  else
    some (Lp.done s5.2)
noncomputable def tree_leaves_row_Row (a0 : List row_Row) : Option (List NP) :=
  bnd (tree_cuts_row_Row a0) fun x1 =>
  bnd (loop (tree_leaves_row_Row.l1 x1) (0, []) : Option (List NP)) fun t2 =>
  some t2
set_option maxHeartbeats 4000000 in
theorem tree_leaves_row_Row_c {a0 : List row_Row} {res : (List NP)} (h0 : tree_leaves_row_Row a0 = some res) : CallF X 57 [.sl 3 (List.map e_row_Row a0)] [] (fun x => .sl 1 (List.map eNP res)) (fun x => []) := by
 unfold tree_leaves_row_Row at h0
 refine CallF.mkG (X := X) rfl Try.func57 rfl rfl Try.ntmps57 rfl rfl ?_
 refine aS ?_
 refine aA rfl rfl ?_
 refine TL.nil ?_
 show T X _ _ _
 refine aS ?_
 refine aA rfl rfl ?_
 refine TL.nil ?_
 show T X _ _ _
 refine T.seq ?_
 refine aS ?_
 refine aA rfl rfl ?_
 obtain ⟨x1, hx1, h0⟩ := bnd_some h0
 refine TL.op1 (OpR.call0 fn75 (tree_cuts_row_Row_c hx1) rfl) rfl ?_
 refine TL.op1 (OpR.cast (OpR.pure rfl) (intE (lenM _ _))) rfl ?_
 refine aA rfl rfl ?_
 refine TL.nil ?_
 show T X _ _ _
 obtain ⟨t2, ht2, h0⟩ := bnd_some h0
 refine T.cutC (fun S' => ∃ y3 : Value, S' = ⟨[(3, .val y3), (2, .val (.slice none 0 0))], [.row y3 (List.map eNP t2) 1 22], 20⟩) (fun _ h => h) ?_ ?_
 rotate_left
 · rintro _ ⟨y3, rfl⟩
   show T X _ _ _
   refine aS ?_
   iterate 2 refine aA rfl rfl ?_
   refine TL.nil ?_
   show T X _ _ _
   refine T.ret ?_
   obtain rfl := Option.some.inj h0
   exact PostG.retP (ks := []) (Gst.trans (Gst.only [2] rfl) (Gst.trans (Gst.freezeRow 0 rfl rfl (ReS.cons (Re.base .all) ReS.nil) (ReO.same ReO.nil)) (Gst.pick [] rfl rfl))) undef (ResL.cons (ResV.tmp rfl) ResL.nil) rfl rfl rfl rfl
 refine T.block ?_
 obtain ⟨n6, n11⟩ := loop_some ht2
 refine T.loop (fun n S' => ∃ S'', Gst S' S'' ∧ ∃ y4 : Value, ∃ s5 : Int × (List NP), S'' = ⟨[(9, .val (.int .i64 s5.1)), (8, .val (.int .i64 (x1.length : Int))), (7, .sl 1 (List.map e_sl81 x1)), (3, .val y4), (2, .val (.slice none 0 0))], [.row y4 (List.map eNP s5.2) 1 22], 20⟩ ∧ iter (tree_leaves_row_Row.l1 x1) n s5 = some t2) n6 ?_ ?_
 · exact ⟨_, Gst.trans (Gst.only [2, 3, 7, 8, 9] rfl) (Gst.nilRow (ow := []) 1 22 rfl), (.slice none 0 0), (0, []), rfl, n11⟩
 rintro n6 _ ⟨_, g, y4, s5, rfl, i10⟩
 refine T.ghost g ?_
 obtain ⟨m7, q8, rfl, q9, i10⟩ := iter_succ i10
 unfold tree_leaves_row_Row.l1 at q9
 refine aS ?_
 refine aA rfl rfl ?_
 refine TL.nil ?_
 show T X _ _ _
 refine T.seq ?_
 rcases ite_some q9 with ⟨c13, q9⟩ | ⟨c13, q9⟩
 rotate_left
 · refine T.condF rfl (decide_eq_false c13) ?_
   refine T.exit ?_
   obtain rfl := Option.some.inj q9
   obtain rfl : _ = _ := i10
   exact ⟨_, Gst.only [2, 3] rfl, y4, rfl⟩
 refine T.condT rfl (decide_eq_true c13) ?_
 refine T.skip ?_
 show T X _ _ _
 refine T.seq ?_
 refine T.block ?_
 refine aS ?_
 obtain ⟨x14, hx14, q9⟩ := bnd_some q9
 refine TL.op1 (OpR.indexM e_sl81 hx14 rfl rfl rfl rfl rfl) rfl ?_
 iterate 2 refine aA rfl rfl ?_
 refine TL.nil ?_
 show T X _ _ _
 refine T.region ?_
 iterate 2 refine aA rfl rfl ?_
 obtain ⟨x15, hx15, q9⟩ := bnd_some q9
 refine TL.op1 (OpR.call0 fn76 (tree_leaf_row_Row_c hx15) rfl) rfl ?_
 refine TL.op1 (OpR.lit rfl rfl rfl rfl rfl rfl rfl) rfl ?_
 obtain ⟨x16, hx16, q9⟩ := bnd_some q9
 refine TL.op (OpR.appendM (m := [(c_tree_Node_damier_row_Row (⟨x15.1, x15.2.1, x15.2.2⟩ : tree_Node_damier_row_Row))]) eNP 0 hx16 rfl rfl rfl rfl rfl rfl rfl rfl rfl (fun _ => rfl)) rfl (fun v17 => ?_)
 refine aA rfl rfl ?_
 refine TL.nil ?_
 show T X _ _ _
 refine T.region ?_
 iterate 2 refine aA rfl rfl ?_
 refine TL.nil ?_
 obtain rfl := Option.some.inj q9
 exact ⟨m7, Nat.lt_succ_self _, _, Gst.only [2, 3, 7, 8, 9] rfl, v17, (w64 (s5.1 + 1), x16), rfl, i10⟩
noncomputable def slices_Clone_tree_Node_row_Row_tree_Node_row_Row (a0 : List NP) : Option (List NP) :=
  bnd (app 8 [] a0) fun x5 =>
  some x5
set_option maxHeartbeats 4000000 in
theorem slices_Clone_tree_Node_row_Row_tree_Node_row_Row_c {a0 : List NP} {res : (List NP)} (h0 : slices_Clone_tree_Node_row_Row_tree_Node_row_Row a0 = some res) : CallF X 93 [.sl 1 (List.map eNP a0)] [] (fun x => .val (vn x 0)) (fun x => [.row (vn x 0) (List.map eNP res) 1 22]) := by
 unfold slices_Clone_tree_Node_row_Row_tree_Node_row_Row at h0
 refine CallF.mkG (X := X) rfl Try.func93 rfl rfl Try.ntmps93 rfl rfl ?_
 refine aS ?_
 refine aA rfl rfl ?_
 refine TL.nil ?_
 show T X _ _ _
 refine T.seq ?_
 refine aS ?_
 refine aA rfl rfl ?_
 refine TL.isNil rfl rfl rfl rfl (fun b1 e2 => ?_)
 refine TL.nil ?_
 show T X _ _ _
 rcases Bool.eq_false_or_eq_true b1 with c3 | c3
 · obtain rfl := map_nil_of (e2 c3)
   rw [app_nil] at h0
   refine T.condT rfl (c3) ?_
   refine aS ?_
   refine aA rfl rfl ?_
   refine TL.nil ?_
   show T X _ _ _
   refine T.ret ?_
   obtain rfl := Option.some.inj h0
   exact PostG.retP (ks := [0]) (Gst.trans (Gst.only [2] rfl) (Gst.nilRow (ow := []) 1 22 rfl)) (.tuple #[(.slice none 0 0)]) (ResL.cons (ResV.tmp rfl) ResL.nil) rfl rfl rfl rfl
 refine T.condF rfl (c3) ?_
 refine T.skip ?_
 show T X _ _ _
 refine aS ?_
 refine TL.op (OpR.litRow rfl rfl rfl rfl rfl rfl rfl rfl (fun _ => rfl)) rfl (fun v4 => ?_)
 refine aA rfl rfl ?_
 obtain ⟨x5, hx5, h0⟩ := bnd_some h0
 refine TL.op (OpR.appendM (m := a0) eNP 0 hx5 rfl rfl rfl rfl rfl rfl rfl rfl rfl (fun _ => rfl)) rfl (fun v6 => ?_)
 refine aA rfl rfl ?_
 refine TL.nil ?_
 show T X _ _ _
 refine T.ret ?_
 obtain rfl := Option.some.inj h0
 exact PostG.retP (ks := [0]) (Gst.only [2] rfl) (.tuple #[v6]) (ResL.cons (ResV.tmp rfl) ResL.nil) rfl rfl rfl rfl
noncomputable def tree_cuts_tree_Node_row_Row.l1 (s6 : (List NP) × Int × (List (List NP))) : Option (Lp ((List NP) × Int × (List (List NP))) (List (List NP))) :=
  if s6.2.1 > 0 then
    bnd (dvd (s6.1.length : Int) s6.2.1) fun x15 =>
    bnd (cut s6.1 0 x15) fun x16 =>
    bnd (slices_Clone_tree_Node_row_Row_tree_Node_row_Row x16) fun x17 =>
    bnd (app 24 s6.2.2 [x17]) fun x19 =>
    bnd (cut s6.1 x15 (s6.1.length : Int)) fun x21 =>
    some (Lp.next (x21, w64 (s6.2.1 - 1), x19))
  else
    some (Lp.done s6.2.2)
noncomputable def tree_cuts_tree_Node_row_Row (a0 : List NP) : Option (List (List NP)) :=
  bnd ((mkc 24 (w64 (quo (w64 ((w64 ((a0.length : Int) + 6)) - 1)) 5)) : Option (List (List NP)))) fun x1 =>
  bnd (loop tree_cuts_tree_Node_row_Row.l1 (a0, w64 (quo (w64 ((w64 ((a0.length : Int) + 6)) - 1)) 5), x1) : Option (List (List NP))) fun t3 =>
  some t3
set_option maxHeartbeats 4000000 in
theorem tree_cuts_tree_Node_row_Row_c {a0 : List NP} {res : (List (List NP))} (h0 : tree_cuts_tree_Node_row_Row a0 = some res) : CallF X 82 [.sl 1 (List.map eNP a0)] [] (fun x => .sl 1 (List.map e_sl118 res)) (fun x => []) := by
 unfold tree_cuts_tree_Node_row_Row at h0
 refine CallF.mkG (X := X) rfl Try.func82 rfl rfl Try.ntmps82 rfl rfl ?_
 refine aS ?_
 refine aA rfl rfl ?_
 refine TL.nil ?_
 show T X _ _ _
 refine aS ?_
 refine aA rfl rfl ?_
 refine TL.op1 (OpR.cast (OpR.pure rfl) (intE (lenM _ _))) rfl ?_
 iterate 4 refine aA rfl rfl ?_
 refine TL.nil ?_
 show T X _ _ _
 refine aS ?_
 refine aA rfl rfl ?_
 obtain ⟨x1, hx1, h0⟩ := bnd_some h0
 refine TL.op (OpR.makeC e_sl118 hx1 rfl rfl rfl rfl rfl rfl rfl (fun _ => rfl)) rfl (fun v2 => ?_)
 refine aA rfl rfl ?_
 refine TL.nil ?_
 show T X _ _ _
 refine T.seq ?_
 obtain ⟨t3, ht3, h0⟩ := bnd_some h0
 refine T.cutC (fun S' => ∃ y4 : Value, S' = ⟨[(4, .val y4), (2, .val (.slice none 0 0))], [.row y4 (List.map e_sl118 t3) 1 118], 32⟩) (fun _ h => h) ?_ ?_
 rotate_left
 · rintro _ ⟨y4, rfl⟩
   show T X _ _ _
   refine aS ?_
   iterate 2 refine aA rfl rfl ?_
   refine TL.nil ?_
   show T X _ _ _
   refine T.ret ?_
   obtain rfl := Option.some.inj h0
   exact PostG.retP (ks := []) (Gst.trans (Gst.only [2] rfl) (Gst.trans (Gst.freezeRow 0 rfl rfl (ReS.cons (Re.base .all) ReS.nil) (ReO.same ReO.nil)) (Gst.pick [] rfl rfl))) undef (ResL.cons (ResV.tmp rfl) ResL.nil) rfl rfl rfl rfl
 refine T.block ?_
 obtain ⟨n7, n12⟩ := loop_some ht3
 refine T.loop (fun n S' => ∃ S'', Gst S' S'' ∧ ∃ y5 : Value, ∃ s6 : (List NP) × Int × (List (List NP)), S'' = ⟨[(4, .val y5), (3, .val (.int .i64 s6.2.1)), (2, .val (.slice none 0 0)), (0, .sl 1 (List.map eNP s6.1))], [.row y5 (List.map e_sl118 s6.2.2) 1 118], 32⟩ ∧ iter tree_cuts_tree_Node_row_Row.l1 n s6 = some t3) n7 ?_ ?_
 · exact ⟨_, Gst.only [0, 2, 3, 4] rfl, v2, (a0, w64 (quo (w64 ((w64 ((a0.length : Int) + 6)) - 1)) 5), x1), rfl, n12⟩
 rintro n7 _ ⟨_, g, y5, s6, rfl, i11⟩
 refine T.ghost g ?_
 obtain ⟨m8, q9, rfl, q10, i11⟩ := iter_succ i11
 unfold tree_cuts_tree_Node_row_Row.l1 at q10
 refine T.seq ?_
 refine aS ?_
 iterate 2 refine aA rfl rfl ?_
 refine TL.nil ?_
 show T X _ _ _
 rcases ite_some q10 with ⟨c14, q10⟩ | ⟨c14, q10⟩
 rotate_left
 · refine T.condF rfl (decide_eq_false c14) ?_
   refine T.exit ?_
   obtain rfl := Option.some.inj q10
   obtain rfl : _ = _ := i11
   exact ⟨_, Gst.only [2, 4] rfl, y5, rfl⟩
 refine T.condT rfl (decide_eq_true c14) ?_
 refine T.skip ?_
 show T X _ _ _
 refine T.seq ?_
 refine T.block ?_
 refine aS ?_
 refine aA rfl rfl ?_
 refine TL.op1 (OpR.cast (OpR.pure rfl) (intE (lenM _ _))) rfl ?_
 refine aA rfl rfl ?_
 obtain ⟨x15, hx15, q10⟩ := bnd_some q10
 refine TL.op1 (OpR.dvdM hx15 rfl rfl rfl) rfl ?_
 refine aA rfl rfl ?_
 refine TL.nil ?_
 show T X _ _ _
 refine aS ?_
 iterate 3 refine aA rfl rfl ?_
 obtain ⟨x16, hx16, q10⟩ := bnd_some q10
 refine TL.op1 (OpR.sliceM (sz := 1) eNP hx16 rfl rfl rfl rfl BdM.none (BdM.some rfl) rfl) rfl ?_
 obtain ⟨x17, hx17, q10⟩ := bnd_some q10
 refine TL.op (OpR.call [] fn93 (slices_Clone_tree_Node_row_Row_tree_Node_row_Row_c hx17) rfl rfl rfl (fun _ => rfl)) rfl (fun w18 => ?_)
 refine TL.ghost (Gst.freezeRow 1 rfl rfl (ReS.cons (Re.base .all) (ReS.refl _)) (ReO.same (ReO.same ReO.nil))) ?_
 refine TL.op1 (OpR.lit rfl rfl rfl rfl rfl rfl rfl) rfl ?_
 obtain ⟨x19, hx19, q10⟩ := bnd_some q10
 refine TL.op (OpR.appendM (m := [x17]) e_sl118 0 hx19 rfl rfl rfl rfl rfl rfl rfl rfl rfl (fun _ => rfl)) rfl (fun v20 => ?_)
 refine aA rfl rfl ?_
 refine TL.nil ?_
 show T X _ _ _
 refine T.region ?_
 iterate 2 refine aA rfl rfl ?_
 obtain ⟨x21, hx21, q10⟩ := bnd_some q10
 refine TL.op1 (OpR.sliceM (sz := 1) eNP hx21 rfl rfl rfl rfl (BdM.some rfl) BdM.none rfl) rfl ?_
 refine aA rfl rfl ?_
 refine TL.nil ?_
 show T X _ _ _
 refine T.region ?_
 iterate 3 refine aA rfl rfl ?_
 refine TL.nil ?_
 obtain rfl := Option.some.inj q10
 exact ⟨m8, Nat.lt_succ_self _, _, Gst.trans (Gst.only [0, 2, 3, 4] rfl) (Gst.pick [0] rfl rfl), v20, (x21, w64 (s6.2.1 - 1), x19), rfl, i11⟩
noncomputable def tree_inner_row_Row.l1 (a0 : List NP) (s3 : Int × Int) : Option (Lp (Int × Int) Int) :=
  if s3.1 < (a0.length : Int) then
    bnd (idx a0 s3.1) fun x12 =>
    bnd (o_tree_Node_damier_row_Row x12) fun x13 =>
    some (Lp.next (w64 (s3.1 + 1), w64 (s3.2 + x13.fN)))
  else
    some (Lp.done s3.2)
noncomputable def tree_inner_row_Row (a0 : List NP) : Option ((List NP) × (List row_Row) × Int) :=
  bnd (loop (tree_inner_row_Row.l1 a0) (0, 0) : Option Int) fun t2 =>
  some (a0, [], t2)
set_option maxHeartbeats 4000000 in
theorem tree_inner_row_Row_c {a0 : List NP} {res : (List NP) × (List row_Row) × Int} (h0 : tree_inner_row_Row a0 = some res) : CallF X 83 [.sl 1 (List.map eNP a0)] [] (fun x => .nod [.sl 1 (List.map eNP res.1), .sl 3 (List.map e_row_Row res.2.1), .val (.int .i64 res.2.2)]) (fun x => []) := by
 unfold tree_inner_row_Row at h0
 refine CallF.mkG (X := X) rfl Try.func83 rfl rfl Try.ntmps83 rfl rfl ?_
 refine aS ?_
 refine aA rfl rfl ?_
 refine TL.nil ?_
 show T X _ _ _
 refine aS ?_
 refine aA rfl rfl ?_
 refine TL.op1 (OpR.wk (d' := fun _ => .agg [.sl 1 (List.map eNP a0), .sl 3 (List.map e_row_Row []), .val (.int .i64 0)]) (OpR.build rfl rfl rfl rfl rfl) (fun _ => Re.agg (ReL.cons Re.refl (ReL.cons (Re.base .nil) (ReL.cons Re.refl ReL.nil))) (fun _ _ h => by cases h; exact ⟨_, rfl⟩))) rfl ?_
 refine TL.op (OpR.boxVar rfl rfl (fun _ => rfl)) rfl (fun p1 => ?_)
 refine aA rfl rfl ?_
 refine TL.nil ?_
 show T X _ _ _
 refine T.seq ?_
 refine aS ?_
 refine aA rfl rfl ?_
 refine TL.op1 (OpR.cast (OpR.pure rfl) (intE (lenM _ _))) rfl ?_
 refine aA rfl rfl ?_
 refine TL.nil ?_
 show T X _ _ _
 obtain ⟨t2, ht2, h0⟩ := bnd_some h0
 refine T.cutC (fun S' => S' = ⟨[(3, .val (.pointer (some ⟨(blk p1), 0, none⟩))), (2, .val (.pointer none))], [.var (blk p1) [.sl 1 (List.map eNP a0), .sl 3 (List.map e_row_Row []), .val (.int .i64 t2)] 120], 28⟩) (fun _ h => h) ?_ ?_
 rotate_left
 · rintro _ rfl
   show T X _ _ _
   refine aS ?_
   iterate 2 refine aA rfl rfl ?_
   refine TL.nil ?_
   show T X _ _ _
   refine T.ghost (Gst.trans (Gst.only [2] rfl) (Gst.freezeVar 0 rfl rfl (ReS.cons (Re.base .all) ReS.nil) (ReO.same ReO.nil))) ?_
   refine T.ret ?_
   obtain rfl := Option.some.inj h0
   exact PostG.retP (ks := []) (Gst.trans (Gst.only [2] rfl) (Gst.pick [] rfl rfl)) undef (ResL.cons (ResV.tmp rfl) ResL.nil) rfl rfl rfl rfl
 refine T.block ?_
 obtain ⟨n4, n9⟩ := loop_some ht2
 refine T.loop (fun n S' => ∃ S'', Gst S' S'' ∧ ∃ s3 : Int × Int, S'' = ⟨[(11, .val (.int .i64 s3.1)), (10, .val (.int .i64 (a0.length : Int))), (9, .sl 1 (List.map eNP a0)), (3, .val (.pointer (some ⟨(blk p1), 0, none⟩))), (2, .val (.pointer none))], [.var (blk p1) [.sl 1 (List.map eNP a0), .sl 3 (List.map e_row_Row []), .val (.int .i64 s3.2)] 120], 28⟩ ∧ iter (tree_inner_row_Row.l1 a0) n s3 = some t2) n4 ?_ ?_
 · exact ⟨_, Gst.only [2, 3, 9, 10, 11] rfl, (0, 0), rfl, n9⟩
 rintro n4 _ ⟨_, g, s3, rfl, i8⟩
 refine T.ghost g ?_
 obtain ⟨m5, q6, rfl, q7, i8⟩ := iter_succ i8
 unfold tree_inner_row_Row.l1 at q7
 refine aS ?_
 refine aA rfl rfl ?_
 refine TL.nil ?_
 show T X _ _ _
 refine T.seq ?_
 rcases ite_some q7 with ⟨c11, q7⟩ | ⟨c11, q7⟩
 rotate_left
 · refine T.condF rfl (decide_eq_false c11) ?_
   refine T.exit ?_
   obtain rfl := Option.some.inj q7
   obtain rfl : _ = _ := i8
   exact ⟨_, Gst.only [2, 3] rfl, rfl⟩
 refine T.condT rfl (decide_eq_true c11) ?_
 refine T.skip ?_
 show T X _ _ _
 refine T.seq ?_
 refine T.block ?_
 refine aS ?_
 obtain ⟨x12, hx12, q7⟩ := bnd_some q7
 obtain ⟨x13, hx13, q7⟩ := bnd_some q7
 rw [o_tree_Node_damier_row_Row_eq hx13] at hx12
 refine TL.op1 (OpR.indexM eNP hx12 rfl rfl rfl rfl rfl) rfl ?_
 iterate 2 refine aA rfl rfl ?_
 refine TL.nil ?_
 show T X _ _ _
 refine T.drawS drawsX (fun env14 => [.val (.pointer (some ⟨(blk p1), 0, none⟩)), .val (.pointer (some ⟨(blk p1), 0, none⟩)), .val (.pointer (some ⟨(blk p1), 2, none⟩)), .val (.int .i64 s3.2), .nod [.sl 1 (List.map eNP x13.fKids), .sl 3 (List.map e_row_Row x13.fItems), .val (.int .i64 x13.fN)], .nod [.sl 1 (List.map eNP x13.fKids), .sl 3 (List.map e_row_Row x13.fItems), .val (.int .i64 x13.fN)], .nod [.val (.int .i64 x13.fN)], .val (.int .i64 x13.fN), .val (.int .i64 (w64 (s3.2 + x13.fN))), .val (.pointer (some ⟨(blk p1), 0, none⟩)), .val (.pointer (some ⟨(blk p1), 2, none⟩)), .dead]) (fun D env14 => [(bif D 11 then .var (blk p1) [.sl 1 (List.map eNP a0), .sl 3 (List.map e_row_Row []), .val (.int .i64 (w64 (s3.2 + x13.fN)))] 120 else .var (blk p1) [.sl 1 (List.map eNP a0), .sl 3 (List.map e_row_Row []), .val (.int .i64 s3.2)] 120)]) [0, 1, 3, 7, 0, 16, 48, 112, 255, 511, 1023, 2047] [2, 3, 9, 10, 11] (fun env14 => [.var (blk p1) [.sl 1 (List.map eNP a0), .sl 3 (List.map e_row_Row []), .val (.int .i64 (w64 (s3.2 + x13.fN)))] 120]) (by decide +kernel) (by decide +kernel) (fun _ => rfl) (fun _ => rfl) ?_ (fun _ => rfl) (fun _ => rfl) ?_
 rotate_left
 · intro env14
   show T X _ _ _
   refine T.region ?_
   iterate 2 refine aA rfl rfl ?_
   refine TL.nil ?_
   obtain rfl := Option.some.inj q7
   exact ⟨m5, Nat.lt_succ_self _, _, Gst.only [2, 3, 9, 10, 11] rfl, (w64 (s3.1 + 1), w64 (s3.2 + x13.fN)), rfl, i8⟩
 iterate 3 refine aC ?_
 refine OpsS.cons' true ?_ (fun _ _ _ _ _ _ _ => rfl) ?_
 · intro D env14 hA
   have e11 : D 11 = false := hA.no 11 _ rfl rfl
   exact OpS.yes (o0 := [.var (blk p1) [.sl 1 (List.map eNP a0), .sl 3 (List.map e_row_Row []), .val (.int .i64 s3.2)] 120]) (o1 := fun x => [.var (blk p1) [.sl 1 (List.map eNP a0), .sl 3 (List.map e_row_Row []), .val (.int .i64 s3.2)] 120]) (d := fun x => .val (.int .i64 s3.2)) (Want.plain rfl) (by first | rfl | simp only [e11, cond_true, cond_false, List.cons_append, List.nil_append, List.append_nil]) (fun x => by first | rfl | simp only [ins_self, ins_ne D (show 3 ≠ 11 by decide), upd_self, e11, cond_true, cond_false, List.cons_append, List.nil_append, List.append_nil]) (fun x => rfl) (OpR.loadPtr 0 rfl rfl rfl rfl)
 iterate 7 refine aC ?_
 refine OpsS.cons' true ?_ (fun _ _ _ _ _ _ _ => rfl) ?_
 · intro D env14 hA
   exact OpS.yes (o0 := [.var (blk p1) [.sl 1 (List.map eNP a0), .sl 3 (List.map e_row_Row []), .val (.int .i64 s3.2)] 120]) (o1 := fun x => [.var (blk p1) [.sl 1 (List.map eNP a0), .sl 3 (List.map e_row_Row []), .val (.int .i64 (w64 (s3.2 + x13.fN)))] 120]) (d := fun x => .dead) (Want.plain rfl) (by first | rfl | simp only [hA.me, cond_true, cond_false, List.cons_append, List.nil_append, List.append_nil]) (fun x => by first | rfl | simp only [ins_self, upd_self, hA.me, cond_true, cond_false, List.cons_append, List.nil_append, List.append_nil]) (fun x => rfl) (OpR.store 0 rfl rfl rfl rfl rfl rfl rfl rfl)
 exact trivial
noncomputable def tree_inners_row_Row.l1 (x1 : (List (List NP))) (s5 : Int × (List NP)) : Option (Lp (Int × (List NP)) (List NP)) :=
  if s5.1 < (x1.length : Int) then
    bnd (idx x1 s5.1) fun x14 =>
    bnd (tree_inner_row_Row x14) fun x15 =>
    bnd (app 8 s5.2 [(c_tree_Node_damier_row_Row (⟨x15.1, x15.2.1, x15.2.2⟩ : tree_Node_damier_row_Row))]) fun x16 =>
    some (Lp.next (w64 (s5.1 + 1), x16))
  else
    some (Lp.done s5.2)
noncomputable def tree_inners_row_Row (a0 : List NP) : Option (List NP) :=
  bnd (tree_cuts_tree_Node_row_Row a0) fun x1 =>
  bnd (loop (tree_inners_row_Row.l1 x1) (0, []) : Option (List NP)) fun t2 =>
  some t2
set_option maxHeartbeats 4000000 in
theorem tree_inners_row_Row_c {a0 : List NP} {res : (List NP)} (h0 : tree_inners_row_Row a0 = some res) : CallF X 74 [.sl 1 (List.map eNP a0)] [] (fun x => .sl 1 (List.map eNP res)) (fun x => []) := by
 unfold tree_inners_row_Row at h0
 refine CallF.mkG (X := X) rfl Try.func74 rfl rfl Try.ntmps74 rfl rfl ?_
 refine aS ?_
 refine aA rfl rfl ?_
 refine TL.nil ?_
 show T X _ _ _
 refine aS ?_
 refine aA rfl rfl ?_
 refine TL.nil ?_
 show T X _ _ _
 refine T.seq ?_
 refine aS ?_
 refine aA rfl rfl ?_
 obtain ⟨x1, hx1, h0⟩ := bnd_some h0
 refine TL.op1 (OpR.call0 fn82 (tree_cuts_tree_Node_row_Row_c hx1) rfl) rfl ?_
 refine TL.op1 (OpR.cast (OpR.pure rfl) (intE (lenM _ _))) rfl ?_
 refine aA rfl rfl ?_
 refine TL.nil ?_
 show T X _ _ _
 obtain ⟨t2, ht2, h0⟩ := bnd_some h0
 refine T.cutC (fun S' => ∃ y3 : Value, S' = ⟨[(3, .val y3), (2, .val (.slice none 0 0))], [.row y3 (List.map eNP t2) 1 22], 20⟩) (fun _ h => h) ?_ ?_
 rotate_left
 · rintro _ ⟨y3, rfl⟩
   show T X _ _ _
   refine aS ?_
   iterate 2 refine aA rfl rfl ?_
   refine TL.nil ?_
   show T X _ _ _
   refine T.ret ?_
   obtain rfl := Option.some.inj h0
   exact PostG.retP (ks := []) (Gst.trans (Gst.only [2] rfl) (Gst.trans (Gst.freezeRow 0 rfl rfl (ReS.cons (Re.base .all) ReS.nil) (ReO.same ReO.nil)) (Gst.pick [] rfl rfl))) undef (ResL.cons (ResV.tmp rfl) ResL.nil) rfl rfl rfl rfl
 refine T.block ?_
 obtain ⟨n6, n11⟩ := loop_some ht2
 refine T.loop (fun n S' => ∃ S'', Gst S' S'' ∧ ∃ y4 : Value, ∃ s5 : Int × (List NP), S'' = ⟨[(9, .val (.int .i64 s5.1)), (8, .val (.int .i64 (x1.length : Int))), (7, .sl 1 (List.map e_sl118 x1)), (3, .val y4), (2, .val (.slice none 0 0))], [.row y4 (List.map eNP s5.2) 1 22], 20⟩ ∧ iter (tree_inners_row_Row.l1 x1) n s5 = some t2) n6 ?_ ?_
 · exact ⟨_, Gst.trans (Gst.only [2, 3, 7, 8, 9] rfl) (Gst.nilRow (ow := []) 1 22 rfl), (.slice none 0 0), (0, []), rfl, n11⟩
 rintro n6 _ ⟨_, g, y4, s5, rfl, i10⟩
 refine T.ghost g ?_
 obtain ⟨m7, q8, rfl, q9, i10⟩ := iter_succ i10
 unfold tree_inners_row_Row.l1 at q9
 refine aS ?_
 refine aA rfl rfl ?_
 refine TL.nil ?_
 show T X _ _ _
 refine T.seq ?_
 rcases ite_some q9 with ⟨c13, q9⟩ | ⟨c13, q9⟩
 rotate_left
 · refine T.condF rfl (decide_eq_false c13) ?_
   refine T.exit ?_
   obtain rfl := Option.some.inj q9
   obtain rfl : _ = _ := i10
   exact ⟨_, Gst.only [2, 3] rfl, y4, rfl⟩
 refine T.condT rfl (decide_eq_true c13) ?_
 refine T.skip ?_
 show T X _ _ _
 refine T.seq ?_
 refine T.block ?_
 refine aS ?_
 obtain ⟨x14, hx14, q9⟩ := bnd_some q9
 refine TL.op1 (OpR.indexM e_sl118 hx14 rfl rfl rfl rfl rfl) rfl ?_
 iterate 2 refine aA rfl rfl ?_
 refine TL.nil ?_
 show T X _ _ _
 refine T.region ?_
 iterate 2 refine aA rfl rfl ?_
 obtain ⟨x15, hx15, q9⟩ := bnd_some q9
 refine TL.op1 (OpR.call0 fn83 (tree_inner_row_Row_c hx15) rfl) rfl ?_
 refine TL.op1 (OpR.lit rfl rfl rfl rfl rfl rfl rfl) rfl ?_
 obtain ⟨x16, hx16, q9⟩ := bnd_some q9
 refine TL.op (OpR.appendM (m := [(c_tree_Node_damier_row_Row (⟨x15.1, x15.2.1, x15.2.2⟩ : tree_Node_damier_row_Row))]) eNP 0 hx16 rfl rfl rfl rfl rfl rfl rfl rfl rfl (fun _ => rfl)) rfl (fun v17 => ?_)
 refine aA rfl rfl ?_
 refine TL.nil ?_
 show T X _ _ _
 refine T.region ?_
 iterate 2 refine aA rfl rfl ?_
 refine TL.nil ?_
 obtain rfl := Option.some.inj q9
 exact ⟨m7, Nat.lt_succ_self _, _, Gst.only [2, 3, 7, 8, 9] rfl, v17, (w64 (s5.1 + 1), x16), rfl, i10⟩
noncomputable def tree_above_row_Row.l1 (s3 : (List NP)) : Option (Lp (List NP) (List NP)) :=
  if (s3.length : Int) > 1 then
    bnd (tree_inners_row_Row s3) fun x12 =>
    some (Lp.next x12)
  else
    some (Lp.done s3)
noncomputable def tree_above_row_Row.l2 (s21 : (List NP) × (List row_Row) × Int) : Option (Lp ((List NP) × (List row_Row) × Int) ((List NP) × (List row_Row) × Int)) :=
  if (s21.1.length : Int) = 1 then
    bnd (idx s21.1 0) fun x30 =>
    bnd (o_tree_Node_damier_row_Row x30) fun x31 =>
    some (Lp.next (x31.fKids, x31.fItems, x31.fN))
  else
    some (Lp.done (s21.1, s21.2.1, s21.2.2))
noncomputable def tree_above_row_Row (a0 : List NP) : Option tree_Tree_damier_row_Row :=
  bnd (loop tree_above_row_Row.l1 a0 : Option (List NP)) fun t2 =>
  bnd (if (t2.length : Int) = 0 then
    some true
  else
    bnd (idx t2 0) fun x15 =>
    bnd (o_tree_Node_damier_row_Row x15) fun x16 =>
    some (x16.fN == 0) : Option Bool) fun t13 =>
  if t13 = true then
    some (⟨none⟩ : tree_Tree_damier_row_Row)
  else
    bnd (idx t2 0) fun x18 =>
    bnd (o_tree_Node_damier_row_Row x18) fun x19 =>
    bnd (loop tree_above_row_Row.l2 (x19.fKids, x19.fItems, x19.fN) : Option ((List NP) × (List row_Row) × Int)) fun t20 =>
    some (⟨(some (c_tree_Node_damier_row_Row (⟨t20.1, t20.2.1, t20.2.2⟩ : tree_Node_damier_row_Row)))⟩ : tree_Tree_damier_row_Row)
set_option maxHeartbeats 4000000 in
theorem tree_above_row_Row_c {a0 : List NP} {res : tree_Tree_damier_row_Row} (h0 : tree_above_row_Row a0 = some res) : CallF X 56 [.sl 1 (List.map eNP a0)] [] (fun x => .agg [(eOP res.fRoot)]) (fun x => []) := by
 unfold tree_above_row_Row at h0
 refine CallF.mkG (X := X) rfl Try.func56 rfl rfl Try.ntmps56 rfl rfl ?_
 refine aS ?_
 refine TL.op (OpR.alloc rfl rfl (fun _ => rfl)) rfl (fun p1 => ?_)
 refine TL.nil ?_
 show T X _ _ _
 refine T.seq ?_
 obtain ⟨t2, ht2, h0⟩ := bnd_some h0
 refine T.cutC (fun S' => S' = ⟨[(2, .val (.pointer (some ⟨(blk p1), 0, none⟩))), (0, .sl 1 (List.map eNP t2))], [.var (blk p1) [(eOP none)] 24], 39⟩) (fun _ h => h) ?_ ?_
 · refine T.block ?_
   obtain ⟨n4, n9⟩ := loop_some ht2
   refine T.loop (fun n S' => ∃ S'', Gst S' S'' ∧ ∃ s3 : (List NP), S'' = ⟨[(2, .val (.pointer (some ⟨(blk p1), 0, none⟩))), (0, .sl 1 (List.map eNP s3))], [.var (blk p1) [(eOP none)] 24], 39⟩ ∧ iter tree_above_row_Row.l1 n s3 = some t2) n4 ?_ ?_
   · exact ⟨_, Gst.only [0, 2] rfl, a0, rfl, n9⟩
   rintro n4 _ ⟨_, g, s3, rfl, i8⟩
   refine T.ghost g ?_
   obtain ⟨m5, q6, rfl, q7, i8⟩ := iter_succ i8
   unfold tree_above_row_Row.l1 at q7
   refine T.seq ?_
   refine aS ?_
   refine aA rfl rfl ?_
   refine TL.op1 (OpR.cast (OpR.pure rfl) (intE (lenM _ _))) rfl ?_
   refine aA rfl rfl ?_
   refine TL.nil ?_
   show T X _ _ _
   rcases ite_some q7 with ⟨c11, q7⟩ | ⟨c11, q7⟩
   rotate_left
   · refine T.condF rfl (decide_eq_false c11) ?_
     refine T.exit ?_
     obtain rfl := Option.some.inj q7
     obtain rfl : _ = _ := i8
     exact ⟨_, Gst.only [0, 2] rfl, rfl⟩
   refine T.condT rfl (decide_eq_true c11) ?_
   refine T.skip ?_
   show T X _ _ _
   refine T.block ?_
   refine T.region ?_
   refine aA rfl rfl ?_
   obtain ⟨x12, hx12, q7⟩ := bnd_some q7
   refine TL.op1 (OpR.call0 fn74 (tree_inners_row_Row_c hx12) rfl) rfl ?_
   refine aA rfl rfl ?_
   refine TL.nil ?_
   obtain rfl := Option.some.inj q7
   exact ⟨m5, Nat.lt_succ_self _, _, Gst.only [0, 2] rfl, x12, rfl, i8⟩
 rintro _ rfl
 show T X _ _ _
 refine T.seq ?_
 refine T.seq ?_
 obtain ⟨t13, ht13, h0⟩ := bnd_some h0
 refine T.cutC (fun S' => S' = ⟨[(20, .val (.bool t13)), (2, .val (.pointer (some ⟨(blk p1), 0, none⟩))), (0, .sl 1 (List.map eNP t2))], [.var (blk p1) [(eOP none)] 24], 39⟩) (fun _ h => h) ?_ ?_
 · refine T.region ?_
   refine aA rfl rfl ?_
   refine TL.op1 (OpR.cast (OpR.pure rfl) (intE (lenM _ _))) rfl ?_
   iterate 2 refine aA rfl rfl ?_
   rcases ite_some ht13 with ⟨c14, ht13⟩ | ⟨c14, ht13⟩
   · refine TL.off rfl rfl rfl rfl (beq_iff_eq.2 c14) rfl rfl ?_
     refine TL.off rfl rfl rfl rfl (beq_iff_eq.2 c14) rfl rfl ?_
     refine TL.off rfl rfl rfl rfl (beq_iff_eq.2 c14) rfl rfl ?_
     refine TL.off rfl rfl rfl rfl (beq_iff_eq.2 c14) rfl rfl ?_
     refine TL.off rfl rfl rfl rfl (beq_iff_eq.2 c14) rfl rfl ?_
     refine TL.off rfl rfl rfl rfl (beq_iff_eq.2 c14) rfl rfl ?_
     refine TL.off rfl rfl rfl rfl (beq_iff_eq.2 c14) rfl rfl ?_
     refine TL.op1 (OpR.pickT rfl (beq_iff_eq.2 c14) rfl) rfl ?_
     refine TL.nil ?_
     obtain rfl := Option.some.inj ht13
     exact ⟨_, Gst.only [0, 2, 20] rfl, rfl⟩
   refine TL.on rfl rfl rfl rfl (beq_eq_false_iff_ne.2 c14) ?_
   refine aA rfl rfl ?_
   refine TL.on rfl rfl rfl rfl (beq_eq_false_iff_ne.2 c14) ?_
   obtain ⟨x15, hx15, ht13⟩ := bnd_some ht13
   obtain ⟨x16, hx16, ht13⟩ := bnd_some ht13
   rw [o_tree_Node_damier_row_Row_eq hx16] at hx15
   refine TL.op1 (OpR.indexM eNP hx15 rfl rfl rfl rfl rfl) rfl ?_
   refine TL.on rfl rfl rfl rfl (beq_eq_false_iff_ne.2 c14) ?_
   refine aA rfl rfl ?_
   refine TL.on rfl rfl rfl rfl (beq_eq_false_iff_ne.2 c14) ?_
   refine aA rfl rfl ?_
   refine TL.on rfl rfl rfl rfl (beq_eq_false_iff_ne.2 c14) ?_
   refine aA rfl rfl ?_
   refine TL.on rfl rfl rfl rfl (beq_eq_false_iff_ne.2 c14) ?_
   refine aA rfl rfl ?_
   refine TL.on rfl rfl rfl rfl (beq_eq_false_iff_ne.2 c14) ?_
   refine aA rfl rfl ?_
   refine TL.op1 (OpR.pickF rfl (beq_eq_false_iff_ne.2 c14) rfl) rfl ?_
   refine TL.nil ?_
   obtain rfl := Option.some.inj ht13
   exact ⟨_, Gst.only [0, 2, 20] rfl, rfl⟩
 rintro _ rfl
 show T X _ _ _
 rcases ite_some h0 with ⟨c17, h0⟩ | ⟨c17, h0⟩
 · refine T.condT rfl (c17) ?_
   refine aS ?_
   refine TL.op1 (OpR.build rfl rfl rfl rfl rfl) rfl ?_
   refine TL.op0 (OpR.store 0 rfl rfl rfl rfl rfl rfl rfl rfl) ?_
   refine TL.nil ?_
   show T X _ _ _
   refine T.ret ?_
   obtain rfl := Option.some.inj h0
   exact PostG.retP (ks := []) (Gst.only [2] rfl) undef (ResL.cons (ResV.var 0 rfl rfl rfl rfl) ResL.nil) rfl rfl rfl rfl
 refine T.condF rfl (eq_false_of_ne_true c17) ?_
 refine T.skip ?_
 show T X _ _ _
 refine aS ?_
 refine aA rfl rfl ?_
 obtain ⟨x18, hx18, h0⟩ := bnd_some h0
 obtain ⟨x19, hx19, h0⟩ := bnd_some h0
 rw [o_tree_Node_damier_row_Row_eq hx19] at hx18
 refine TL.op1 (OpR.indexM eNP hx18 rfl rfl rfl rfl rfl) rfl ?_
 iterate 2 refine aA rfl rfl ?_
 refine TL.nil ?_
 show T X _ _ _
 refine T.seq ?_
 obtain ⟨t20, ht20, h0⟩ := bnd_some h0
 refine T.cutC (fun S' => S' = ⟨[(3, .nod [.sl 1 (List.map eNP t20.1), .sl 3 (List.map e_row_Row t20.2.1), .val (.int .i64 t20.2.2)]), (2, .val (.pointer (some ⟨(blk p1), 0, none⟩)))], [.var (blk p1) [(eOP none)] 24], 39⟩) (fun _ h => h) ?_ ?_
 rotate_left
 · rintro _ rfl
   show T X _ _ _
   refine aS ?_
   refine aA rfl rfl ?_
   refine TL.op1 (OpR.build rfl rfl rfl rfl rfl) rfl ?_
   refine TL.op0 (OpR.store 0 rfl rfl rfl rfl rfl rfl rfl rfl) ?_
   refine TL.nil ?_
   show T X _ _ _
   refine T.ret ?_
   obtain rfl := Option.some.inj h0
   exact PostG.retP (ks := []) (Gst.only [2] rfl) undef (ResL.cons (ResV.var 0 rfl rfl rfl rfl) ResL.nil) rfl rfl rfl rfl
 refine T.block ?_
 obtain ⟨n22, n27⟩ := loop_some ht20
 refine T.loop (fun n S' => ∃ S'', Gst S' S'' ∧ ∃ s21 : (List NP) × (List row_Row) × Int, S'' = ⟨[(3, .nod [.sl 1 (List.map eNP s21.1), .sl 3 (List.map e_row_Row s21.2.1), .val (.int .i64 s21.2.2)]), (2, .val (.pointer (some ⟨(blk p1), 0, none⟩)))], [.var (blk p1) [(eOP none)] 24], 39⟩ ∧ iter tree_above_row_Row.l2 n s21 = some t20) n22 ?_ ?_
 · exact ⟨_, Gst.only [2, 3] rfl, (x19.fKids, x19.fItems, x19.fN), rfl, n27⟩
 rintro n22 _ ⟨_, g, s21, rfl, i26⟩
 refine T.ghost g ?_
 obtain ⟨m23, q24, rfl, q25, i26⟩ := iter_succ i26
 unfold tree_above_row_Row.l2 at q25
 refine T.seq ?_
 refine aS ?_
 iterate 4 refine aA rfl rfl ?_
 refine TL.op1 (OpR.cast (OpR.pure rfl) (intE (lenM _ _))) rfl ?_
 refine aA rfl rfl ?_
 refine TL.nil ?_
 show T X _ _ _
 rcases ite_some q25 with ⟨c29, q25⟩ | ⟨c29, q25⟩
 rotate_left
 · refine T.condF rfl (beq_eq_false_iff_ne.2 c29) ?_
   refine T.exit ?_
   obtain rfl := Option.some.inj q25
   obtain rfl : _ = _ := i26
   exact ⟨_, Gst.only [2, 3] rfl, rfl⟩
 refine T.condT rfl (beq_iff_eq.2 c29) ?_
 refine T.skip ?_
 show T X _ _ _
 refine T.block ?_
 refine T.region ?_
 iterate 4 refine aA rfl rfl ?_
 obtain ⟨x30, hx30, q25⟩ := bnd_some q25
 obtain ⟨x31, hx31, q25⟩ := bnd_some q25
 rw [o_tree_Node_damier_row_Row_eq hx31] at hx30
 refine TL.op1 (OpR.indexM eNP hx30 rfl rfl rfl rfl rfl) rfl ?_
 iterate 2 refine aA rfl rfl ?_
 refine TL.nil ?_
 obtain rfl := Option.some.inj q25
 exact ⟨m23, Nat.lt_succ_self _, _, Gst.only [2, 3] rfl, (x31.fKids, x31.fItems, x31.fN), rfl, i26⟩
noncomputable def tree_Of_row_Row (a0 : List row_Row) : Option tree_Tree_damier_row_Row :=
  bnd (tree_leaves_row_Row a0) fun x2 =>
  bnd (tree_above_row_Row x2) fun x3 =>
  some x3
set_option maxHeartbeats 4000000 in
theorem tree_Of_row_Row_c {a0 : List row_Row} {res : tree_Tree_damier_row_Row} (h0 : tree_Of_row_Row a0 = some res) : CallF X 26 [.sl 3 (List.map e_row_Row a0)] [] (fun x => .agg [(eOP res.fRoot)]) (fun x => []) := by
 unfold tree_Of_row_Row at h0
 refine CallF.mkG (X := X) rfl Try.func26 rfl rfl Try.ntmps26 rfl rfl ?_
 refine aS ?_
 refine TL.op (OpR.alloc rfl rfl (fun _ => rfl)) rfl (fun p1 => ?_)
 refine TL.nil ?_
 show T X _ _ _
 refine aS ?_
 refine aA rfl rfl ?_
 obtain ⟨x2, hx2, h0⟩ := bnd_some h0
 refine TL.op1 (OpR.call0 fn57 (tree_leaves_row_Row_c hx2) rfl) rfl ?_
 obtain ⟨x3, hx3, h0⟩ := bnd_some h0
 refine TL.op1 (OpR.call0 fn56 (tree_above_row_Row_c hx3) rfl) rfl ?_
 refine TL.op0 (OpR.store 0 rfl rfl rfl rfl rfl rfl rfl rfl) ?_
 refine TL.nil ?_
 show T X _ _ _
 refine T.ret ?_
 obtain rfl := Option.some.inj h0
 exact PostG.retP (ks := []) (Gst.only [2] rfl) undef (ResL.cons (ResV.var 0 rfl rfl rfl rfl) ResL.nil) rfl rfl rfl rfl
noncomputable def grid_ends.l1 (a0 : List scan_Row) (x2 : scan_Row) (s5 : Int) : Option (Lp Int (Ex Unit (Bool × Int))) :=
  if s5 < (a0.length : Int) then
    bnd (idx a0 s5) fun x14 =>
    if x14.fEnd = 0 then
      some (Lp.next (w64 (s5 + 1)))
    else
      some (Lp.done (Ex.ret ((!(x2.fEnd == 0)), x14.fEnd)))
  else
    some (Lp.done (Ex.brk ()))
noncomputable def grid_ends (a0 : List scan_Row) : Option (Bool × Int) :=
  if (a0.length : Int) = 0 then
    some (false, 2)
  else
    bnd (idx a0 (w64 ((a0.length : Int) - 1))) fun x2 =>
    bnd (loop (grid_ends.l1 a0 x2) 0 : Option (Ex Unit (Bool × Int))) fun t3 => match t3 with
      | .brk u4 =>
        some ((!(x2.fEnd == 0)), 2)
      | .ret u4 => some u4
set_option maxHeartbeats 4000000 in
theorem grid_ends_c {a0 : List scan_Row} {res : Bool × Int} (h0 : grid_ends a0 = some res) : CallF X 27 [.sl 2 (List.map e_scan_Row a0)] [] (fun x => .tup [.val (.bool res.1), .val (.int .i64 res.2)]) (fun x => []) := by
 unfold grid_ends at h0
 refine CallF.mkG (X := X) rfl Try.func27 rfl rfl Try.ntmps27 rfl rfl ?_
 refine aS ?_
 iterate 2 refine aA rfl rfl ?_
 refine TL.nil ?_
 show T X _ _ _
 refine T.seq ?_
 refine aS ?_
 refine aA rfl rfl ?_
 refine TL.op1 (OpR.cast (OpR.pure rfl) (intE (lenM _ _))) rfl ?_
 refine aA rfl rfl ?_
 refine TL.nil ?_
 show T X _ _ _
 rcases ite_some h0 with ⟨c1, h0⟩ | ⟨c1, h0⟩
 · refine T.condT rfl (beq_iff_eq.2 c1) ?_
   refine aS ?_
   iterate 2 refine aA rfl rfl ?_
   refine TL.nil ?_
   show T X _ _ _
   refine T.ret ?_
   obtain rfl := Option.some.inj h0
   exact PostG.retP (ks := []) (Gst.only [2, 3] rfl) undef (ResL.cons (ResV.tmp rfl) (ResL.cons (ResV.tmp rfl) ResL.nil)) rfl rfl rfl rfl
 refine T.condF rfl (beq_eq_false_iff_ne.2 c1) ?_
 refine T.skip ?_
 show T X _ _ _
 refine aS ?_
 iterate 2 refine aA rfl rfl ?_
 refine TL.op1 (OpR.cast (OpR.pure rfl) (intE (lenM _ _))) rfl ?_
 refine aA rfl rfl ?_
 obtain ⟨x2, hx2, h0⟩ := bnd_some h0
 refine TL.op1 (OpR.indexM e_scan_Row hx2 rfl rfl rfl rfl rfl) rfl ?_
 iterate 4 refine aA rfl rfl ?_
 refine TL.nil ?_
 show T X _ _ _
 refine T.seq ?_
 refine aS ?_
 refine aA rfl rfl ?_
 refine TL.op1 (OpR.cast (OpR.pure rfl) (intE (lenM _ _))) rfl ?_
 refine aA rfl rfl ?_
 refine TL.nil ?_
 show T X _ _ _
 obtain ⟨t3, ht3, h0⟩ := bnd_some h0
 refine T.cutC (fun S' => ∃ u4, t3 = Ex.brk u4 ∧ S' = ⟨[(4, .val (.bool (!(x2.fEnd == 0)))), (3, .val (.int .i64 0)), (2, .val (.bool false))], [], 32⟩) (fun _ h => h) ?_ ?_
 rotate_left
 · rintro _ ⟨u4, rfl, rfl⟩
   show T X _ _ _
   refine aS ?_
   iterate 3 refine aA rfl rfl ?_
   refine TL.nil ?_
   show T X _ _ _
   refine T.ret ?_
   obtain rfl := Option.some.inj h0
   exact PostG.retP (ks := []) (Gst.only [2, 3] rfl) undef (ResL.cons (ResV.tmp rfl) (ResL.cons (ResV.tmp rfl) ResL.nil)) rfl rfl rfl rfl
 refine T.block ?_
 obtain ⟨n6, n11⟩ := loop_some ht3
 refine T.loop (fun n S' => ∃ S'', Gst S' S'' ∧ ∃ s5 : Int, S'' = ⟨[(20, .val (.int .i64 s5)), (19, .val (.int .i64 (a0.length : Int))), (18, .sl 2 (List.map e_scan_Row a0)), (4, .val (.bool (!(x2.fEnd == 0)))), (3, .val (.int .i64 0)), (2, .val (.bool false))], [], 32⟩ ∧ iter (grid_ends.l1 a0 x2) n s5 = some t3) n6 ?_ ?_
 · exact ⟨_, Gst.only [2, 3, 4, 18, 19, 20] rfl, 0, rfl, n11⟩
 rintro n6 _ ⟨_, g, s5, rfl, i10⟩
 refine T.ghost g ?_
 obtain ⟨m7, q8, rfl, q9, i10⟩ := iter_succ i10
 unfold grid_ends.l1 at q9
 refine aS ?_
 refine aA rfl rfl ?_
 refine TL.nil ?_
 show T X _ _ _
 refine T.seq ?_
 rcases ite_some q9 with ⟨c13, q9⟩ | ⟨c13, q9⟩
 rotate_left
 · refine T.condF rfl (decide_eq_false c13) ?_
   refine T.exit ?_
   obtain rfl := Option.some.inj q9
   obtain rfl : _ = _ := i10
   exact ⟨_, Gst.only [2, 3, 4] rfl, _, rfl, rfl⟩
 refine T.condT rfl (decide_eq_true c13) ?_
 refine T.skip ?_
 show T X _ _ _
 refine T.seq ?_
 refine T.block ?_
 refine aS ?_
 obtain ⟨x14, hx14, q9⟩ := bnd_some q9
 refine TL.op1 (OpR.indexM e_scan_Row hx14 rfl rfl rfl rfl rfl) rfl ?_
 refine aA rfl rfl ?_
 refine TL.op (OpR.alloc rfl rfl (fun _ => rfl)) rfl (fun p15 => ?_)
 refine TL.op0 (OpR.store 0 rfl rfl rfl rfl rfl rfl rfl rfl) ?_
 refine TL.nil ?_
 show T X _ _ _
 refine aS ?_
 refine aA rfl rfl ?_
 refine TL.op1 (OpR.loadPtr 0 rfl rfl rfl rfl) rfl ?_
 refine aA rfl rfl ?_
 refine TL.nil ?_
 show T X _ _ _
 rcases ite_some q9 with ⟨c16, q9⟩ | ⟨c16, q9⟩
 · refine T.condF rfl (not_t (beq_iff_eq.2 c16)) ?_
   refine T.skip ?_
   show T X _ _ _
   refine T.region ?_
   iterate 2 refine aA rfl rfl ?_
   refine TL.nil ?_
   obtain rfl := Option.some.inj q9
   exact ⟨m7, Nat.lt_succ_self _, _, Gst.trans (Gst.only [2, 3, 4, 18, 19, 20] rfl) (Gst.pick [] rfl rfl), w64 (s5 + 1), rfl, i10⟩
 refine T.condT rfl (not_f (beq_eq_false_iff_ne.2 c16)) ?_
 refine T.seq ?_
 refine T.drawQ drawsX [.val (.bool (!(x2.fEnd == 0))), .val (.pointer (some ⟨(blk p15), 1, none⟩)), .val (.int .i64 x14.fEnd), .val (.bool (!(x2.fEnd == 0))), .val (.int .i64 x14.fEnd)] [2, 3, 4, 18, 19, 20] (by decide +kernel) rfl ?_ rfl ?_
 rotate_left
 · show T X _ _ _
   refine T.ret ?_
   obtain rfl := Option.some.inj q9
   obtain rfl : _ = _ := i10
   obtain rfl := Option.some.inj h0
   exact PostG.retP (ks := []) (Gst.trans (Gst.only [2, 3] rfl) (Gst.pick [] rfl rfl)) undef (ResL.cons (ResV.tmp rfl) (ResL.cons (ResV.tmp rfl) ResL.nil)) rfl rfl rfl rfl
 iterate 2 refine aB rfl rfl rfl ?_
 refine OpsQ.yes (Want.plain rfl) rfl (OpR.loadPtr 0 rfl rfl rfl rfl) ?_
 iterate 2 refine aB rfl rfl rfl ?_
 exact OpsQ.nil
end Go.Proofs.Ytpmhiiemklhbhaa.S
