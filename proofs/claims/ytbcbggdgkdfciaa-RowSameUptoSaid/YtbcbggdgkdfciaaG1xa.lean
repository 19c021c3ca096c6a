/- Printed by a program of this session's own (gen.py): Lean functions for Go functions, and the proofs that the Go code comes to their answers. -/
import Derived.Test.YtbcbggdgkdfciaaG2xa
set_option linter.unusedVariables false
set_option linter.unusedSimpArgs false
set_option maxRecDepth 20000
namespace Go.Proofs.Ytbcbggdgkdfciaa.S
open Go Go.Sm
attribute [local irreducible] T TL OpR CallT iter loop
noncomputable def law08_cut (a0 : List UInt8) (a1 : Int) : Option (List UInt8) :=
  if (a0.length : Int) > a1 then
    bnd (cut a0 0 a1) fun x2 =>
    some x2
  else
    some a0
set_option maxHeartbeats 4000000 in
theorem law08_cut_c {a0 : List UInt8} {a1 : Int} {res : (List UInt8)} (h0 : law08_cut a0 a1 = some res) : CallF X 24 [.val (.string (bs a0)), .val (.int .i64 a1)] [] (fun x => .val (.string (bs res))) (fun x => []) := by
 unfold law08_cut at h0
 refine CallF.mkG (X := X) Try.func24 rfl rfl Try.ntmps24 rfl rfl ?_
 refine T.seq ?_
 refine T.region ?_
 refine TL.op1 (OpR.pure rfl) rfl ?_
 refine TL.nil ?_
 show T X _ _ _
 refine T.seq ?_
 refine T.seq ?_
 refine T.region ?_
 refine TL.op1 (OpR.pure rfl) rfl ?_
 refine TL.op1 (OpR.cast (OpR.pure rfl) (intE (lenS _))) rfl ?_
 refine TL.op1 (OpR.pure rfl) rfl ?_
 refine TL.op1 (OpR.pure rfl) rfl ?_
 refine TL.nil ?_
 show T X _ _ _
 rcases ite_some h0 with ⟨c1, h0⟩ | ⟨c1, h0⟩
 rotate_left
 · refine T.condF rfl (decide_eq_false c1) ?_
   refine T.skip ?_
   show T X _ _ _
   refine T.seq ?_
   refine T.region ?_
   refine TL.op1 (OpR.pure rfl) rfl ?_
   refine TL.op1 (OpR.pure rfl) rfl ?_
   refine TL.nil ?_
   show T X _ _ _
   refine T.ret ?_
   obtain rfl := Option.some.inj h0
   exact PostG.retP (ks := []) (Gst.only [4] rfl) undef (ResL.cons (ResV.tmp rfl) ResL.nil) rfl rfl rfl rfl
 refine T.condT rfl (decide_eq_true c1) ?_
 refine T.seq ?_
 refine T.region ?_
 refine TL.op1 (OpR.pure rfl) rfl ?_
 refine TL.op1 (OpR.pure rfl) rfl ?_
 obtain ⟨x2, hx2, h0⟩ := bnd_some h0
 refine TL.op1 (OpR.sliceS hx2 rfl rfl rfl BdM.none (BdM.some rfl)) rfl ?_
 refine TL.op1 (OpR.pure rfl) rfl ?_
 refine TL.nil ?_
 show T X _ _ _
 refine T.ret ?_
 obtain rfl := Option.some.inj h0
 exact PostG.retP (ks := []) (Gst.only [4] rfl) undef (ResL.cons (ResV.tmp rfl) ResL.nil) rfl rfl rfl rfl
noncomputable def scan_reader_done (a0 : List UInt8) (a1 : Int) : Option Bool :=
  some (decide (a1 ≥ (a0.length : Int)))
set_option maxHeartbeats 4000000 in
theorem scan_reader_done_c {a0 : List UInt8} {a1 : Int} {b0 : Nat} {res : Bool} (h0 : scan_reader_done a0 a1 = some res) : CallF X 65 [.val (.pointer (some ⟨b0, 0, none⟩))] [.var b0 [.sl 1 (List.map byteD a0), .val (.int .i64 a1)] 145] (fun x => .val (.bool res)) (fun x => [.var b0 [.sl 1 (List.map byteD a0), .val (.int .i64 a1)] 145]) := by
 unfold scan_reader_done at h0
 refine CallF.mkG (X := X) Try.func65 rfl rfl Try.ntmps65 rfl rfl ?_
 refine T.seq ?_
 refine T.region ?_
 refine TL.op1 (OpR.pure rfl) rfl ?_
 refine TL.nil ?_
 show T X _ _ _
 refine T.seq ?_
 refine T.drawQ drawsX [.val (.pointer (some ⟨b0, 0, none⟩)), .val (.pointer (some ⟨b0, 0, none⟩)), .val (.pointer (some ⟨b0, 1, none⟩)), .val (.int .i64 a1), .val (.pointer (some ⟨b0, 0, none⟩)), .val (.pointer (some ⟨b0, 0, none⟩)), .val (.pointer (some ⟨b0, 0, none⟩)), .sl 1 (List.map byteD a0), .val (.int .i64 (a0.length : Int)), .val (.bool (decide (a1 ≥ (a0.length : Int)))), .val (.bool (decide (a1 ≥ (a0.length : Int))))] [0, 2, 3, 4, 5, 6, 7, 8, 9, 10, 11, 12] (by decide +kernel) rfl ?_ rfl ?_
 rotate_left
 · show T X _ _ _
   refine T.ret ?_
   obtain rfl := Option.some.inj h0
   exact PostG.retP (ks := [0]) (Gst.only [2] rfl) undef (ResL.cons (ResV.tmp rfl) ResL.nil) rfl rfl rfl rfl
 refine OpsQ.yes (Want.plain rfl) rfl (OpR.pure rfl) ?_
 refine OpsQ.yes (Want.plain rfl) rfl (OpR.pure rfl) ?_
 refine OpsQ.yes (Want.plain rfl) rfl (OpR.pure rfl) ?_
 refine OpsQ.yes (Want.plain rfl) rfl (OpR.loadPtr 0 rfl rfl rfl rfl) ?_
 refine OpsQ.yes (Want.plain rfl) rfl (OpR.pure rfl) ?_
 refine OpsQ.yes (Want.plain rfl) rfl (OpR.pure rfl) ?_
 refine OpsQ.yes (Want.plain rfl) rfl (OpR.pure rfl) ?_
 refine OpsQ.yes (Want.plain rfl) rfl (OpR.loadPtr 0 rfl rfl rfl rfl) ?_
 refine OpsQ.yes (Want.plain rfl) rfl (OpR.cast (OpR.pure rfl) (intE (lenM _ _))) ?_
 refine OpsQ.yes (Want.plain rfl) rfl (OpR.pure rfl) ?_
 refine OpsQ.yes (Want.plain rfl) rfl (OpR.pure rfl) ?_
 exact OpsQ.nil
noncomputable def scan_reader_is (a0 : UInt8) (a1 : List UInt8) (a2 : Int) : Option Bool :=
  bnd (bnd (scan_reader_done a1 a2) fun x3 =>
  if x3 = true then
    some false
  else
    bnd (idx a1 a2) fun x5 =>
    some ((x5.toNat : Int) == (a0.toNat : Int)) : Option Bool) fun t1 =>
  some t1
set_option maxHeartbeats 4000000 in
theorem scan_reader_is_c {a0 : UInt8} {a1 : List UInt8} {a2 : Int} {b0 : Nat} {res : Bool} (h0 : scan_reader_is a0 a1 a2 = some res) : CallF X 120 [.val (.pointer (some ⟨b0, 0, none⟩)), .val (.int .u8 (a0.toNat : Int))] [.var b0 [.sl 1 (List.map byteD a1), .val (.int .i64 a2)] 145] (fun x => .val (.bool res)) (fun x => [.var b0 [.sl 1 (List.map byteD a1), .val (.int .i64 a2)] 145]) := by
 unfold scan_reader_is at h0
 refine CallF.mkG (X := X) Try.func120 rfl rfl Try.ntmps120 rfl rfl ?_
 refine T.seq ?_
 refine T.region ?_
 refine TL.op1 (OpR.pure rfl) rfl ?_
 refine TL.nil ?_
 show T X _ _ _
 refine T.seq ?_
 obtain ⟨t1, ht1, h0⟩ := bnd_some h0
 refine T.cutC (fun S' => S' = ⟨[(4, .val (.bool t1))], [.var b0 [.sl 1 (List.map byteD a1), .val (.int .i64 a2)] 145], 22⟩) (fun _ h => h) ?_ ?_
 rotate_left
 · rintro _ rfl
   show T X _ _ _
   refine T.ret ?_
   obtain rfl := Option.some.inj h0
   exact PostG.retP (ks := [0]) (Gst.only [4] rfl) undef (ResL.cons (ResV.tmp rfl) ResL.nil) rfl rfl rfl rfl
 obtain ⟨x3, hx3, ht1⟩ := bnd_some ht1
 rcases ite_some ht1 with ⟨c4, ht1⟩ | ⟨c4, ht1⟩
 · refine T.drawQ drawsX [.val (.pointer (some ⟨b0, 0, none⟩)), .val (.bool x3), .val (.bool (!x3)), .val (.bool (!x3)), .tup [], .tup [], .tup [], .tup [], .tup [], .tup [], .tup [], .tup [], .tup [], .tup [], .tup [], .tup [], .val (.bool false), .val (.bool false)] [0, 1, 4, 5, 6, 7, 8, 9, 10, 11, 12, 13, 14, 15, 16, 17, 18, 19, 20, 21] (by decide +kernel) rfl ?_ rfl ?_
   rotate_left
   · obtain rfl := Option.some.inj ht1
     exact ⟨_, Gst.only [4] rfl, rfl⟩
   refine OpsQ.yes (Want.plain rfl) rfl (OpR.pure rfl) ?_
   refine OpsQ.yes (Want.plain rfl) rfl (OpR.call [0] fn65 (scan_reader_done_c hx3) rfl rfl rfl (fun _ => rfl)) ?_
   refine OpsQ.yes (Want.plain rfl) rfl (OpR.pure rfl) ?_
   refine OpsQ.yes (Want.plain rfl) rfl (OpR.pure rfl) ?_
   refine OpsQ.no (Want.bool rfl rfl rfl rfl (by rw [(not_t (c4))]; rfl)) rfl ?_
   refine OpsQ.no (Want.bool rfl rfl rfl rfl (by rw [(not_t (c4))]; rfl)) rfl ?_
   refine OpsQ.no (Want.bool rfl rfl rfl rfl (by rw [(not_t (c4))]; rfl)) rfl ?_
   refine OpsQ.no (Want.bool rfl rfl rfl rfl (by rw [(not_t (c4))]; rfl)) rfl ?_
   refine OpsQ.no (Want.bool rfl rfl rfl rfl (by rw [(not_t (c4))]; rfl)) rfl ?_
   refine OpsQ.no (Want.bool rfl rfl rfl rfl (by rw [(not_t (c4))]; rfl)) rfl ?_
   refine OpsQ.no (Want.bool rfl rfl rfl rfl (by rw [(not_t (c4))]; rfl)) rfl ?_
   refine OpsQ.no (Want.bool rfl rfl rfl rfl (by rw [(not_t (c4))]; rfl)) rfl ?_
   refine OpsQ.no (Want.bool rfl rfl rfl rfl (by rw [(not_t (c4))]; rfl)) rfl ?_
   refine OpsQ.no (Want.bool rfl rfl rfl rfl (by rw [(not_t (c4))]; rfl)) rfl ?_
   refine OpsQ.no (Want.bool rfl rfl rfl rfl (by rw [(not_t (c4))]; rfl)) rfl ?_
   refine OpsQ.no (Want.bool rfl rfl rfl rfl (by rw [(not_t (c4))]; rfl)) rfl ?_
   refine OpsQ.yes (Want.plain rfl) rfl (OpR.pickF rfl (not_t (c4)) rfl) ?_
   refine OpsQ.yes (Want.plain rfl) rfl (OpR.pure rfl) ?_
   exact OpsQ.nil
 obtain ⟨x5, hx5, ht1⟩ := bnd_some ht1
 refine T.drawQ drawsX [.val (.pointer (some ⟨b0, 0, none⟩)), .val (.bool x3), .val (.bool (!x3)), .val (.bool (!x3)), .val (.pointer (some ⟨b0, 0, none⟩)), .val (.pointer (some ⟨b0, 0, none⟩)), .val (.pointer (some ⟨b0, 0, none⟩)), .sl 1 (List.map byteD a1), .val (.pointer (some ⟨b0, 0, none⟩)), .val (.pointer (some ⟨b0, 0, none⟩)), .val (.pointer (some ⟨b0, 1, none⟩)), .val (.int .i64 a2), .nod [.val (.int .u8 (x5.toNat : Int))], .val (.int .u8 (x5.toNat : Int)), .val (.int .u8 (a0.toNat : Int)), .val (.bool ((x5.toNat : Int) == (a0.toNat : Int))), .val (.bool ((x5.toNat : Int) == (a0.toNat : Int))), .val (.bool ((x5.toNat : Int) == (a0.toNat : Int)))] [0, 1, 4, 5, 6, 7, 8, 9, 10, 11, 12, 13, 14, 15, 16, 17, 18, 19, 20, 21] (by decide +kernel) rfl ?_ rfl ?_
 rotate_left
 · obtain rfl := Option.some.inj ht1
   exact ⟨_, Gst.only [4] rfl, rfl⟩
 refine OpsQ.yes (Want.plain rfl) rfl (OpR.pure rfl) ?_
 refine OpsQ.yes (Want.plain rfl) rfl (OpR.call [0] fn65 (scan_reader_done_c hx3) rfl rfl rfl (fun _ => rfl)) ?_
 refine OpsQ.yes (Want.plain rfl) rfl (OpR.pure rfl) ?_
 refine OpsQ.yes (Want.plain rfl) rfl (OpR.pure rfl) ?_
 refine OpsQ.yes (Want.bool rfl rfl rfl rfl (by rw [(not_f (eq_false_of_ne_true c4))]; rfl)) rfl (OpR.pure rfl) ?_
 refine OpsQ.yes (Want.bool rfl rfl rfl rfl (by rw [(not_f (eq_false_of_ne_true c4))]; rfl)) rfl (OpR.pure rfl) ?_
 refine OpsQ.yes (Want.bool rfl rfl rfl rfl (by rw [(not_f (eq_false_of_ne_true c4))]; rfl)) rfl (OpR.pure rfl) ?_
 refine OpsQ.yes (Want.bool rfl rfl rfl rfl (by rw [(not_f (eq_false_of_ne_true c4))]; rfl)) rfl (OpR.loadPtr 0 rfl rfl rfl rfl) ?_
 refine OpsQ.yes (Want.bool rfl rfl rfl rfl (by rw [(not_f (eq_false_of_ne_true c4))]; rfl)) rfl (OpR.pure rfl) ?_
 refine OpsQ.yes (Want.bool rfl rfl rfl rfl (by rw [(not_f (eq_false_of_ne_true c4))]; rfl)) rfl (OpR.pure rfl) ?_
 refine OpsQ.yes (Want.bool rfl rfl rfl rfl (by rw [(not_f (eq_false_of_ne_true c4))]; rfl)) rfl (OpR.pure rfl) ?_
 refine OpsQ.yes (Want.bool rfl rfl rfl rfl (by rw [(not_f (eq_false_of_ne_true c4))]; rfl)) rfl (OpR.loadPtr 0 rfl rfl rfl rfl) ?_
 refine OpsQ.yes (Want.bool rfl rfl rfl rfl (by rw [(not_f (eq_false_of_ne_true c4))]; rfl)) rfl (OpR.indexM byteD hx5 rfl rfl rfl rfl rfl) ?_
 refine OpsQ.yes (Want.bool rfl rfl rfl rfl (by rw [(not_f (eq_false_of_ne_true c4))]; rfl)) rfl (OpR.pure rfl) ?_
 refine OpsQ.yes (Want.bool rfl rfl rfl rfl (by rw [(not_f (eq_false_of_ne_true c4))]; rfl)) rfl (OpR.pure rfl) ?_
 refine OpsQ.yes (Want.bool rfl rfl rfl rfl (by rw [(not_f (eq_false_of_ne_true c4))]; rfl)) rfl (OpR.pure rfl) ?_
 refine OpsQ.yes (Want.plain rfl) rfl (OpR.pickT rfl (not_f (eq_false_of_ne_true c4)) rfl) ?_
 refine OpsQ.yes (Want.plain rfl) rfl (OpR.pure rfl) ?_
 exact OpsQ.nil
noncomputable def scan_parts_add_2 (a0 : Int) (a1 : Int) (a2 : List arena_Span) : Option (List arena_Span) :=
  if a1 ≤ a0 then
    some a2
  else
    bnd (if (w64 ((a2.length : Int) - 1)) ≥ 0 then
      bnd (idx a2 (w64 ((a2.length : Int) - 1))) fun x7 =>
      bnd (arena_Join x7 (⟨a0, w64 (a1 - a0)⟩ : arena_Span)) fun x8 =>
      if x8.2 = true then
        some (Ex.ret (a2.set (w64 ((a2.length : Int) - 1)).toNat x8.1))
      else
        some (Ex.brk ())
    else
      some (Ex.brk ()) : Option (Ex Unit (List arena_Span))) fun t3 => match t3 with
      | .brk u4 =>
        bnd (app 16 a2 [(⟨a0, w64 (a1 - a0)⟩ : arena_Span)]) fun x12 =>
        some x12
      | .ret u4 => some u4
set_option maxHeartbeats 4000000 in
theorem scan_parts_add_2_c {a0 : Int} {a1 : Int} {a2 : List arena_Span} {b0 : Nat} {v1 : Value} {res : (List arena_Span)} (h0 : scan_parts_add_2 a0 a1 a2 = some res) : CallF X 202 [.val (.pointer (some ⟨b0, 0, none⟩)), .val (.int .i64 a0), .val (.int .i64 a1)] [.var b0 [.val v1] 283, .row v1 (List.map e_arena_Span a2) 2 88] (fun x => .tup []) (fun x => [.var b0 [.val (vn x 0)] 283, .row (vn x 0) (List.map e_arena_Span res) 2 88]) := by
 unfold scan_parts_add_2 at h0
 refine CallF.mkG (X := X) Try.func202 rfl rfl Try.ntmps202 rfl rfl ?_
 refine T.seq ?_
 refine T.seq ?_
 refine T.region ?_
 refine TL.op1 (OpR.pure rfl) rfl ?_
 refine TL.op1 (OpR.pure rfl) rfl ?_
 refine TL.op1 (OpR.pure rfl) rfl ?_
 refine TL.nil ?_
 show T X _ _ _
 rcases ite_some h0 with ⟨c1, h0⟩ | ⟨c1, h0⟩
 · refine T.condT rfl (decide_eq_true c1) ?_
   refine T.ret ?_
   obtain rfl := Option.some.inj h0
   exact PostG.retP (ks := [0, 1]) (Gst.only [] rfl) (.tuple #[v1]) ResL.nil rfl rfl rfl rfl
 refine T.condF rfl (decide_eq_false c1) ?_
 refine T.skip ?_
 show T X _ _ _
 refine T.seq ?_
 refine T.region ?_
 refine TL.op1 (OpR.pure rfl) rfl ?_
 refine TL.op1 (OpR.pure rfl) rfl ?_
 refine TL.op1 (OpR.pure rfl) rfl ?_
 refine TL.op1 (OpR.pure rfl) rfl ?_
 refine TL.op1 (OpR.build rfl rfl rfl rfl rfl) rfl ?_
 refine TL.op (OpR.alloc rfl rfl (fun _ => rfl)) rfl (fun p2 => ?_)
 refine TL.op0 (OpR.store 2 rfl rfl rfl rfl rfl rfl rfl rfl) ?_
 refine TL.nil ?_
 show T X _ _ _
 refine T.seq ?_
 refine T.seq ?_
 refine T.region ?_
 refine TL.op1 (OpR.pure rfl) rfl ?_
 refine TL.op1 (OpR.pure rfl) rfl ?_
 refine TL.op1 (OpR.loadPtr 0 rfl rfl rfl rfl) rfl ?_
 refine TL.op1 (OpR.rowLenM e_arena_Span 1 rfl rfl rfl rfl) rfl ?_
 refine TL.op1 (OpR.pure rfl) rfl ?_
 refine TL.op1 (OpR.pure rfl) rfl ?_
 refine TL.nil ?_
 show T X _ _ _
 refine T.seq ?_
 refine T.region ?_
 refine TL.op1 (OpR.pure rfl) rfl ?_
 refine TL.op1 (OpR.pure rfl) rfl ?_
 refine TL.nil ?_
 show T X _ _ _
 obtain ⟨t3, ht3, h0⟩ := bnd_some h0
 refine T.cutC (fun S' => ∃ u4, t3 = Ex.brk u4 ∧ S' = ⟨[(6, .val (.pointer (some ⟨(blk p2), 0, none⟩))), (0, .val (.pointer (some ⟨b0, 0, none⟩)))], [.var b0 [.val v1] 283, .row v1 (List.map e_arena_Span a2) 2 88, .var (blk p2) [.val (.int .i64 a0), .val (.int .i64 (w64 (a1 - a0)))] 88], 51⟩) (fun _ h => h) ?_ ?_
 rotate_left
 · rintro _ ⟨u4, rfl, rfl⟩
   show T X _ _ _
   obtain ⟨x12, hx12, h0⟩ := bnd_some h0
   refine T.drawS drawsX (fun env11 => [.val (.pointer (some ⟨b0, 0, none⟩)), .val (.pointer (some ⟨b0, 0, none⟩)), .val (.pointer (some ⟨b0, 0, none⟩)), .val v1, .agg [.val (.int .i64 a0), .val (.int .i64 (w64 (a1 - a0)))], .sl 2 (List.map e_arena_Span [(⟨a0, w64 (a1 - a0)⟩ : arena_Span)]), .val (env11 6), .val (.pointer (some ⟨b0, 0, none⟩)), .dead]) (fun D env11 => [(bif D 8 then .var b0 [.val (env11 6)] 283 else .var b0 [.val v1] 283), (bif D 6 then .row (env11 6) (List.map e_arena_Span x12) 2 88 else .row v1 (List.map e_arena_Span a2) 2 88), .var (blk p2) [.val (.int .i64 a0), .val (.int .i64 (w64 (a1 - a0)))] 88]) [0, 0, 2, 6, 0, 16, 62, 127, 255] [0, 6, 43, 44, 45, 46, 47, 48, 49, 50] (fun env11 => [.var b0 [.val (env11 6)] 283, .row (env11 6) (List.map e_arena_Span x12) 2 88, .var (blk p2) [.val (.int .i64 a0), .val (.int .i64 (w64 (a1 - a0)))] 88]) (by decide +kernel) (by decide +kernel) (fun _ => rfl) (fun _ => rfl) ?_ (fun _ => rfl) (fun _ => rfl) ?_
   rotate_left
   · intro env11
     obtain rfl := Option.some.inj h0
     exact PostG.finP (ks := [0, 1]) (Gst.trans (Gst.only [] rfl) (Gst.pick [0, 1] rfl rfl)) (.tuple #[(env11 6)]) ResL.nil rfl rfl rfl rfl
   refine oS (d := .val (.pointer (some ⟨b0, 0, none⟩))) (fun _ => Want.plain rfl) (fun _ => rfl) (fun _ _ _ => rfl) (fun _ _ => OpR.pure rfl) (fun _ _ _ _ _ _ _ => rfl) ?_
   refine oS (d := .val (.pointer (some ⟨b0, 0, none⟩))) (fun _ => Want.plain rfl) (fun _ => rfl) (fun _ _ _ => rfl) (fun _ _ => OpR.pure rfl) (fun _ _ _ _ _ _ _ => rfl) ?_
   refine oS (d := .val (.pointer (some ⟨b0, 0, none⟩))) (fun _ => Want.plain rfl) (fun _ => rfl) (fun _ _ _ => rfl) (fun _ _ => OpR.pure rfl) (fun _ _ _ _ _ _ _ => rfl) ?_
   refine OpsS.cons' true ?_ (fun _ _ _ _ _ _ _ => rfl) ?_
   · intro D env11 hA
     have e6 : D 6 = false := hA.no 6 _ rfl rfl
     have e8 : D 8 = false := hA.no 8 _ rfl rfl
     exact OpS.yes (o0 := [.var b0 [.val v1] 283, .row v1 (List.map e_arena_Span a2) 2 88, .var (blk p2) [.val (.int .i64 a0), .val (.int .i64 (w64 (a1 - a0)))] 88]) (o1 := fun x => [.var b0 [.val v1] 283, .row v1 (List.map e_arena_Span a2) 2 88, .var (blk p2) [.val (.int .i64 a0), .val (.int .i64 (w64 (a1 - a0)))] 88]) (d := fun x => .val v1) (Want.plain rfl) (by first | rfl | simp only [e6, e8, cond_true, cond_false, List.cons_append, List.nil_append, List.append_nil]) (fun x => by first | rfl | simp only [ins_self, ins_ne D (show 3 ≠ 6 by decide), ins_ne D (show 3 ≠ 8 by decide), upd_self, upd_ne env11 x (show 3 ≠ 6 by decide), e6, e8, cond_true, cond_false, List.cons_append, List.nil_append, List.append_nil]) (fun x => rfl) (OpR.loadPtr 0 rfl rfl rfl rfl)
   refine oS (d := .agg [.val (.int .i64 a0), .val (.int .i64 (w64 (a1 - a0)))]) (fun _ => Want.plain rfl) (fun _ => rfl) (fun _ _ _ => rfl) (fun _ _ => OpR.loadPtr 2 rfl rfl rfl rfl) (fun _ _ _ _ _ _ _ => rfl) ?_
   refine oS (d := .sl 2 (List.map e_arena_Span [(⟨a0, w64 (a1 - a0)⟩ : arena_Span)])) (fun _ => Want.plain rfl) (fun _ => rfl) (fun _ _ _ => rfl) (fun _ _ => OpR.lit rfl rfl rfl rfl rfl rfl rfl) (fun _ _ _ _ _ _ _ => rfl) ?_
   refine OpsS.cons' true ?_ (fun D hA env11 x j hj hD => match j, hj, hD with | 0, _, _ => rfl | 1, _, _ => rfl | 2, _, _ => rfl | 3, _, _ => rfl | 4, _, _ => rfl | 5, _, _ => rfl | 6, hj, _ => absurd rfl hj | 7, _, _ => rfl | 8, _, _ => rfl | _ + 9, _, _ => rfl) ?_
   · intro D env11 hA
     have e8 : D 8 = false := hA.no 8 _ rfl rfl
     exact OpS.yes (o0 := [.var b0 [.val v1] 283, .row v1 (List.map e_arena_Span a2) 2 88, .var (blk p2) [.val (.int .i64 a0), .val (.int .i64 (w64 (a1 - a0)))] 88]) (o1 := fun x => [.var b0 [.val v1] 283, .row x (List.map e_arena_Span x12) 2 88, .var (blk p2) [.val (.int .i64 a0), .val (.int .i64 (w64 (a1 - a0)))] 88]) (d := fun x => .val x) (Want.plain rfl) (by first | rfl | simp only [e8, hA.me, cond_true, cond_false, List.cons_append, List.nil_append, List.append_nil]) (fun x => by first | rfl | simp only [ins_self, ins_ne D (show 6 ≠ 8 by decide), upd_self, e8, hA.me, cond_true, cond_false, List.cons_append, List.nil_append, List.append_nil]) (fun x => rfl) (OpR.appendM (m := [(⟨a0, w64 (a1 - a0)⟩ : arena_Span)]) e_arena_Span 1 hx12 rfl rfl rfl rfl rfl rfl rfl rfl rfl (fun _ => rfl))
   refine oS (d := .val (.pointer (some ⟨b0, 0, none⟩))) (fun _ => Want.plain rfl) (fun _ => rfl) (fun _ _ _ => rfl) (fun _ _ => OpR.pure rfl) (fun _ _ _ _ _ _ _ => rfl) ?_
   refine OpsS.cons' true ?_ (fun _ _ _ _ _ _ _ => rfl) ?_
   · intro D env11 hA
     have e6 : D 6 = true := hA.yes 6 _ rfl rfl
     exact OpS.yes (o0 := [.var b0 [.val v1] 283, .row (env11 6) (List.map e_arena_Span x12) 2 88, .var (blk p2) [.val (.int .i64 a0), .val (.int .i64 (w64 (a1 - a0)))] 88]) (o1 := fun x => [.var b0 [.val (env11 6)] 283, .row (env11 6) (List.map e_arena_Span x12) 2 88, .var (blk p2) [.val (.int .i64 a0), .val (.int .i64 (w64 (a1 - a0)))] 88]) (d := fun x => .dead) (Want.plain rfl) (by first | rfl | simp only [e6, hA.me, cond_true, cond_false, List.cons_append, List.nil_append, List.append_nil]) (fun x => by first | rfl | simp only [ins_self, ins_ne D (show 8 ≠ 6 by decide), upd_self, upd_ne env11 x (show 8 ≠ 6 by decide), e6, hA.me, cond_true, cond_false, List.cons_append, List.nil_append, List.append_nil]) (fun x => rfl) (OpR.store 0 rfl rfl rfl rfl rfl rfl rfl rfl)
   exact trivial
 rcases ite_some ht3 with ⟨c5, ht3⟩ | ⟨c5, ht3⟩
 rotate_left
 · refine T.condF rfl (decide_eq_false c5) ?_
   refine T.skip ?_
   obtain rfl := Option.some.inj ht3
   exact ⟨_, Gst.only [0, 6] rfl, _, rfl, rfl⟩
 refine T.condT rfl (decide_eq_true c5) ?_
 refine T.seq ?_
 obtain ⟨x7, hx7, ht3⟩ := bnd_some ht3
 obtain ⟨x8, hx8, ht3⟩ := bnd_some ht3
 refine T.drawS drawsX (fun env6 => [.val (.pointer (some ⟨b0, 0, none⟩)), .val (.pointer (some ⟨b0, 0, none⟩)), .val v1, .val (.int .i64 (w64 ((a2.length : Int) - 1))), .val (.pointer (some ⟨blk v1, (w64 ((a2.length : Int) - 1)).toNat * 2, none⟩)), .agg [.val (.int .i64 x7.fAt), .val (.int .i64 x7.fN)], .agg [.val (.int .i64 a0), .val (.int .i64 (w64 (a1 - a0)))], .tup [.agg [.val (.int .i64 x8.1.fAt), .val (.int .i64 x8.1.fN)], .val (.bool x8.2)], .tup [.agg [.val (.int .i64 x8.1.fAt), .val (.int .i64 x8.1.fN)], .val (.bool x8.2)], .agg [.val (.int .i64 x8.1.fAt), .val (.int .i64 x8.1.fN)], .val (.bool x8.2), .val (.pointer (some ⟨(blk (env6 11)), 0, none⟩)), .dead, .val (.bool x8.2)]) (fun D env6 => [.var b0 [.val v1] 283, .row v1 (List.map e_arena_Span a2) 2 88, .var (blk p2) [.val (.int .i64 a0), .val (.int .i64 (w64 (a1 - a0)))] 88] ++ (bif D 11 then [(bif D 12 then .var (blk (env6 11)) [.val (.int .i64 x8.1.fAt), .val (.int .i64 x8.1.fN)] 88 else .var (blk (env6 11)) [.val (.int .i64 0), .val (.int .i64 0)] 88)] else [])) [0, 1, 3, 0, 15, 31, 0, 127, 255, 511, 511, 0, 3071, 8191] [0, 1, 2, 6, 7, 8, 9, 10, 11, 12, 13, 14, 15, 16, 17, 18, 19, 20, 21, 22, 23, 24, 25, 26, 27, 28, 29, 31, 32, 33, 34, 35] (fun env6 => [.var b0 [.val v1] 283, .row v1 (List.map e_arena_Span a2) 2 88, .var (blk p2) [.val (.int .i64 a0), .val (.int .i64 (w64 (a1 - a0)))] 88, .var (blk (env6 11)) [.val (.int .i64 x8.1.fAt), .val (.int .i64 x8.1.fN)] 88]) (by decide +kernel) (by decide +kernel) (fun _ => rfl) (fun _ => rfl) ?_ (fun _ => rfl) (fun _ => rfl) ?_
 · refine oS (d := .val (.pointer (some ⟨b0, 0, none⟩))) (fun _ => Want.plain rfl) (fun _ => rfl) (fun _ _ _ => rfl) (fun _ _ => OpR.pure rfl) (fun _ _ _ _ _ _ _ => rfl) ?_
   refine oS (d := .val (.pointer (some ⟨b0, 0, none⟩))) (fun _ => Want.plain rfl) (fun _ => rfl) (fun _ _ _ => rfl) (fun _ _ => OpR.pure rfl) (fun _ _ _ _ _ _ _ => rfl) ?_
   refine oS (d := .val v1) (fun _ => Want.plain rfl) (fun _ => rfl) (fun _ _ _ => rfl) (fun _ _ => OpR.loadPtr 0 rfl rfl rfl rfl) (fun _ _ _ _ _ _ _ => rfl) ?_
   refine oS (d := .val (.int .i64 (w64 ((a2.length : Int) - 1)))) (fun _ => Want.plain rfl) (fun _ => rfl) (fun _ _ _ => rfl) (fun _ _ => OpR.pure rfl) (fun _ _ _ _ _ _ _ => rfl) ?_
   refine oS (d := .val (.pointer (some ⟨blk v1, (w64 ((a2.length : Int) - 1)).toNat * 2, none⟩))) (fun _ => Want.plain rfl) (fun _ => rfl) (fun _ _ _ => rfl) (fun _ _ => OpR.rowIndexM e_arena_Span 1 hx7 rfl rfl rfl rfl rfl rfl rfl) (fun _ _ _ _ _ _ _ => rfl) ?_
   refine oS (d := .agg [.val (.int .i64 x7.fAt), .val (.int .i64 x7.fN)]) (fun _ => Want.plain rfl) (fun _ => rfl) (fun _ _ _ => rfl) (fun _ _ => OpR.rowLoad0M (j := w64 ((a2.length : Int) - 1)) e_arena_Span 1 hx7 rfl rfl rfl rfl) (fun _ _ _ _ _ _ _ => rfl) ?_
   refine oS (d := .agg [.val (.int .i64 a0), .val (.int .i64 (w64 (a1 - a0)))]) (fun _ => Want.plain rfl) (fun _ => rfl) (fun _ _ _ => rfl) (fun _ _ => OpR.loadPtr 2 rfl rfl rfl rfl) (fun _ _ _ _ _ _ _ => rfl) ?_
   refine oS (d := .tup [.agg [.val (.int .i64 x8.1.fAt), .val (.int .i64 x8.1.fN)], .val (.bool x8.2)]) (fun _ => Want.plain rfl) (fun _ => rfl) (fun _ _ _ => rfl) (fun _ _ => OpR.call0 fn128 (arena_Join_c hx8) rfl) (fun _ _ _ _ _ _ _ => rfl) ?_
   refine oS (d := .tup [.agg [.val (.int .i64 x8.1.fAt), .val (.int .i64 x8.1.fN)], .val (.bool x8.2)]) (fun _ => Want.plain rfl) (fun _ => rfl) (fun _ _ _ => rfl) (fun _ _ => OpR.pure rfl) (fun _ _ _ _ _ _ _ => rfl) ?_
   refine oS (d := .agg [.val (.int .i64 x8.1.fAt), .val (.int .i64 x8.1.fN)]) (fun _ => Want.plain rfl) (fun _ => rfl) (fun _ _ _ => rfl) (fun _ _ => OpR.pure rfl) (fun _ _ _ _ _ _ _ => rfl) ?_
   refine oS (d := .val (.bool x8.2)) (fun _ => Want.plain rfl) (fun _ => rfl) (fun _ _ _ => rfl) (fun _ _ => OpR.pure rfl) (fun _ _ _ _ _ _ _ => rfl) ?_
   refine OpsS.cons' true ?_ (fun D hA env6 x j hj hD => match j, hj, hD with | 0, _, _ => rfl | 1, _, _ => rfl | 2, _, _ => rfl | 3, _, _ => rfl | 4, _, _ => rfl | 5, _, _ => rfl | 6, _, _ => rfl | 7, _, _ => rfl | 8, _, _ => rfl | 9, _, _ => rfl | 10, _, _ => rfl | 11, hj, _ => absurd rfl hj | 12, _, _ => rfl | 13, _, _ => rfl | _ + 14, _, _ => rfl) ?_
   · intro D env6 hA
     have e12 : D 12 = false := hA.no 12 _ rfl rfl
     exact OpS.yes (o0 := [.var b0 [.val v1] 283, .row v1 (List.map e_arena_Span a2) 2 88, .var (blk p2) [.val (.int .i64 a0), .val (.int .i64 (w64 (a1 - a0)))] 88]) (o1 := fun x => [.var b0 [.val v1] 283, .row v1 (List.map e_arena_Span a2) 2 88, .var (blk p2) [.val (.int .i64 a0), .val (.int .i64 (w64 (a1 - a0)))] 88, .var (blk x) [.val (.int .i64 0), .val (.int .i64 0)] 88]) (d := fun x => .val (.pointer (some ⟨(blk x), 0, none⟩))) (Want.plain rfl) (by first | rfl | simp only [e12, hA.me, cond_true, cond_false, List.cons_append, List.nil_append, List.append_nil]) (fun x => by first | rfl | simp only [ins_self, ins_ne D (show 11 ≠ 12 by decide), upd_self, e12, hA.me, cond_true, cond_false, List.cons_append, List.nil_append, List.append_nil]) (fun x => rfl) (OpR.alloc rfl rfl (fun _ => rfl))
   refine OpsS.cons' true ?_ (fun _ _ _ _ _ _ _ => rfl) ?_
   · intro D env6 hA
     have e11 : D 11 = true := hA.yes 11 _ rfl rfl
     exact OpS.yes (o0 := [.var b0 [.val v1] 283, .row v1 (List.map e_arena_Span a2) 2 88, .var (blk p2) [.val (.int .i64 a0), .val (.int .i64 (w64 (a1 - a0)))] 88, .var (blk (env6 11)) [.val (.int .i64 0), .val (.int .i64 0)] 88]) (o1 := fun x => [.var b0 [.val v1] 283, .row v1 (List.map e_arena_Span a2) 2 88, .var (blk p2) [.val (.int .i64 a0), .val (.int .i64 (w64 (a1 - a0)))] 88, .var (blk (env6 11)) [.val (.int .i64 x8.1.fAt), .val (.int .i64 x8.1.fN)] 88]) (d := fun x => .dead) (Want.plain rfl) (by first | rfl | simp only [e11, hA.me, cond_true, cond_false, List.cons_append, List.nil_append, List.append_nil]) (fun x => by first | rfl | simp only [ins_self, ins_ne D (show 12 ≠ 11 by decide), upd_self, upd_ne env6 x (show 12 ≠ 11 by decide), e11, hA.me, cond_true, cond_false, List.cons_append, List.nil_append, List.append_nil]) (fun x => rfl) (OpR.store 3 rfl rfl rfl rfl rfl rfl rfl rfl)
   refine oS (d := .val (.bool x8.2)) (fun _ => Want.plain rfl) (fun _ => rfl) (fun _ _ _ => rfl) (fun _ _ => OpR.pure rfl) (fun _ _ _ _ _ _ _ => rfl) ?_
   exact trivial
 intro env6
 show T X _ _ _
 refine T.seq ?_
 refine T.region ?_
 refine TL.op1 (OpR.pure rfl) rfl ?_
 refine TL.nil ?_
 show T X _ _ _
 rcases ite_some ht3 with ⟨c9, ht3⟩ | ⟨c9, ht3⟩
 rotate_left
 · refine T.condF rfl (eq_false_of_ne_true c9) ?_
   refine T.skip ?_
   obtain rfl := Option.some.inj ht3
   exact ⟨_, Gst.trans (Gst.only [0, 6] rfl) (Gst.pick [0, 1, 2] rfl rfl), _, rfl, rfl⟩
 refine T.condT rfl (c9) ?_
 refine T.seq ?_
 refine T.drawS drawsX (fun env10 => [.val (.pointer (some ⟨b0, 0, none⟩)), .val (.pointer (some ⟨b0, 0, none⟩)), .val v1, .val (.int .i64 (w64 ((a2.length : Int) - 1))), .agg [.val (.int .i64 x8.1.fAt), .val (.int .i64 x8.1.fN)], .val (.pointer (some ⟨blk v1, (w64 ((a2.length : Int) - 1)).toNat * 2, none⟩)), .dead]) (fun D env10 => [.var b0 [.val v1] 283, (bif D 6 then .row v1 (List.map e_arena_Span (a2.set (w64 ((a2.length : Int) - 1)).toNat x8.1)) 2 88 else .row v1 (List.map e_arena_Span a2) 2 88), .var (blk p2) [.val (.int .i64 a0), .val (.int .i64 (w64 (a1 - a0)))] 88, .var (blk (env6 11)) [.val (.int .i64 x8.1.fAt), .val (.int .i64 x8.1.fN)] 88]) [0, 1, 3, 0, 0, 31, 63] [0, 1, 2, 6, 7, 8, 9, 10, 11, 12, 13, 14, 15, 16, 17, 18, 19, 20, 21, 22, 23, 24, 25, 26, 27, 28, 29, 31, 32, 33, 34, 35, 36, 37, 38, 39, 40, 41] (fun env10 => [.var b0 [.val v1] 283, .row v1 (List.map e_arena_Span (a2.set (w64 ((a2.length : Int) - 1)).toNat x8.1)) 2 88, .var (blk p2) [.val (.int .i64 a0), .val (.int .i64 (w64 (a1 - a0)))] 88, .var (blk (env6 11)) [.val (.int .i64 x8.1.fAt), .val (.int .i64 x8.1.fN)] 88]) (by decide +kernel) (by decide +kernel) (fun _ => rfl) (fun _ => rfl) ?_ (fun _ => rfl) (fun _ => rfl) ?_
 rotate_left
 · intro env10
   show T X _ _ _
   refine T.ret ?_
   obtain rfl := Option.some.inj ht3
   obtain rfl := Option.some.inj h0
   exact PostG.retP (ks := [0, 1]) (Gst.trans (Gst.only [] rfl) (Gst.pick [0, 1] rfl rfl)) (.tuple #[v1]) ResL.nil rfl rfl rfl rfl
 refine oS (d := .val (.pointer (some ⟨b0, 0, none⟩))) (fun _ => Want.plain rfl) (fun _ => rfl) (fun _ _ _ => rfl) (fun _ _ => OpR.pure rfl) (fun _ _ _ _ _ _ _ => rfl) ?_
 refine oS (d := .val (.pointer (some ⟨b0, 0, none⟩))) (fun _ => Want.plain rfl) (fun _ => rfl) (fun _ _ _ => rfl) (fun _ _ => OpR.pure rfl) (fun _ _ _ _ _ _ _ => rfl) ?_
 refine oS (d := .val v1) (fun _ => Want.plain rfl) (fun _ => rfl) (fun _ _ _ => rfl) (fun _ _ => OpR.loadPtr 0 rfl rfl rfl rfl) (fun _ _ _ _ _ _ _ => rfl) ?_
 refine oS (d := .val (.int .i64 (w64 ((a2.length : Int) - 1)))) (fun _ => Want.plain rfl) (fun _ => rfl) (fun _ _ _ => rfl) (fun _ _ => OpR.pure rfl) (fun _ _ _ _ _ _ _ => rfl) ?_
 refine oS (d := .agg [.val (.int .i64 x8.1.fAt), .val (.int .i64 x8.1.fN)]) (fun _ => Want.plain rfl) (fun _ => rfl) (fun _ _ _ => rfl) (fun _ _ => OpR.loadPtr 3 rfl rfl rfl rfl) (fun _ _ _ _ _ _ _ => rfl) ?_
 refine OpsS.cons' true ?_ (fun _ _ _ _ _ _ _ => rfl) ?_
 · intro D env10 hA
   have e6 : D 6 = false := hA.no 6 _ rfl rfl
   exact OpS.yes (o0 := [.var b0 [.val v1] 283, .row v1 (List.map e_arena_Span a2) 2 88, .var (blk p2) [.val (.int .i64 a0), .val (.int .i64 (w64 (a1 - a0)))] 88, .var (blk (env6 11)) [.val (.int .i64 x8.1.fAt), .val (.int .i64 x8.1.fN)] 88]) (o1 := fun x => [.var b0 [.val v1] 283, .row v1 (List.map e_arena_Span a2) 2 88, .var (blk p2) [.val (.int .i64 a0), .val (.int .i64 (w64 (a1 - a0)))] 88, .var (blk (env6 11)) [.val (.int .i64 x8.1.fAt), .val (.int .i64 x8.1.fN)] 88]) (d := fun x => .val (.pointer (some ⟨blk v1, (w64 ((a2.length : Int) - 1)).toNat * 2, none⟩))) (Want.plain rfl) (by first | rfl | simp only [e6, cond_true, cond_false, List.cons_append, List.nil_append, List.append_nil]) (fun x => by first | rfl | simp only [ins_self, ins_ne D (show 5 ≠ 6 by decide), upd_self, e6, cond_true, cond_false, List.cons_append, List.nil_append, List.append_nil]) (fun x => rfl) (OpR.rowIndexM e_arena_Span 1 hx7 rfl rfl rfl rfl rfl rfl rfl)
 refine OpsS.cons' true ?_ (fun _ _ _ _ _ _ _ => rfl) ?_
 · intro D env10 hA
   exact OpS.yes (o0 := [.var b0 [.val v1] 283, .row v1 (List.map e_arena_Span a2) 2 88, .var (blk p2) [.val (.int .i64 a0), .val (.int .i64 (w64 (a1 - a0)))] 88, .var (blk (env6 11)) [.val (.int .i64 x8.1.fAt), .val (.int .i64 x8.1.fN)] 88]) (o1 := fun x => [.var b0 [.val v1] 283, .row v1 (List.map e_arena_Span (a2.set (w64 ((a2.length : Int) - 1)).toNat x8.1)) 2 88, .var (blk p2) [.val (.int .i64 a0), .val (.int .i64 (w64 (a1 - a0)))] 88, .var (blk (env6 11)) [.val (.int .i64 x8.1.fAt), .val (.int .i64 x8.1.fN)] 88]) (d := fun x => .dead) (Want.plain rfl) (by first | rfl | simp only [hA.me, cond_true, cond_false, List.cons_append, List.nil_append, List.append_nil]) (fun x => by first | rfl | simp only [ins_self, upd_self, hA.me, cond_true, cond_false, List.cons_append, List.nil_append, List.append_nil]) (fun x => rfl) (OpR.rowStore0M (j := w64 ((a2.length : Int) - 1)) e_arena_Span x8.1 1 hx7 rfl rfl rfl rfl rfl rfl rfl rfl rfl)
 exact trivial
noncomputable def scan_reader_marked (a0 : List UInt8) (a1 : Int) : Option Bool :=
  bnd (scan_reader_done a0 a1) fun x1 =>
  if x1 = true then
    some true
  else
    bnd (idx a0 a1) fun x4 =>
    bnd (if (x4.toNat : Int) = 44 then
      some ((x4.toNat : Int) == 44)
    else
      if (x4.toNat : Int) = 13 then
        some ((x4.toNat : Int) == 13)
      else
        some ((x4.toNat : Int) == 10) : Option Bool) fun t5 =>
    if t5 = true then
      some true
    else
      some false
set_option maxHeartbeats 4000000 in
theorem scan_reader_marked_c {a0 : List UInt8} {a1 : Int} {b0 : Nat} {res : Bool} (h0 : scan_reader_marked a0 a1 = some res) : CallF X 216 [.val (.pointer (some ⟨b0, 0, none⟩))] [.var b0 [.sl 1 (List.map byteD a0), .val (.int .i64 a1)] 145] (fun x => .val (.bool res)) (fun x => [.var b0 [.sl 1 (List.map byteD a0), .val (.int .i64 a1)] 145]) := by
 unfold scan_reader_marked at h0
 refine CallF.mkG (X := X) Try.func216 rfl rfl Try.ntmps216 rfl rfl ?_
 refine T.seq ?_
 refine T.region ?_
 refine TL.op1 (OpR.pure rfl) rfl ?_
 refine TL.nil ?_
 show T X _ _ _
 refine T.seq ?_
 refine T.seq ?_
 refine T.region ?_
 refine TL.op1 (OpR.pure rfl) rfl ?_
 obtain ⟨x1, hx1, h0⟩ := bnd_some h0
 refine TL.op1 (OpR.call [0] fn65 (scan_reader_done_c hx1) rfl rfl rfl (fun _ => rfl)) rfl ?_
 refine TL.nil ?_
 show T X _ _ _
 rcases ite_some h0 with ⟨c2, h0⟩ | ⟨c2, h0⟩
 · refine T.condT rfl (c2) ?_
   refine T.seq ?_
   refine T.region ?_
   refine TL.op1 (OpR.pure rfl) rfl ?_
   refine TL.nil ?_
   show T X _ _ _
   refine T.ret ?_
   obtain rfl := Option.some.inj h0
   exact PostG.retP (ks := [0]) (Gst.only [2] rfl) undef (ResL.cons (ResV.tmp rfl) ResL.nil) rfl rfl rfl rfl
 refine T.condF rfl (eq_false_of_ne_true c2) ?_
 refine T.skip ?_
 show T X _ _ _
 refine T.seq ?_
 refine T.seq ?_
 obtain ⟨x4, hx4, h0⟩ := bnd_some h0
 refine T.drawQ drawsX [.val (.pointer (some ⟨b0, 0, none⟩)), .val (.pointer (some ⟨b0, 0, none⟩)), .val (.pointer (some ⟨b0, 0, none⟩)), .sl 1 (List.map byteD a0), .val (.pointer (some ⟨b0, 0, none⟩)), .val (.pointer (some ⟨b0, 0, none⟩)), .val (.pointer (some ⟨b0, 1, none⟩)), .val (.int .i64 a1), .nod [.val (.int .u8 (x4.toNat : Int))], .val (.int .u8 (x4.toNat : Int))] [0, 2, 3, 4, 5, 6, 7, 8, 9, 10, 11, 12, 13, 14] (by decide +kernel) rfl ?_ rfl ?_
 · refine OpsQ.yes (Want.plain rfl) rfl (OpR.pure rfl) ?_
   refine OpsQ.yes (Want.plain rfl) rfl (OpR.pure rfl) ?_
   refine OpsQ.yes (Want.plain rfl) rfl (OpR.pure rfl) ?_
   refine OpsQ.yes (Want.plain rfl) rfl (OpR.loadPtr 0 rfl rfl rfl rfl) ?_
   refine OpsQ.yes (Want.plain rfl) rfl (OpR.pure rfl) ?_
   refine OpsQ.yes (Want.plain rfl) rfl (OpR.pure rfl) ?_
   refine OpsQ.yes (Want.plain rfl) rfl (OpR.pure rfl) ?_
   refine OpsQ.yes (Want.plain rfl) rfl (OpR.loadPtr 0 rfl rfl rfl rfl) ?_
   refine OpsQ.yes (Want.plain rfl) rfl (OpR.indexM byteD hx4 rfl rfl rfl rfl rfl) ?_
   refine OpsQ.yes (Want.plain rfl) rfl (OpR.pure rfl) ?_
   exact OpsQ.nil
 show T X _ _ _
 refine T.block ?_
 refine T.seq ?_
 refine T.seq ?_
 refine T.region ?_
 refine TL.op1 (OpR.pure rfl) rfl ?_
 refine TL.op1 (OpR.pure rfl) rfl ?_
 refine TL.nil ?_
 show T X _ _ _
 obtain ⟨t5, ht5, h0⟩ := bnd_some h0
 refine T.cutC (fun S' => S' = ⟨[(15, .val (.bool t5)), (2, .val (.bool false))], [.var b0 [.sl 1 (List.map byteD a0), .val (.int .i64 a1)] 145], 19⟩) (fun _ h => h) ?_ ?_
 rotate_left
 · rintro _ rfl
   show T X _ _ _
   rcases ite_some h0 with ⟨c8, h0⟩ | ⟨c8, h0⟩
   · refine T.condT rfl (c8) ?_
     refine T.seq ?_
     refine T.region ?_
     refine TL.op1 (OpR.pure rfl) rfl ?_
     refine TL.nil ?_
     show T X _ _ _
     refine T.ret ?_
     obtain rfl := Option.some.inj h0
     exact PostG.retP (ks := [0]) (Gst.only [2] rfl) undef (ResL.cons (ResV.tmp rfl) ResL.nil) rfl rfl rfl rfl
   refine T.condF rfl (eq_false_of_ne_true c8) ?_
   refine T.skip ?_
   show T X _ _ _
   refine T.seq ?_
   refine T.region ?_
   refine TL.op1 (OpR.pure rfl) rfl ?_
   refine TL.nil ?_
   show T X _ _ _
   refine T.ret ?_
   obtain rfl := Option.some.inj h0
   exact PostG.retP (ks := [0]) (Gst.only [2] rfl) undef (ResL.cons (ResV.tmp rfl) ResL.nil) rfl rfl rfl rfl
 rcases ite_some ht5 with ⟨c6, ht5⟩ | ⟨c6, ht5⟩
 · refine T.condT rfl (beq_iff_eq.2 c6) ?_
   refine T.skip ?_
   obtain rfl := Option.some.inj ht5
   exact ⟨_, Gst.only [2, 15] rfl, rfl⟩
 refine T.condF rfl (beq_eq_false_iff_ne.2 c6) ?_
 refine T.seq ?_
 refine T.region ?_
 refine TL.op1 (OpR.pure rfl) rfl ?_
 refine TL.op1 (OpR.pure rfl) rfl ?_
 refine TL.nil ?_
 show T X _ _ _
 rcases ite_some ht5 with ⟨c7, ht5⟩ | ⟨c7, ht5⟩
 · refine T.condT rfl (beq_iff_eq.2 c7) ?_
   refine T.skip ?_
   obtain rfl := Option.some.inj ht5
   exact ⟨_, Gst.only [2, 15] rfl, rfl⟩
 refine T.condF rfl (beq_eq_false_iff_ne.2 c7) ?_
 refine T.region ?_
 refine TL.op1 (OpR.pure rfl) rfl ?_
 refine TL.op1 (OpR.pure rfl) rfl ?_
 refine TL.nil ?_
 obtain rfl := Option.some.inj ht5
 exact ⟨_, Gst.only [2, 15] rfl, rfl⟩
noncomputable def scan_reader_plain.l1 (a0 : List UInt8) (s2 : Bool × Int) : Option (Lp (Bool × Int) (Bool × Int)) :=
  bnd (scan_reader_marked a0 s2.2) fun x10 =>
  if x10 = true then
    some (Lp.done (s2.1, s2.2))
  else
    bnd (if s2.1 = true then
      some true
    else
      bnd (scan_reader_is 34 a0 s2.2) fun x14 =>
      some x14 : Option Bool) fun t12 =>
    some (Lp.next (t12, w64 (s2.2 + 1)))
noncomputable def scan_reader_plain (a0 : List UInt8) (a1 : Int) : Option (Bool × Int) :=
  bnd (loop (scan_reader_plain.l1 a0) (false, a1) : Option (Bool × Int)) fun t1 =>
  some (t1.1, t1.2)
set_option maxHeartbeats 4000000 in
theorem scan_reader_plain_c {a0 : List UInt8} {a1 : Int} {b0 : Nat} {res : Bool × Int} (h0 : scan_reader_plain a0 a1 = some res) : CallF X 203 [.val (.pointer (some ⟨b0, 0, none⟩))] [.var b0 [.sl 1 (List.map byteD a0), .val (.int .i64 a1)] 145] (fun x => .val (.bool res.1)) (fun x => [.var b0 [.sl 1 (List.map byteD a0), .val (.int .i64 res.2)] 145]) := by
 unfold scan_reader_plain at h0
 refine CallF.mkG (X := X) Try.func203 rfl rfl Try.ntmps203 rfl rfl ?_
 refine T.seq ?_
 refine T.region ?_
 refine TL.op1 (OpR.pure rfl) rfl ?_
 refine TL.nil ?_
 show T X _ _ _
 refine T.seq ?_
 refine T.region ?_
 refine TL.op1 (OpR.pure rfl) rfl ?_
 refine TL.nil ?_
 show T X _ _ _
 refine T.seq ?_
 obtain ⟨t1, ht1, h0⟩ := bnd_some h0
 refine T.cutC (fun S' => S' = ⟨[(3, .val (.bool t1.1)), (2, .val (.bool false))], [.var b0 [.sl 1 (List.map byteD a0), .val (.int .i64 t1.2)] 145], 20⟩) (fun _ h => h) ?_ ?_
 rotate_left
 · rintro _ rfl
   show T X _ _ _
   refine T.seq ?_
   refine T.region ?_
   refine TL.op1 (OpR.pure rfl) rfl ?_
   refine TL.op1 (OpR.pure rfl) rfl ?_
   refine TL.nil ?_
   show T X _ _ _
   refine T.ret ?_
   obtain rfl := Option.some.inj h0
   exact PostG.retP (ks := [0]) (Gst.only [2] rfl) undef (ResL.cons (ResV.tmp rfl) ResL.nil) rfl rfl rfl rfl
 refine T.block ?_
 obtain ⟨n3, n8⟩ := loop_some ht1
 refine T.loop (fun n S' => ∃ S'', Gst S' S'' ∧ ∃ s2 : Bool × Int, S'' = ⟨[(3, .val (.bool s2.1)), (2, .val (.bool false)), (0, .val (.pointer (some ⟨b0, 0, none⟩)))], [.var b0 [.sl 1 (List.map byteD a0), .val (.int .i64 s2.2)] 145], 20⟩ ∧ iter (scan_reader_plain.l1 a0) n s2 = some t1) n3 ?_ ?_
 · exact ⟨_, Gst.only [0, 2, 3] rfl, (false, a1), rfl, n8⟩
 rintro n3 _ ⟨_, g, s2, rfl, i7⟩
 refine T.ghost g ?_
 obtain ⟨m4, q5, rfl, q6, i7⟩ := iter_succ i7
 unfold scan_reader_plain.l1 at q6
 refine T.seq ?_
 refine T.seq ?_
 refine T.region ?_
 refine TL.op1 (OpR.pure rfl) rfl ?_
 obtain ⟨x10, hx10, q6⟩ := bnd_some q6
 refine TL.op1 (OpR.call [0] fn216 (scan_reader_marked_c hx10) rfl rfl rfl (fun _ => rfl)) rfl ?_
 refine TL.op1 (OpR.pure rfl) rfl ?_
 refine TL.nil ?_
 show T X _ _ _
 rcases ite_some q6 with ⟨c11, q6⟩ | ⟨c11, q6⟩
 · refine T.condF rfl (not_t (c11)) ?_
   refine T.exit ?_
   obtain rfl := Option.some.inj q6
   obtain rfl : _ = _ := i7
   exact ⟨_, Gst.only [2, 3] rfl, rfl⟩
 refine T.condT rfl (not_f (eq_false_of_ne_true c11)) ?_
 refine T.skip ?_
 show T X _ _ _
 refine T.seq ?_
 refine T.block ?_
 obtain ⟨t12, ht12, q6⟩ := bnd_some q6
 refine T.cutC (fun S' => S' = ⟨[(3, .val (.bool t12)), (2, .val (.bool false)), (0, .val (.pointer (some ⟨b0, 0, none⟩)))], [.var b0 [.sl 1 (List.map byteD a0), .val (.int .i64 s2.2)] 145], 20⟩) (fun _ h => h) ?_ ?_
 rotate_left
 · rintro _ rfl
   show T X _ _ _
   refine T.region ?_
   refine TL.op1 (OpR.pure rfl) rfl ?_
   refine TL.op1 (OpR.pure rfl) rfl ?_
   refine TL.op1 (OpR.pure rfl) rfl ?_
   refine TL.op1 (OpR.loadPtr 0 rfl rfl rfl rfl) rfl ?_
   refine TL.op1 (OpR.pure rfl) rfl ?_
   refine TL.op1 (OpR.pure rfl) rfl ?_
   refine TL.op1 (OpR.pure rfl) rfl ?_
   refine TL.op0 (OpR.store 0 rfl rfl rfl rfl rfl rfl rfl rfl) ?_
   refine TL.nil ?_
   obtain rfl := Option.some.inj q6
   exact ⟨m4, Nat.lt_succ_self _, _, Gst.only [0, 2, 3] rfl, (t12, w64 (s2.2 + 1)), rfl, i7⟩
 refine T.region ?_
 refine TL.op1 (OpR.pure rfl) rfl ?_
 refine TL.op1 (OpR.pure rfl) rfl ?_
 rcases ite_some ht12 with ⟨c13, ht12⟩ | ⟨c13, ht12⟩
 · refine TL.off rfl rfl rfl rfl (c13) rfl rfl ?_
   refine TL.off rfl rfl rfl rfl (c13) rfl rfl ?_
   refine TL.op1 (OpR.pickT rfl (c13) rfl) rfl ?_
   refine TL.op1 (OpR.pure rfl) rfl ?_
   refine TL.nil ?_
   obtain rfl := Option.some.inj ht12
   exact ⟨_, Gst.only [0, 2, 3] rfl, rfl⟩
 refine TL.on rfl rfl rfl rfl (eq_false_of_ne_true c13) ?_
 refine TL.op1 (OpR.pure rfl) rfl ?_
 refine TL.on rfl rfl rfl rfl (eq_false_of_ne_true c13) ?_
 obtain ⟨x14, hx14, ht12⟩ := bnd_some ht12
 refine TL.op1 (OpR.call [0] fn120 (scan_reader_is_c hx14) rfl rfl rfl (fun _ => rfl)) rfl ?_
 refine TL.op1 (OpR.pickF rfl (eq_false_of_ne_true c13) rfl) rfl ?_
 refine TL.op1 (OpR.pure rfl) rfl ?_
 refine TL.nil ?_
 obtain rfl := Option.some.inj ht12
 exact ⟨_, Gst.only [0, 2, 3] rfl, rfl⟩
noncomputable def scan_reader_quoted.l1 (a0 : List UInt8) (s14 : Int) : Option (Lp Int Int) :=
  bnd (bnd (scan_reader_done a0 s14) fun x23 =>
  if x23 = true then
    some false
  else
    bnd (scan_reader_is 34 a0 s14) fun x25 =>
    some (!x25) : Option Bool) fun t22 =>
  if t22 = true then
    some (Lp.next (w64 (s14 + 1)))
  else
    some (Lp.done s14)
noncomputable def scan_reader_quoted.l2 (a0 : List UInt8) (s5 : Int × Int × (List arena_Span)) : Option (Lp (Int × Int × (List arena_Span)) (Int × (List arena_Span) × Int)) :=
  bnd (loop (scan_reader_quoted.l1 a0) s5.2.1 : Option Int) fun t13 =>
  bnd (scan_reader_done a0 t13) fun x27 =>
  if x27 = true then
    bnd (scan_parts_add_2 s5.1 t13 s5.2.2) fun x29 =>
    some (Lp.done (4, x29, t13))
  else
    bnd (scan_reader_is 34 a0 (w64 (t13 + 1))) fun x32 =>
    if x32 = true then
      bnd (scan_parts_add_2 s5.1 (w64 (t13 + 1)) s5.2.2) fun x34 =>
      some (Lp.next (w64 ((w64 (t13 + 1)) + 1), w64 ((w64 (t13 + 1)) + 1), x34))
    else
      bnd (scan_parts_add_2 s5.1 (w64 ((w64 (t13 + 1)) - 1)) s5.2.2) fun x36 =>
      bnd (scan_reader_plain a0 (w64 (t13 + 1))) fun x38 =>
      bnd (scan_parts_add_2 (w64 (t13 + 1)) x38.2 x36) fun x39 =>
      if x38.2 > (w64 (t13 + 1)) then
        some (Lp.done (3, x39, x38.2))
      else
        some (Lp.done (1, x39, x38.2))
noncomputable def scan_reader_quoted (a0 : List UInt8) (a1 : Int) : Option (Int × (List arena_Span) × Int) :=
  loop (scan_reader_quoted.l2 a0) (w64 (a1 + 1), w64 (a1 + 1), [])
set_option maxHeartbeats 4000000 in
theorem scan_reader_quoted_c {a0 : List UInt8} {a1 : Int} {b0 : Nat} {res : Int × (List arena_Span) × Int} (h0 : scan_reader_quoted a0 a1 = some res) : CallF X 165 [.val (.pointer (some ⟨b0, 0, none⟩))] [.var b0 [.sl 1 (List.map byteD a0), .val (.int .i64 a1)] 145] (fun x => .tup [.val (.int .i64 res.1), .sl 2 (List.map e_arena_Span res.2.1)]) (fun x => [.var b0 [.sl 1 (List.map byteD a0), .val (.int .i64 res.2.2)] 145]) := by
 unfold scan_reader_quoted at h0
 refine CallF.mkG (X := X) Try.func165 rfl rfl Try.ntmps165 rfl rfl ?_
 refine T.seq ?_
 refine T.region ?_
 refine TL.op1 (OpR.pure rfl) rfl ?_
 refine TL.op1 (OpR.pure rfl) rfl ?_
 refine TL.nil ?_
 show T X _ _ _
 refine T.scope 0 rfl ?_
 refine T.seq ?_
 refine T.region ?_
 refine TL.op (OpR.alloc rfl rfl (fun _ => rfl)) rfl (fun p3 => ?_)
 refine TL.nil ?_
 show T X _ _ _
 refine T.seq ?_
 refine T.region ?_
 refine TL.op1 (OpR.pure rfl) rfl ?_
 refine TL.op1 (OpR.pure rfl) rfl ?_
 refine TL.op1 (OpR.pure rfl) rfl ?_
 refine TL.op1 (OpR.loadPtr 0 rfl rfl rfl rfl) rfl ?_
 refine TL.op1 (OpR.pure rfl) rfl ?_
 refine TL.op1 (OpR.pure rfl) rfl ?_
 refine TL.op1 (OpR.pure rfl) rfl ?_
 refine TL.op0 (OpR.store 0 rfl rfl rfl rfl rfl rfl rfl rfl) ?_
 refine TL.nil ?_
 show T X _ _ _
 refine T.seq ?_
 refine T.region ?_
 refine TL.op1 (OpR.pure rfl) rfl ?_
 refine TL.op1 (OpR.pure rfl) rfl ?_
 refine TL.op1 (OpR.pure rfl) rfl ?_
 refine TL.op1 (OpR.loadPtr 0 rfl rfl rfl rfl) rfl ?_
 refine TL.op1 (OpR.pure rfl) rfl ?_
 refine TL.nil ?_
 show T X _ _ _
 refine T.seq ?_
 refine T.label ?_
 show T X _ _ _
 obtain ⟨n6, n11⟩ := loop_some h0
 refine T.atLabelS ?_ (fun n S' => ∃ S'', Gst S' S'' ∧ ∃ y4 : Value, ∃ s5 : Int × Int × (List arena_Span), S'' = ⟨[(5, .val (.int .i64 s5.1)), (4, .val (.pointer (some ⟨(blk p3), 0, none⟩))), (3, .val (.slice none 0 0)), (2, .val (.int .i64 0)), (0, .val (.pointer (some ⟨b0, 0, none⟩)))], [.var b0 [.sl 1 (List.map byteD a0), .val (.int .i64 s5.2.1)] 145, .var (blk p3) [.val y4] 283, .row y4 (List.map e_arena_Span s5.2.2) 2 88], 94⟩ ∧ iter (scan_reader_quoted.l2 a0) n s5 = some res) n6 ?_ ?_
 · rfl
 · exact ⟨_, Gst.trans (Gst.only [0, 2, 3, 4, 5] rfl) (Gst.nilRow (ow := [.var b0 [.sl 1 (List.map byteD a0), .val (.int .i64 (w64 (a1 + 1)))] 145, .var (blk p3) [.val (.slice none 0 0)] 283]) 2 88 rfl), (.slice none 0 0), (w64 (a1 + 1), w64 (a1 + 1), []), rfl, n11⟩
 rintro n6 _ ⟨_, g, y4, s5, rfl, i10⟩
 refine T.ghost g ?_
 obtain ⟨m7, q8, rfl, q9, i10⟩ := iter_succ i10
 unfold scan_reader_quoted.l2 at q9
 refine T.seq ?_
 obtain ⟨t13, ht13, q9⟩ := bnd_some q9
 refine T.cutC (fun S' => S' = ⟨[(5, .val (.int .i64 s5.1)), (4, .val (.pointer (some ⟨(blk p3), 0, none⟩))), (3, .val (.slice none 0 0)), (2, .val (.int .i64 0)), (0, .val (.pointer (some ⟨b0, 0, none⟩)))], [.var b0 [.sl 1 (List.map byteD a0), .val (.int .i64 t13)] 145, .var (blk p3) [.val y4] 283, .row y4 (List.map e_arena_Span s5.2.2) 2 88], 94⟩) (fun _ h => h) ?_ ?_
 · refine T.block ?_
   obtain ⟨n15, n20⟩ := loop_some ht13
   refine T.loop (fun n S' => ∃ S'', Gst S' S'' ∧ ∃ s14 : Int, S'' = ⟨[(5, .val (.int .i64 s5.1)), (4, .val (.pointer (some ⟨(blk p3), 0, none⟩))), (3, .val (.slice none 0 0)), (2, .val (.int .i64 0)), (0, .val (.pointer (some ⟨b0, 0, none⟩)))], [.var b0 [.sl 1 (List.map byteD a0), .val (.int .i64 s14)] 145, .var (blk p3) [.val y4] 283, .row y4 (List.map e_arena_Span s5.2.2) 2 88], 94⟩ ∧ iter (scan_reader_quoted.l1 a0) n s14 = some t13) n15 ?_ ?_
   · exact ⟨_, Gst.only [0, 2, 3, 4, 5] rfl, s5.2.1, rfl, n20⟩
   rintro n15 _ ⟨_, g, s14, rfl, i19⟩
   refine T.ghost g ?_
   obtain ⟨m16, q17, rfl, q18, i19⟩ := iter_succ i19
   unfold scan_reader_quoted.l1 at q18
   refine T.seq ?_
   refine T.seq ?_
   obtain ⟨t22, ht22, q18⟩ := bnd_some q18
   refine T.cutC (fun S' => S' = ⟨[(24, .val (.bool t22)), (5, .val (.int .i64 s5.1)), (4, .val (.pointer (some ⟨(blk p3), 0, none⟩))), (3, .val (.slice none 0 0)), (2, .val (.int .i64 0)), (0, .val (.pointer (some ⟨b0, 0, none⟩)))], [.var b0 [.sl 1 (List.map byteD a0), .val (.int .i64 s14)] 145, .var (blk p3) [.val y4] 283, .row y4 (List.map e_arena_Span s5.2.2) 2 88], 94⟩) (fun _ h => h) ?_ ?_
   rotate_left
   · rintro _ rfl
     show T X _ _ _
     rcases ite_some q18 with ⟨c26, q18⟩ | ⟨c26, q18⟩
     rotate_left
     · refine T.condF rfl (eq_false_of_ne_true c26) ?_
       refine T.exit ?_
       obtain rfl := Option.some.inj q18
       obtain rfl : _ = _ := i19
       exact ⟨_, Gst.only [0, 2, 3, 4, 5] rfl, rfl⟩
     refine T.condT rfl (c26) ?_
     refine T.skip ?_
     show T X _ _ _
     refine T.block ?_
     refine T.region ?_
     refine TL.op1 (OpR.pure rfl) rfl ?_
     refine TL.op1 (OpR.pure rfl) rfl ?_
     refine TL.op1 (OpR.pure rfl) rfl ?_
     refine TL.op1 (OpR.loadPtr 0 rfl rfl rfl rfl) rfl ?_
     refine TL.op1 (OpR.pure rfl) rfl ?_
     refine TL.op1 (OpR.pure rfl) rfl ?_
     refine TL.op1 (OpR.pure rfl) rfl ?_
     refine TL.op0 (OpR.store 0 rfl rfl rfl rfl rfl rfl rfl rfl) ?_
     refine TL.nil ?_
     obtain rfl := Option.some.inj q18
     exact ⟨m16, Nat.lt_succ_self _, _, Gst.only [0, 2, 3, 4, 5] rfl, w64 (s14 + 1), rfl, i19⟩
   refine T.region ?_
   refine TL.op1 (OpR.pure rfl) rfl ?_
   obtain ⟨x23, hx23, ht22⟩ := bnd_some ht22
   refine TL.op1 (OpR.call [0] fn65 (scan_reader_done_c hx23) rfl rfl rfl (fun _ => rfl)) rfl ?_
   refine TL.op1 (OpR.pure rfl) rfl ?_
   refine TL.op1 (OpR.pure rfl) rfl ?_
   rcases ite_some ht22 with ⟨c24, ht22⟩ | ⟨c24, ht22⟩
   · refine TL.off rfl rfl rfl rfl (not_t (c24)) rfl rfl ?_
     refine TL.off rfl rfl rfl rfl (not_t (c24)) rfl rfl ?_
     refine TL.off rfl rfl rfl rfl (not_t (c24)) rfl rfl ?_
     refine TL.op1 (OpR.pickF rfl (not_t (c24)) rfl) rfl ?_
     refine TL.nil ?_
     obtain rfl := Option.some.inj ht22
     exact ⟨_, Gst.only [0, 2, 3, 4, 5, 24] rfl, rfl⟩
   refine TL.on rfl rfl rfl rfl (not_f (eq_false_of_ne_true c24)) ?_
   refine TL.op1 (OpR.pure rfl) rfl ?_
   refine TL.on rfl rfl rfl rfl (not_f (eq_false_of_ne_true c24)) ?_
   obtain ⟨x25, hx25, ht22⟩ := bnd_some ht22
   refine TL.op1 (OpR.call [0] fn120 (scan_reader_is_c hx25) rfl rfl rfl (fun _ => rfl)) rfl ?_
   refine TL.on rfl rfl rfl rfl (not_f (eq_false_of_ne_true c24)) ?_
   refine TL.op1 (OpR.pure rfl) rfl ?_
   refine TL.op1 (OpR.pickT rfl (not_f (eq_false_of_ne_true c24)) rfl) rfl ?_
   refine TL.nil ?_
   obtain rfl := Option.some.inj ht22
   exact ⟨_, Gst.only [0, 2, 3, 4, 5, 24] rfl, rfl⟩
 rintro _ rfl
 show T X _ _ _
 refine T.seq ?_
 refine T.seq ?_
 refine T.region ?_
 refine TL.op1 (OpR.pure rfl) rfl ?_
 obtain ⟨x27, hx27, q9⟩ := bnd_some q9
 refine TL.op1 (OpR.call [0] fn65 (scan_reader_done_c hx27) rfl rfl rfl (fun _ => rfl)) rfl ?_
 refine TL.nil ?_
 show T X _ _ _
 rcases ite_some q9 with ⟨c28, q9⟩ | ⟨c28, q9⟩
 · refine T.condT rfl (c28) ?_
   refine T.seq ?_
   refine T.region ?_
   refine TL.op1 (OpR.pure rfl) rfl ?_
   refine TL.op1 (OpR.pure rfl) rfl ?_
   refine TL.op1 (OpR.pure rfl) rfl ?_
   refine TL.op1 (OpR.pure rfl) rfl ?_
   refine TL.op1 (OpR.loadPtr 0 rfl rfl rfl rfl) rfl ?_
   obtain ⟨x29, hx29, q9⟩ := bnd_some q9
   refine TL.op (OpR.call [1, 2] fn202 (scan_parts_add_2_c hx29) rfl rfl rfl (fun _ => rfl)) rfl (fun w30 => ?_)
   refine TL.nil ?_
   show T X _ _ _
   refine T.seq ?_
   refine T.drawQ drawsX [.val (vn w30 0), .val (.int .i64 4), .val (vn w30 0)] [0, 2, 3, 4, 5, 32, 33, 34, 35, 36, 37, 38, 39, 40] (by decide +kernel) rfl ?_ rfl ?_
   · refine OpsQ.yes (Want.plain rfl) rfl (OpR.loadPtr 1 rfl rfl rfl rfl) ?_
     refine OpsQ.yes (Want.plain rfl) rfl (OpR.pure rfl) ?_
     refine OpsQ.yes (Want.plain rfl) rfl (OpR.pure rfl) ?_
     exact OpsQ.nil
   show T X _ _ _
   refine T.ret ?_
   obtain rfl := Option.some.inj q9
   obtain rfl : _ = _ := i10
   exact PostG.retP (ks := [0]) (Gst.trans (Gst.only [2, 3] rfl) (Gst.trans (Gst.freezeRow 2 rfl rfl (ReS.cons (Re.base .all) (ReS.cons Re.refl ReS.nil)) (ReO.same (ReO.var (ReL.cons (Re.base .all) ReL.nil) (ReO.same ReO.nil)))) (Gst.pick [0] rfl rfl))) undef (ResL.cons (ResV.tmp rfl) (ResL.cons (ResV.tmp rfl) ResL.nil)) rfl rfl rfl rfl
 refine T.condF rfl (eq_false_of_ne_true c28) ?_
 refine T.skip ?_
 show T X _ _ _
 refine T.seq ?_
 refine T.region ?_
 refine TL.op1 (OpR.pure rfl) rfl ?_
 refine TL.op1 (OpR.pure rfl) rfl ?_
 refine TL.op1 (OpR.pure rfl) rfl ?_
 refine TL.op1 (OpR.loadPtr 0 rfl rfl rfl rfl) rfl ?_
 refine TL.op1 (OpR.pure rfl) rfl ?_
 refine TL.op1 (OpR.pure rfl) rfl ?_
 refine TL.op1 (OpR.pure rfl) rfl ?_
 refine TL.op0 (OpR.store 0 rfl rfl rfl rfl rfl rfl rfl rfl) ?_
 refine TL.nil ?_
 show T X _ _ _
 refine T.seq ?_
 refine T.seq ?_
 refine T.region ?_
 refine TL.op1 (OpR.pure rfl) rfl ?_
 obtain ⟨x32, hx32, q9⟩ := bnd_some q9
 refine TL.op1 (OpR.call [0] fn120 (scan_reader_is_c hx32) rfl rfl rfl (fun _ => rfl)) rfl ?_
 refine TL.nil ?_
 show T X _ _ _
 rcases ite_some q9 with ⟨c33, q9⟩ | ⟨c33, q9⟩
 · refine T.condT rfl (c33) ?_
   refine T.seq ?_
   refine T.region ?_
   refine TL.op1 (OpR.pure rfl) rfl ?_
   refine TL.op1 (OpR.pure rfl) rfl ?_
   refine TL.op1 (OpR.pure rfl) rfl ?_
   refine TL.op1 (OpR.pure rfl) rfl ?_
   refine TL.op1 (OpR.loadPtr 0 rfl rfl rfl rfl) rfl ?_
   obtain ⟨x34, hx34, q9⟩ := bnd_some q9
   refine TL.op (OpR.call [1, 2] fn202 (scan_parts_add_2_c hx34) rfl rfl rfl (fun _ => rfl)) rfl (fun w35 => ?_)
   refine TL.nil ?_
   show T X _ _ _
   refine T.seq ?_
   refine T.region ?_
   refine TL.op1 (OpR.pure rfl) rfl ?_
   refine TL.op1 (OpR.pure rfl) rfl ?_
   refine TL.op1 (OpR.pure rfl) rfl ?_
   refine TL.op1 (OpR.loadPtr 0 rfl rfl rfl rfl) rfl ?_
   refine TL.op1 (OpR.pure rfl) rfl ?_
   refine TL.op1 (OpR.pure rfl) rfl ?_
   refine TL.op1 (OpR.pure rfl) rfl ?_
   refine TL.op0 (OpR.store 0 rfl rfl rfl rfl rfl rfl rfl rfl) ?_
   refine TL.nil ?_
   show T X _ _ _
   refine T.seq ?_
   refine T.region ?_
   refine TL.op1 (OpR.pure rfl) rfl ?_
   refine TL.op1 (OpR.pure rfl) rfl ?_
   refine TL.op1 (OpR.pure rfl) rfl ?_
   refine TL.op1 (OpR.loadPtr 0 rfl rfl rfl rfl) rfl ?_
   refine TL.op1 (OpR.pure rfl) rfl ?_
   refine TL.nil ?_
   show T X _ _ _
   refine T.goto ?_
   obtain rfl := Option.some.inj q9
   exact ⟨rfl, m7, Nat.lt_succ_self _, _, Gst.only [0, 2, 3, 4, 5] rfl, (vn w35 0), (w64 ((w64 (t13 + 1)) + 1), w64 ((w64 (t13 + 1)) + 1), x34), rfl, i10⟩
 refine T.condF rfl (eq_false_of_ne_true c33) ?_
 refine T.skip ?_
 show T X _ _ _
 refine T.seq ?_
 refine T.region ?_
 refine TL.op1 (OpR.pure rfl) rfl ?_
 refine TL.op1 (OpR.pure rfl) rfl ?_
 refine TL.op1 (OpR.pure rfl) rfl ?_
 refine TL.op1 (OpR.pure rfl) rfl ?_
 refine TL.op1 (OpR.loadPtr 0 rfl rfl rfl rfl) rfl ?_
 refine TL.op1 (OpR.pure rfl) rfl ?_
 obtain ⟨x36, hx36, q9⟩ := bnd_some q9
 refine TL.op (OpR.call [1, 2] fn202 (scan_parts_add_2_c hx36) rfl rfl rfl (fun _ => rfl)) rfl (fun w37 => ?_)
 refine TL.nil ?_
 show T X _ _ _
 refine T.seq ?_
 refine T.region ?_
 refine TL.op1 (OpR.pure rfl) rfl ?_
 refine TL.op1 (OpR.pure rfl) rfl ?_
 refine TL.op1 (OpR.pure rfl) rfl ?_
 refine TL.op1 (OpR.loadPtr 0 rfl rfl rfl rfl) rfl ?_
 refine TL.op1 (OpR.pure rfl) rfl ?_
 refine TL.nil ?_
 show T X _ _ _
 refine T.seq ?_
 refine T.region ?_
 refine TL.op1 (OpR.pure rfl) rfl ?_
 obtain ⟨x38, hx38, q9⟩ := bnd_some q9
 refine TL.op1 (OpR.call [0] fn203 (scan_reader_plain_c hx38) rfl rfl rfl (fun _ => rfl)) rfl ?_
 refine TL.nil ?_
 show T X _ _ _
 refine T.seq ?_
 refine T.region ?_
 refine TL.op1 (OpR.pure rfl) rfl ?_
 refine TL.op1 (OpR.pure rfl) rfl ?_
 refine TL.op1 (OpR.pure rfl) rfl ?_
 refine TL.op1 (OpR.pure rfl) rfl ?_
 refine TL.op1 (OpR.loadPtr 0 rfl rfl rfl rfl) rfl ?_
 obtain ⟨x39, hx39, q9⟩ := bnd_some q9
 refine TL.op (OpR.call [1, 2] fn202 (scan_parts_add_2_c hx39) rfl rfl rfl (fun _ => rfl)) rfl (fun w40 => ?_)
 refine TL.nil ?_
 show T X _ _ _
 refine T.seq ?_
 refine T.seq ?_
 refine T.region ?_
 refine TL.op1 (OpR.pure rfl) rfl ?_
 refine TL.op1 (OpR.pure rfl) rfl ?_
 refine TL.op1 (OpR.pure rfl) rfl ?_
 refine TL.op1 (OpR.loadPtr 0 rfl rfl rfl rfl) rfl ?_
 refine TL.op1 (OpR.pure rfl) rfl ?_
 refine TL.op1 (OpR.pure rfl) rfl ?_
 refine TL.nil ?_
 show T X _ _ _
 rcases ite_some q9 with ⟨c41, q9⟩ | ⟨c41, q9⟩
 · refine T.condT rfl (decide_eq_true c41) ?_
   refine T.seq ?_
   refine T.drawQ drawsX [.val (vn w40 0), .val (.int .i64 3), .val (vn w40 0)] [0, 2, 3, 4, 5, 32, 33, 41, 42, 43, 44, 45, 46, 47, 48, 49, 67, 68, 69, 70, 71, 72, 73, 74, 75, 76, 77, 78, 79, 80, 81, 82, 83, 84, 85, 86, 87, 88, 89, 90, 91, 92] (by decide +kernel) rfl ?_ rfl ?_
   · refine OpsQ.yes (Want.plain rfl) rfl (OpR.loadPtr 1 rfl rfl rfl rfl) ?_
     refine OpsQ.yes (Want.plain rfl) rfl (OpR.pure rfl) ?_
     refine OpsQ.yes (Want.plain rfl) rfl (OpR.pure rfl) ?_
     exact OpsQ.nil
   show T X _ _ _
   refine T.ret ?_
   obtain rfl := Option.some.inj q9
   obtain rfl : _ = _ := i10
   exact PostG.retP (ks := [0]) (Gst.trans (Gst.only [2, 3] rfl) (Gst.trans (Gst.freezeRow 2 rfl rfl (ReS.cons (Re.base .all) (ReS.cons Re.refl ReS.nil)) (ReO.same (ReO.var (ReL.cons (Re.base .all) ReL.nil) (ReO.same ReO.nil)))) (Gst.pick [0] rfl rfl))) undef (ResL.cons (ResV.tmp rfl) (ResL.cons (ResV.tmp rfl) ResL.nil)) rfl rfl rfl rfl
 refine T.condF rfl (decide_eq_false c41) ?_
 refine T.skip ?_
 show T X _ _ _
 refine T.seq ?_
 refine T.drawQ drawsX [.val (vn w40 0), .val (.int .i64 1), .val (vn w40 0)] [0, 2, 3, 4, 5, 32, 33, 41, 42, 43, 44, 45, 46, 47, 48, 49, 67, 68, 69, 70, 71, 72, 73, 74, 75, 76, 77, 78, 79, 80, 81, 82, 83, 84, 85, 86, 87, 88, 89, 90, 91, 93] (by decide +kernel) rfl ?_ rfl ?_
 · refine OpsQ.yes (Want.plain rfl) rfl (OpR.loadPtr 1 rfl rfl rfl rfl) ?_
   refine OpsQ.yes (Want.plain rfl) rfl (OpR.pure rfl) ?_
   refine OpsQ.yes (Want.plain rfl) rfl (OpR.pure rfl) ?_
   exact OpsQ.nil
 show T X _ _ _
 refine T.ret ?_
 obtain rfl := Option.some.inj q9
 obtain rfl : _ = _ := i10
 exact PostG.retP (ks := [0]) (Gst.trans (Gst.only [2, 3] rfl) (Gst.trans (Gst.freezeRow 2 rfl rfl (ReS.cons (Re.base .all) (ReS.cons Re.refl ReS.nil)) (ReO.same (ReO.var (ReL.cons (Re.base .all) ReL.nil) (ReO.same ReO.nil)))) (Gst.pick [0] rfl rfl))) undef (ResL.cons (ResV.tmp rfl) (ResL.cons (ResV.tmp rfl) ResL.nil)) rfl rfl rfl rfl
noncomputable def scan_parts_add (a0 : Int) (a1 : Int) : Option (List arena_Span) :=
  if a1 ≤ a0 then
    some []
  else
    if (w64 (0 - 1)) ≥ 0 then
      bnd (idx ([] : List arena_Span) (w64 (0 - 1))) fun x5 =>
      none
    else
      bnd (app 16 [] [(⟨a0, w64 (a1 - a0)⟩ : arena_Span)]) fun x7 =>
      some x7
set_option maxHeartbeats 4000000 in
theorem scan_parts_add_c {a0 : Int} {a1 : Int} {b0 : Nat} {res : (List arena_Span)} (h0 : scan_parts_add a0 a1 = some res) : CallF X 202 [.val (.pointer (some ⟨b0, 0, none⟩)), .val (.int .i64 a0), .val (.int .i64 a1)] [.var b0 [.val (.slice none 0 0)] 283] (fun x => .tup []) (fun x => [.var b0 [.val (vn x 0)] 283, .row (vn x 0) (List.map e_arena_Span res) 2 88]) := by
 unfold scan_parts_add at h0
 refine CallF.mkG (X := X) Try.func202 rfl rfl Try.ntmps202 rfl rfl ?_
 refine T.seq ?_
 refine T.seq ?_
 refine T.region ?_
 refine TL.op1 (OpR.pure rfl) rfl ?_
 refine TL.op1 (OpR.pure rfl) rfl ?_
 refine TL.op1 (OpR.pure rfl) rfl ?_
 refine TL.nil ?_
 show T X _ _ _
 rcases ite_some h0 with ⟨c1, h0⟩ | ⟨c1, h0⟩
 · refine T.condT rfl (decide_eq_true c1) ?_
   refine T.ret ?_
   obtain rfl := Option.some.inj h0
   exact PostG.retP (ks := [0, 1]) (Gst.trans (Gst.only [] rfl) (Gst.nilRow (ow := [.var b0 [.val (.slice none 0 0)] 283]) 2 88 rfl)) (.tuple #[(.slice none 0 0)]) ResL.nil rfl rfl rfl rfl
 refine T.condF rfl (decide_eq_false c1) ?_
 refine T.skip ?_
 show T X _ _ _
 refine T.seq ?_
 refine T.region ?_
 refine TL.op1 (OpR.pure rfl) rfl ?_
 refine TL.op1 (OpR.pure rfl) rfl ?_
 refine TL.op1 (OpR.pure rfl) rfl ?_
 refine TL.op1 (OpR.pure rfl) rfl ?_
 refine TL.op1 (OpR.build rfl rfl rfl rfl rfl) rfl ?_
 refine TL.op (OpR.alloc rfl rfl (fun _ => rfl)) rfl (fun p2 => ?_)
 refine TL.op0 (OpR.store 1 rfl rfl rfl rfl rfl rfl rfl rfl) ?_
 refine TL.nil ?_
 show T X _ _ _
 refine T.seq ?_
 refine T.seq ?_
 refine T.region ?_
 refine TL.op1 (OpR.pure rfl) rfl ?_
 refine TL.op1 (OpR.pure rfl) rfl ?_
 refine TL.op1 (OpR.loadPtr 0 rfl rfl rfl rfl) rfl ?_
 refine TL.op1 (OpR.pure rfl) rfl ?_
 refine TL.op1 (OpR.pure rfl) rfl ?_
 refine TL.op1 (OpR.pure rfl) rfl ?_
 refine TL.nil ?_
 show T X _ _ _
 refine T.seq ?_
 refine T.region ?_
 refine TL.op1 (OpR.pure rfl) rfl ?_
 refine TL.op1 (OpR.pure rfl) rfl ?_
 refine TL.nil ?_
 show T X _ _ _
 rcases ite_some h0 with ⟨c3, h0⟩ | ⟨c3, h0⟩
 · refine T.condT rfl (decide_eq_true c3) ?_
   refine T.seq ?_
   obtain ⟨x5, hx5, h0⟩ := bnd_some h0
   exact (idx_nil hx5).elim
 refine T.condF rfl (decide_eq_false c3) ?_
 refine T.skip ?_
 show T X _ _ _
 refine T.ghost (Gst.nilRow 2 88 rfl) ?_
 obtain ⟨x7, hx7, h0⟩ := bnd_some h0
 refine T.drawS drawsX (fun env6 => [.val (.pointer (some ⟨b0, 0, none⟩)), .val (.pointer (some ⟨b0, 0, none⟩)), .val (.pointer (some ⟨b0, 0, none⟩)), .val (.slice none 0 0), .agg [.val (.int .i64 a0), .val (.int .i64 (w64 (a1 - a0)))], .sl 2 (List.map e_arena_Span [(⟨a0, w64 (a1 - a0)⟩ : arena_Span)]), .val (env6 6), .val (.pointer (some ⟨b0, 0, none⟩)), .dead]) (fun D env6 => [(bif D 8 then .var b0 [.val (env6 6)] 283 else .var b0 [.val (.slice none 0 0)] 283), .var (blk p2) [.val (.int .i64 a0), .val (.int .i64 (w64 (a1 - a0)))] 88, (bif D 6 then .row (env6 6) (List.map e_arena_Span x7) 2 88 else .row (.slice none 0 0) (List.map e_arena_Span []) 2 88)]) [0, 0, 2, 6, 0, 16, 62, 127, 255] [0, 1, 2, 6, 7, 10, 11, 12, 13, 14, 15, 16, 17, 18, 19, 20, 21, 22, 23, 24, 43, 44, 45, 46, 47, 48, 49, 50] (fun env6 => [.var b0 [.val (env6 6)] 283, .var (blk p2) [.val (.int .i64 a0), .val (.int .i64 (w64 (a1 - a0)))] 88, .row (env6 6) (List.map e_arena_Span x7) 2 88]) (by decide +kernel) (by decide +kernel) (fun _ => rfl) (fun _ => rfl) ?_ (fun _ => rfl) (fun _ => rfl) ?_
 rotate_left
 · intro env6
   obtain rfl := Option.some.inj h0
   exact PostG.finP (ks := [0, 1]) (Gst.trans (Gst.only [] rfl) (Gst.pick [0, 2] rfl rfl)) (.tuple #[(env6 6)]) ResL.nil rfl rfl rfl rfl
 refine oS (d := .val (.pointer (some ⟨b0, 0, none⟩))) (fun _ => Want.plain rfl) (fun _ => rfl) (fun _ _ _ => rfl) (fun _ _ => OpR.pure rfl) (fun _ _ _ _ _ _ _ => rfl) ?_
 refine oS (d := .val (.pointer (some ⟨b0, 0, none⟩))) (fun _ => Want.plain rfl) (fun _ => rfl) (fun _ _ _ => rfl) (fun _ _ => OpR.pure rfl) (fun _ _ _ _ _ _ _ => rfl) ?_
 refine oS (d := .val (.pointer (some ⟨b0, 0, none⟩))) (fun _ => Want.plain rfl) (fun _ => rfl) (fun _ _ _ => rfl) (fun _ _ => OpR.pure rfl) (fun _ _ _ _ _ _ _ => rfl) ?_
 refine OpsS.cons' true ?_ (fun _ _ _ _ _ _ _ => rfl) ?_
 · intro D env6 hA
   have e6 : D 6 = false := hA.no 6 _ rfl rfl
   have e8 : D 8 = false := hA.no 8 _ rfl rfl
   exact OpS.yes (o0 := [.var b0 [.val (.slice none 0 0)] 283, .var (blk p2) [.val (.int .i64 a0), .val (.int .i64 (w64 (a1 - a0)))] 88, .row (.slice none 0 0) (List.map e_arena_Span []) 2 88]) (o1 := fun x => [.var b0 [.val (.slice none 0 0)] 283, .var (blk p2) [.val (.int .i64 a0), .val (.int .i64 (w64 (a1 - a0)))] 88, .row (.slice none 0 0) (List.map e_arena_Span []) 2 88]) (d := fun x => .val (.slice none 0 0)) (Want.plain rfl) (by first | rfl | simp only [e6, e8, cond_true, cond_false, List.cons_append, List.nil_append, List.append_nil]) (fun x => by first | rfl | simp only [ins_self, ins_ne D (show 3 ≠ 6 by decide), ins_ne D (show 3 ≠ 8 by decide), upd_self, upd_ne env6 x (show 3 ≠ 6 by decide), e6, e8, cond_true, cond_false, List.cons_append, List.nil_append, List.append_nil]) (fun x => rfl) (OpR.loadPtr 0 rfl rfl rfl rfl)
 refine oS (d := .agg [.val (.int .i64 a0), .val (.int .i64 (w64 (a1 - a0)))]) (fun _ => Want.plain rfl) (fun _ => rfl) (fun _ _ _ => rfl) (fun _ _ => OpR.loadPtr 1 rfl rfl rfl rfl) (fun _ _ _ _ _ _ _ => rfl) ?_
 refine oS (d := .sl 2 (List.map e_arena_Span [(⟨a0, w64 (a1 - a0)⟩ : arena_Span)])) (fun _ => Want.plain rfl) (fun _ => rfl) (fun _ _ _ => rfl) (fun _ _ => OpR.lit rfl rfl rfl rfl rfl rfl rfl) (fun _ _ _ _ _ _ _ => rfl) ?_
 refine OpsS.cons' true ?_ (fun D hA env6 x j hj hD => match j, hj, hD with | 0, _, _ => rfl | 1, _, _ => rfl | 2, _, _ => rfl | 3, _, _ => rfl | 4, _, _ => rfl | 5, _, _ => rfl | 6, hj, _ => absurd rfl hj | 7, _, _ => rfl | 8, _, _ => rfl | _ + 9, _, _ => rfl) ?_
 · intro D env6 hA
   have e8 : D 8 = false := hA.no 8 _ rfl rfl
   exact OpS.yes (o0 := [.var b0 [.val (.slice none 0 0)] 283, .var (blk p2) [.val (.int .i64 a0), .val (.int .i64 (w64 (a1 - a0)))] 88, .row (.slice none 0 0) (List.map e_arena_Span []) 2 88]) (o1 := fun x => [.var b0 [.val (.slice none 0 0)] 283, .var (blk p2) [.val (.int .i64 a0), .val (.int .i64 (w64 (a1 - a0)))] 88, .row x (List.map e_arena_Span x7) 2 88]) (d := fun x => .val x) (Want.plain rfl) (by first | rfl | simp only [e8, hA.me, cond_true, cond_false, List.cons_append, List.nil_append, List.append_nil]) (fun x => by first | rfl | simp only [ins_self, ins_ne D (show 6 ≠ 8 by decide), upd_self, e8, hA.me, cond_true, cond_false, List.cons_append, List.nil_append, List.append_nil]) (fun x => rfl) (OpR.appendM (m := [(⟨a0, w64 (a1 - a0)⟩ : arena_Span)]) e_arena_Span 2 hx7 rfl rfl rfl rfl rfl rfl rfl rfl rfl (fun _ => rfl))
 refine oS (d := .val (.pointer (some ⟨b0, 0, none⟩))) (fun _ => Want.plain rfl) (fun _ => rfl) (fun _ _ _ => rfl) (fun _ _ => OpR.pure rfl) (fun _ _ _ _ _ _ _ => rfl) ?_
 refine OpsS.cons' true ?_ (fun _ _ _ _ _ _ _ => rfl) ?_
 · intro D env6 hA
   have e6 : D 6 = true := hA.yes 6 _ rfl rfl
   exact OpS.yes (o0 := [.var b0 [.val (.slice none 0 0)] 283, .var (blk p2) [.val (.int .i64 a0), .val (.int .i64 (w64 (a1 - a0)))] 88, .row (env6 6) (List.map e_arena_Span x7) 2 88]) (o1 := fun x => [.var b0 [.val (env6 6)] 283, .var (blk p2) [.val (.int .i64 a0), .val (.int .i64 (w64 (a1 - a0)))] 88, .row (env6 6) (List.map e_arena_Span x7) 2 88]) (d := fun x => .dead) (Want.plain rfl) (by first | rfl | simp only [e6, hA.me, cond_true, cond_false, List.cons_append, List.nil_append, List.append_nil]) (fun x => by first | rfl | simp only [ins_self, ins_ne D (show 8 ≠ 6 by decide), upd_self, upd_ne env6 x (show 8 ≠ 6 by decide), e6, hA.me, cond_true, cond_false, List.cons_append, List.nil_append, List.append_nil]) (fun x => rfl) (OpR.store 0 rfl rfl rfl rfl rfl rfl rfl rfl)
 exact trivial
noncomputable def scan_reader_bare (a0 : List UInt8) (a1 : Int) : Option (Int × (List arena_Span) × Int) :=
  bnd (scan_reader_plain a0 a1) fun x2 =>
  bnd (scan_parts_add a1 x2.2) fun x3 =>
  if x2.1 = true then
    some (2, x3, x2.2)
  else
    some (0, x3, x2.2)
set_option maxHeartbeats 4000000 in
theorem scan_reader_bare_c {a0 : List UInt8} {a1 : Int} {b0 : Nat} {res : Int × (List arena_Span) × Int} (h0 : scan_reader_bare a0 a1 = some res) : CallF X 166 [.val (.pointer (some ⟨b0, 0, none⟩))] [.var b0 [.sl 1 (List.map byteD a0), .val (.int .i64 a1)] 145] (fun x => .tup [.val (.int .i64 res.1), .sl 2 (List.map e_arena_Span res.2.1)]) (fun x => [.var b0 [.sl 1 (List.map byteD a0), .val (.int .i64 res.2.2)] 145]) := by
 unfold scan_reader_bare at h0
 refine CallF.mkG (X := X) Try.func166 rfl rfl Try.ntmps166 rfl rfl ?_
 refine T.seq ?_
 refine T.region ?_
 refine TL.op1 (OpR.pure rfl) rfl ?_
 refine TL.op1 (OpR.pure rfl) rfl ?_
 refine TL.nil ?_
 show T X _ _ _
 refine T.seq ?_
 refine T.region ?_
 refine TL.op (OpR.alloc rfl rfl (fun _ => rfl)) rfl (fun p1 => ?_)
 refine TL.nil ?_
 show T X _ _ _
 refine T.seq ?_
 refine T.region ?_
 refine TL.op1 (OpR.pure rfl) rfl ?_
 refine TL.op1 (OpR.pure rfl) rfl ?_
 refine TL.op1 (OpR.pure rfl) rfl ?_
 refine TL.op1 (OpR.loadPtr 0 rfl rfl rfl rfl) rfl ?_
 refine TL.op1 (OpR.pure rfl) rfl ?_
 refine TL.nil ?_
 show T X _ _ _
 refine T.seq ?_
 refine T.region ?_
 refine TL.op1 (OpR.pure rfl) rfl ?_
 obtain ⟨x2, hx2, h0⟩ := bnd_some h0
 refine TL.op1 (OpR.call [0] fn203 (scan_reader_plain_c hx2) rfl rfl rfl (fun _ => rfl)) rfl ?_
 refine TL.op1 (OpR.pure rfl) rfl ?_
 refine TL.nil ?_
 show T X _ _ _
 refine T.seq ?_
 refine T.region ?_
 refine TL.op1 (OpR.pure rfl) rfl ?_
 refine TL.op1 (OpR.pure rfl) rfl ?_
 refine TL.op1 (OpR.pure rfl) rfl ?_
 refine TL.op1 (OpR.pure rfl) rfl ?_
 refine TL.op1 (OpR.loadPtr 0 rfl rfl rfl rfl) rfl ?_
 obtain ⟨x3, hx3, h0⟩ := bnd_some h0
 refine TL.op (OpR.call [1] fn202 (scan_parts_add_c hx3) rfl rfl rfl (fun _ => rfl)) rfl (fun w4 => ?_)
 refine TL.nil ?_
 show T X _ _ _
 refine T.seq ?_
 refine T.seq ?_
 refine T.region ?_
 refine TL.op1 (OpR.pure rfl) rfl ?_
 refine TL.nil ?_
 show T X _ _ _
 rcases ite_some h0 with ⟨c5, h0⟩ | ⟨c5, h0⟩
 · refine T.condT rfl (c5) ?_
   refine T.seq ?_
   refine T.drawQ drawsX [.val (vn w4 0), .val (.int .i64 2), .val (vn w4 0)] [0, 2, 3, 4, 5, 6, 7, 8, 9, 10, 11, 12, 13, 14, 15, 16, 17, 18, 19, 20] (by decide +kernel) rfl ?_ rfl ?_
   · refine OpsQ.yes (Want.plain rfl) rfl (OpR.loadPtr 1 rfl rfl rfl rfl) ?_
     refine OpsQ.yes (Want.plain rfl) rfl (OpR.pure rfl) ?_
     refine OpsQ.yes (Want.plain rfl) rfl (OpR.pure rfl) ?_
     exact OpsQ.nil
   show T X _ _ _
   refine T.ret ?_
   obtain rfl := Option.some.inj h0
   exact PostG.retP (ks := [0]) (Gst.trans (Gst.only [2, 3] rfl) (Gst.trans (Gst.freezeRow 2 rfl rfl (ReS.cons (Re.base .all) (ReS.cons Re.refl ReS.nil)) (ReO.same (ReO.var (ReL.cons (Re.base .all) ReL.nil) (ReO.same ReO.nil)))) (Gst.pick [0] rfl rfl))) undef (ResL.cons (ResV.tmp rfl) (ResL.cons (ResV.tmp rfl) ResL.nil)) rfl rfl rfl rfl
 refine T.condF rfl (eq_false_of_ne_true c5) ?_
 refine T.skip ?_
 show T X _ _ _
 refine T.seq ?_
 refine T.drawQ drawsX [.val (vn w4 0), .val (.int .i64 0), .val (vn w4 0)] [0, 2, 3, 4, 5, 6, 7, 8, 9, 10, 11, 12, 13, 14, 15, 16, 17, 18, 19, 21] (by decide +kernel) rfl ?_ rfl ?_
 · refine OpsQ.yes (Want.plain rfl) rfl (OpR.loadPtr 1 rfl rfl rfl rfl) ?_
   refine OpsQ.yes (Want.plain rfl) rfl (OpR.pure rfl) ?_
   refine OpsQ.yes (Want.plain rfl) rfl (OpR.pure rfl) ?_
   exact OpsQ.nil
 show T X _ _ _
 refine T.ret ?_
 obtain rfl := Option.some.inj h0
 exact PostG.retP (ks := [0]) (Gst.trans (Gst.only [2, 3] rfl) (Gst.trans (Gst.freezeRow 2 rfl rfl (ReS.cons (Re.base .all) (ReS.cons Re.refl ReS.nil)) (ReO.same (ReO.var (ReL.cons (Re.base .all) ReL.nil) (ReO.same ReO.nil)))) (Gst.pick [0] rfl rfl))) undef (ResL.cons (ResV.tmp rfl) (ResL.cons (ResV.tmp rfl) ResL.nil)) rfl rfl rfl rfl
noncomputable def scan_reader_field (a0 : List UInt8) (a1 : Int) : Option (scan_Field × Int) :=
  bnd (scan_reader_is 34 a0 a1) fun x3 =>
  bnd (if x3 = true then
    bnd (scan_reader_quoted a0 a1) fun x6 =>
    some (x6.2.2, x6.1, x6.2.1)
  else
    bnd (scan_reader_bare a0 a1) fun x7 =>
    some (x7.2.2, x7.1, x7.2.1) : Option (Int × Int × (List arena_Span))) fun t4 =>
  some ((⟨(⟨a1, w64 (t4.1 - a1)⟩ : arena_Span), t4.2.1, t4.2.2⟩ : scan_Field), t4.1)
set_option maxHeartbeats 4000000 in
theorem scan_reader_field_c {a0 : List UInt8} {a1 : Int} {b0 : Nat} {res : scan_Field × Int} (h0 : scan_reader_field a0 a1 = some res) : CallF X 119 [.val (.pointer (some ⟨b0, 0, none⟩))] [.var b0 [.sl 1 (List.map byteD a0), .val (.int .i64 a1)] 145] (fun x => .agg [.val (.int .i64 res.1.fRaw.fAt), .val (.int .i64 res.1.fRaw.fN), .val (.int .i64 res.1.fKind), .sl 2 (List.map e_arena_Span res.1.fParts)]) (fun x => [.var b0 [.sl 1 (List.map byteD a0), .val (.int .i64 res.2)] 145]) := by
 unfold scan_reader_field at h0
 refine CallF.mkG (X := X) Try.func119 rfl rfl Try.ntmps119 rfl rfl ?_
 refine T.seq ?_
 refine T.region ?_
 refine TL.op (OpR.alloc rfl rfl (fun _ => rfl)) rfl (fun p1 => ?_)
 refine TL.nil ?_
 show T X _ _ _
 refine T.seq ?_
 refine T.region ?_
 refine TL.op1 (OpR.pure rfl) rfl ?_
 refine TL.op1 (OpR.pure rfl) rfl ?_
 refine TL.op1 (OpR.pure rfl) rfl ?_
 refine TL.op1 (OpR.loadPtr 0 rfl rfl rfl rfl) rfl ?_
 refine TL.op1 (OpR.pure rfl) rfl ?_
 refine TL.nil ?_
 show T X _ _ _
 refine T.seq ?_
 refine T.region ?_
 refine TL.op (OpR.alloc rfl rfl (fun _ => rfl)) rfl (fun p2 => ?_)
 refine TL.nil ?_
 show T X _ _ _
 refine T.seq ?_
 refine T.seq ?_
 refine T.region ?_
 refine TL.op1 (OpR.pure rfl) rfl ?_
 obtain ⟨x3, hx3, h0⟩ := bnd_some h0
 refine TL.op1 (OpR.call [0] fn120 (scan_reader_is_c hx3) rfl rfl rfl (fun _ => rfl)) rfl ?_
 refine TL.nil ?_
 show T X _ _ _
 obtain ⟨t4, ht4, h0⟩ := bnd_some h0
 refine T.cutC (fun S' => S' = ⟨[(4, .val (.pointer (some ⟨(blk p2), 0, none⟩))), (3, .val (.int .i64 a1)), (2, .val (.pointer (some ⟨(blk p1), 0, none⟩))), (0, .val (.pointer (some ⟨b0, 0, none⟩)))], [.var b0 [.sl 1 (List.map byteD a0), .val (.int .i64 t4.1)] 145, .var (blk p1) [.val (.int .i64 0), .val (.int .i64 0), .val (.int .i64 0), .val (.slice none 0 0)] 148, .var (blk p2) [.val (.int .i64 0), .val (.int .i64 0), .val (.int .i64 t4.2.1), .sl 2 (List.map e_arena_Span t4.2.2)] 148], 35⟩) (fun _ h => h) ?_ ?_
 rotate_left
 · rintro _ rfl
   show T X _ _ _
   refine T.seq ?_
   refine T.region ?_
   refine TL.op1 (OpR.pure rfl) rfl ?_
   refine TL.op1 (OpR.pure rfl) rfl ?_
   refine TL.op1 (OpR.pure rfl) rfl ?_
   refine TL.op1 (OpR.pure rfl) rfl ?_
   refine TL.op1 (OpR.loadPtr 0 rfl rfl rfl rfl) rfl ?_
   refine TL.op1 (OpR.pure rfl) rfl ?_
   refine TL.op1 (OpR.pure rfl) rfl ?_
   refine TL.op1 (OpR.build rfl rfl rfl rfl rfl) rfl ?_
   refine TL.op1 (OpR.pure rfl) rfl ?_
   refine TL.op0 (OpR.store 2 rfl rfl rfl rfl rfl rfl rfl rfl) ?_
   refine TL.nil ?_
   show T X _ _ _
   refine T.seq ?_
   refine T.region ?_
   refine TL.op1 (OpR.loadPtr 2 rfl rfl rfl rfl) rfl ?_
   refine TL.op0 (OpR.store 1 rfl rfl rfl rfl rfl rfl rfl rfl) ?_
   refine TL.nil ?_
   show T X _ _ _
   refine T.ret ?_
   obtain rfl := Option.some.inj h0
   exact PostG.retP (ks := [0]) (Gst.trans (Gst.only [2] rfl) (Gst.pick [0, 1] rfl rfl)) undef (ResL.cons (ResV.var 1 rfl rfl rfl rfl) ResL.nil) rfl rfl rfl rfl
 rcases ite_some ht4 with ⟨c5, ht4⟩ | ⟨c5, ht4⟩
 · refine T.condT rfl (c5) ?_
   refine T.region ?_
   refine TL.op1 (OpR.pure rfl) rfl ?_
   obtain ⟨x6, hx6, ht4⟩ := bnd_some ht4
   refine TL.op1 (OpR.call [0] fn165 (scan_reader_quoted_c hx6) rfl rfl rfl (fun _ => rfl)) rfl ?_
   refine TL.op1 (OpR.pure rfl) rfl ?_
   refine TL.op1 (OpR.pure rfl) rfl ?_
   refine TL.op1 (OpR.pure rfl) rfl ?_
   refine TL.op1 (OpR.pure rfl) rfl ?_
   refine TL.op0 (OpR.store 2 rfl rfl rfl rfl rfl rfl rfl rfl) ?_
   refine TL.op1 (OpR.pure rfl) rfl ?_
   refine TL.op0 (OpR.store 2 rfl rfl rfl rfl rfl rfl rfl rfl) ?_
   refine TL.nil ?_
   obtain rfl := Option.some.inj ht4
   exact ⟨_, Gst.only [0, 2, 3, 4] rfl, rfl⟩
 refine T.condF rfl (eq_false_of_ne_true c5) ?_
 refine T.region ?_
 refine TL.op1 (OpR.pure rfl) rfl ?_
 obtain ⟨x7, hx7, ht4⟩ := bnd_some ht4
 refine TL.op1 (OpR.call [0] fn166 (scan_reader_bare_c hx7) rfl rfl rfl (fun _ => rfl)) rfl ?_
 refine TL.op1 (OpR.pure rfl) rfl ?_
 refine TL.op1 (OpR.pure rfl) rfl ?_
 refine TL.op1 (OpR.pure rfl) rfl ?_
 refine TL.op1 (OpR.pure rfl) rfl ?_
 refine TL.op0 (OpR.store 2 rfl rfl rfl rfl rfl rfl rfl rfl) ?_
 refine TL.op1 (OpR.pure rfl) rfl ?_
 refine TL.op0 (OpR.store 2 rfl rfl rfl rfl rfl rfl rfl rfl) ?_
 refine TL.nil ?_
 obtain rfl := Option.some.inj ht4
 exact ⟨_, Gst.only [0, 2, 3, 4] rfl, rfl⟩
noncomputable def scan_reader_end (a0 : List UInt8) (a1 : Int) : Option (Int × Int) :=
  bnd (scan_reader_is 10 a0 a1) fun x1 =>
  if x1 = true then
    some (1, w64 (a1 + 1))
  else
    bnd (scan_reader_is 13 a0 a1) fun x3 =>
    if x3 = true then
      bnd (scan_reader_is 10 a0 (w64 (a1 + 1))) fun x5 =>
      if x5 = true then
        some (2, w64 ((w64 (a1 + 1)) + 1))
      else
        some (3, w64 (a1 + 1))
    else
      some (0, a1)
set_option maxHeartbeats 4000000 in
theorem scan_reader_end_c {a0 : List UInt8} {a1 : Int} {b0 : Nat} {res : Int × Int} (h0 : scan_reader_end a0 a1 = some res) : CallF X 121 [.val (.pointer (some ⟨b0, 0, none⟩))] [.var b0 [.sl 1 (List.map byteD a0), .val (.int .i64 a1)] 145] (fun x => .val (.int .i64 res.1)) (fun x => [.var b0 [.sl 1 (List.map byteD a0), .val (.int .i64 res.2)] 145]) := by
 unfold scan_reader_end at h0
 refine CallF.mkG (X := X) Try.func121 rfl rfl Try.ntmps121 rfl rfl ?_
 refine T.seq ?_
 refine T.region ?_
 refine TL.op1 (OpR.pure rfl) rfl ?_
 refine TL.nil ?_
 show T X _ _ _
 refine T.seq ?_
 refine T.block ?_
 refine T.seq ?_
 refine T.region ?_
 refine TL.op1 (OpR.pure rfl) rfl ?_
 obtain ⟨x1, hx1, h0⟩ := bnd_some h0
 refine TL.op1 (OpR.call [0] fn120 (scan_reader_is_c hx1) rfl rfl rfl (fun _ => rfl)) rfl ?_
 refine TL.op1 (OpR.pure rfl) rfl ?_
 refine TL.nil ?_
 show T X _ _ _
 rcases ite_some h0 with ⟨c2, h0⟩ | ⟨c2, h0⟩
 · refine T.condT rfl (c2) ?_
   refine T.seq ?_
   refine T.region ?_
   refine TL.op1 (OpR.pure rfl) rfl ?_
   refine TL.op1 (OpR.pure rfl) rfl ?_
   refine TL.op1 (OpR.pure rfl) rfl ?_
   refine TL.op1 (OpR.loadPtr 0 rfl rfl rfl rfl) rfl ?_
   refine TL.op1 (OpR.pure rfl) rfl ?_
   refine TL.op1 (OpR.pure rfl) rfl ?_
   refine TL.op1 (OpR.pure rfl) rfl ?_
   refine TL.op0 (OpR.store 0 rfl rfl rfl rfl rfl rfl rfl rfl) ?_
   refine TL.nil ?_
   show T X _ _ _
   refine T.seq ?_
   refine T.region ?_
   refine TL.op1 (OpR.pure rfl) rfl ?_
   refine TL.nil ?_
   show T X _ _ _
   refine T.ret ?_
   obtain rfl := Option.some.inj h0
   exact PostG.retP (ks := [0]) (Gst.only [2] rfl) undef (ResL.cons (ResV.tmp rfl) ResL.nil) rfl rfl rfl rfl
 refine T.condF rfl (eq_false_of_ne_true c2) ?_
 refine T.seq ?_
 refine T.region ?_
 refine TL.op1 (OpR.pure rfl) rfl ?_
 obtain ⟨x3, hx3, h0⟩ := bnd_some h0
 refine TL.op1 (OpR.call [0] fn120 (scan_reader_is_c hx3) rfl rfl rfl (fun _ => rfl)) rfl ?_
 refine TL.op1 (OpR.pure rfl) rfl ?_
 refine TL.nil ?_
 show T X _ _ _
 rcases ite_some h0 with ⟨c4, h0⟩ | ⟨c4, h0⟩
 rotate_left
 · refine T.condF rfl (eq_false_of_ne_true c4) ?_
   refine T.skip ?_
   show T X _ _ _
   refine T.seq ?_
   refine T.region ?_
   refine TL.op1 (OpR.pure rfl) rfl ?_
   refine TL.nil ?_
   show T X _ _ _
   refine T.ret ?_
   obtain rfl := Option.some.inj h0
   exact PostG.retP (ks := [0]) (Gst.only [2] rfl) undef (ResL.cons (ResV.tmp rfl) ResL.nil) rfl rfl rfl rfl
 refine T.condT rfl (c4) ?_
 refine T.seq ?_
 refine T.region ?_
 refine TL.op1 (OpR.pure rfl) rfl ?_
 refine TL.op1 (OpR.pure rfl) rfl ?_
 refine TL.op1 (OpR.pure rfl) rfl ?_
 refine TL.op1 (OpR.loadPtr 0 rfl rfl rfl rfl) rfl ?_
 refine TL.op1 (OpR.pure rfl) rfl ?_
 refine TL.op1 (OpR.pure rfl) rfl ?_
 refine TL.op1 (OpR.pure rfl) rfl ?_
 refine TL.op0 (OpR.store 0 rfl rfl rfl rfl rfl rfl rfl rfl) ?_
 refine TL.nil ?_
 show T X _ _ _
 refine T.seq ?_
 refine T.seq ?_
 refine T.region ?_
 refine TL.op1 (OpR.pure rfl) rfl ?_
 obtain ⟨x5, hx5, h0⟩ := bnd_some h0
 refine TL.op1 (OpR.call [0] fn120 (scan_reader_is_c hx5) rfl rfl rfl (fun _ => rfl)) rfl ?_
 refine TL.nil ?_
 show T X _ _ _
 rcases ite_some h0 with ⟨c6, h0⟩ | ⟨c6, h0⟩
 rotate_left
 · refine T.condF rfl (eq_false_of_ne_true c6) ?_
   refine T.skip ?_
   show T X _ _ _
   refine T.seq ?_
   refine T.region ?_
   refine TL.op1 (OpR.pure rfl) rfl ?_
   refine TL.nil ?_
   show T X _ _ _
   refine T.ret ?_
   obtain rfl := Option.some.inj h0
   exact PostG.retP (ks := [0]) (Gst.only [2] rfl) undef (ResL.cons (ResV.tmp rfl) ResL.nil) rfl rfl rfl rfl
 refine T.condT rfl (c6) ?_
 refine T.seq ?_
 refine T.region ?_
 refine TL.op1 (OpR.pure rfl) rfl ?_
 refine TL.op1 (OpR.pure rfl) rfl ?_
 refine TL.op1 (OpR.pure rfl) rfl ?_
 refine TL.op1 (OpR.loadPtr 0 rfl rfl rfl rfl) rfl ?_
 refine TL.op1 (OpR.pure rfl) rfl ?_
 refine TL.op1 (OpR.pure rfl) rfl ?_
 refine TL.op1 (OpR.pure rfl) rfl ?_
 refine TL.op0 (OpR.store 0 rfl rfl rfl rfl rfl rfl rfl rfl) ?_
 refine TL.nil ?_
 show T X _ _ _
 refine T.seq ?_
 refine T.region ?_
 refine TL.op1 (OpR.pure rfl) rfl ?_
 refine TL.nil ?_
 show T X _ _ _
 refine T.ret ?_
 obtain rfl := Option.some.inj h0
 exact PostG.retP (ks := [0]) (Gst.only [2] rfl) undef (ResL.cons (ResV.tmp rfl) ResL.nil) rfl rfl rfl rfl
noncomputable def scan_reader_row.l1 (a0 : List UInt8) (s8 : Int × (List scan_Field)) : Option (Lp (Int × (List scan_Field)) (Int × (List scan_Field))) :=
  bnd (scan_reader_is 44 a0 s8.1) fun x16 =>
  if x16 = true then
    bnd (scan_reader_field a0 (w64 (s8.1 + 1))) fun x19 =>
    bnd (app 48 s8.2 [x19.1]) fun x20 =>
    some (Lp.next (x19.2, x20))
  else
    some (Lp.done (s8.1, s8.2))
noncomputable def scan_reader_row (a0 : List UInt8) (a1 : Int) : Option (scan_Row × Int) :=
  bnd (scan_reader_field a0 a1) fun x2 =>
  bnd (loop (scan_reader_row.l1 a0) (x2.2, [x2.1]) : Option (Int × (List scan_Field))) fun t5 =>
  bnd (scan_reader_end a0 t5.1) fun x21 =>
  some ((⟨t5.2, x21.1⟩ : scan_Row), x21.2)
set_option maxHeartbeats 4000000 in
theorem scan_reader_row_c {a0 : List UInt8} {a1 : Int} {b0 : Nat} {res : scan_Row × Int} (h0 : scan_reader_row a0 a1 = some res) : CallF X 66 [.val (.pointer (some ⟨b0, 0, none⟩))] [.var b0 [.sl 1 (List.map byteD a0), .val (.int .i64 a1)] 145] (fun x => .agg [.sl 4 (List.map e_scan_Field res.1.fFields), .val (.int .i64 res.1.fEnd)]) (fun x => [.var b0 [.sl 1 (List.map byteD a0), .val (.int .i64 res.2)] 145]) := by
 unfold scan_reader_row at h0
 refine CallF.mkG (X := X) Try.func66 rfl rfl Try.ntmps66 rfl rfl ?_
 refine T.seq ?_
 refine T.region ?_
 refine TL.op (OpR.alloc rfl rfl (fun _ => rfl)) rfl (fun p1 => ?_)
 refine TL.nil ?_
 show T X _ _ _
 refine T.seq ?_
 refine T.region ?_
 refine TL.op1 (OpR.pure rfl) rfl ?_
 obtain ⟨x2, hx2, h0⟩ := bnd_some h0
 refine TL.op1 (OpR.call [0] fn119 (scan_reader_field_c hx2) rfl rfl rfl (fun _ => rfl)) rfl ?_
 refine TL.op (OpR.litRow rfl rfl rfl rfl rfl rfl rfl rfl (fun _ => rfl)) rfl (fun v3 => ?_)
 refine TL.op1 (OpR.build rfl rfl rfl rfl rfl) rfl ?_
 refine TL.op (OpR.alloc rfl rfl (fun _ => rfl)) rfl (fun p4 => ?_)
 refine TL.op0 (OpR.store 3 rfl rfl rfl rfl rfl rfl rfl rfl) ?_
 refine TL.nil ?_
 show T X _ _ _
 refine T.seq ?_
 obtain ⟨t5, ht5, h0⟩ := bnd_some h0
 refine T.cutC (fun S' => ∃ y6 : Value, S' = ⟨[(3, .val (.pointer (some ⟨(blk p4), 0, none⟩))), (2, .val (.pointer (some ⟨(blk p1), 0, none⟩))), (0, .val (.pointer (some ⟨b0, 0, none⟩)))], [.var b0 [.sl 1 (List.map byteD a0), .val (.int .i64 t5.1)] 145, .var (blk p1) [.val (.slice none 0 0), .val (.int .i64 0)] 54, .var (blk p4) [.val y6, .val (.int .i64 0)] 54, .row y6 (List.map e_scan_Field t5.2) 4 148], 28⟩) (fun _ h => h) ?_ ?_
 rotate_left
 · rintro _ ⟨y6, rfl⟩
   show T X _ _ _
   refine T.seq ?_
   refine T.region ?_
   refine TL.op1 (OpR.pure rfl) rfl ?_
   obtain ⟨x21, hx21, h0⟩ := bnd_some h0
   refine TL.op1 (OpR.call [0] fn121 (scan_reader_end_c hx21) rfl rfl rfl (fun _ => rfl)) rfl ?_
   refine TL.op1 (OpR.pure rfl) rfl ?_
   refine TL.op0 (OpR.store 2 rfl rfl rfl rfl rfl rfl rfl rfl) ?_
   refine TL.nil ?_
   show T X _ _ _
   refine T.seq ?_
   refine T.region ?_
   refine TL.op1 (OpR.loadPtr 2 rfl rfl rfl rfl) rfl ?_
   refine TL.op0 (OpR.store 1 rfl rfl rfl rfl rfl rfl rfl rfl) ?_
   refine TL.nil ?_
   show T X _ _ _
   refine T.ret ?_
   obtain rfl := Option.some.inj h0
   exact PostG.retP (ks := [0]) (Gst.trans (Gst.only [2] rfl) (Gst.trans (Gst.freezeRow 3 rfl rfl (ReS.cons Re.refl ReS.nil) (ReO.same (ReO.var (ReL.cons (Re.base .all) (ReL.cons Re.refl ReL.nil)) (ReO.var (ReL.cons (Re.base .all) (ReL.cons Re.refl ReL.nil)) (ReO.same ReO.nil))))) (Gst.pick [0, 1] rfl rfl))) undef (ResL.cons (ResV.var 1 rfl rfl rfl rfl) ResL.nil) rfl rfl rfl rfl
 refine T.block ?_
 obtain ⟨n9, n14⟩ := loop_some ht5
 refine T.loop (fun n S' => ∃ S'', Gst S' S'' ∧ ∃ y7 : Value, ∃ s8 : Int × (List scan_Field), S'' = ⟨[(3, .val (.pointer (some ⟨(blk p4), 0, none⟩))), (2, .val (.pointer (some ⟨(blk p1), 0, none⟩))), (0, .val (.pointer (some ⟨b0, 0, none⟩)))], [.var b0 [.sl 1 (List.map byteD a0), .val (.int .i64 s8.1)] 145, .var (blk p1) [.val (.slice none 0 0), .val (.int .i64 0)] 54, .var (blk p4) [.val y7, .val (.int .i64 0)] 54, .row y7 (List.map e_scan_Field s8.2) 4 148], 28⟩ ∧ iter (scan_reader_row.l1 a0) n s8 = some t5) n9 ?_ ?_
 · exact ⟨_, Gst.trans (Gst.only [0, 2, 3] rfl) (Gst.pick [0, 1, 3, 2] rfl rfl), v3, (x2.2, [x2.1]), rfl, n14⟩
 rintro n9 _ ⟨_, g, y7, s8, rfl, i13⟩
 refine T.ghost g ?_
 obtain ⟨m10, q11, rfl, q12, i13⟩ := iter_succ i13
 unfold scan_reader_row.l1 at q12
 refine T.seq ?_
 refine T.seq ?_
 refine T.region ?_
 refine TL.op1 (OpR.pure rfl) rfl ?_
 obtain ⟨x16, hx16, q12⟩ := bnd_some q12
 refine TL.op1 (OpR.call [0] fn120 (scan_reader_is_c hx16) rfl rfl rfl (fun _ => rfl)) rfl ?_
 refine TL.nil ?_
 show T X _ _ _
 rcases ite_some q12 with ⟨c17, q12⟩ | ⟨c17, q12⟩
 rotate_left
 · refine T.condF rfl (eq_false_of_ne_true c17) ?_
   refine T.exit ?_
   obtain rfl := Option.some.inj q12
   obtain rfl : _ = _ := i13
   exact ⟨_, Gst.only [0, 2, 3] rfl, y7, rfl⟩
 refine T.condT rfl (c17) ?_
 refine T.skip ?_
 show T X _ _ _
 refine T.block ?_
 refine T.seq ?_
 refine T.region ?_
 refine TL.op1 (OpR.pure rfl) rfl ?_
 refine TL.op1 (OpR.pure rfl) rfl ?_
 refine TL.op1 (OpR.pure rfl) rfl ?_
 refine TL.op1 (OpR.loadPtr 0 rfl rfl rfl rfl) rfl ?_
 refine TL.op1 (OpR.pure rfl) rfl ?_
 refine TL.op1 (OpR.pure rfl) rfl ?_
 refine TL.op1 (OpR.pure rfl) rfl ?_
 refine TL.op0 (OpR.store 0 rfl rfl rfl rfl rfl rfl rfl rfl) ?_
 refine TL.nil ?_
 show T X _ _ _
 obtain ⟨x19, hx19, q12⟩ := bnd_some q12
 obtain ⟨x20, hx20, q12⟩ := bnd_some q12
 refine T.drawS drawsX (fun env18 => [.val (.pointer (some ⟨(blk p4), 0, none⟩)), .val y7, .val (.pointer (some ⟨b0, 0, none⟩)), .agg [.val (.int .i64 x19.1.fRaw.fAt), .val (.int .i64 x19.1.fRaw.fN), .val (.int .i64 x19.1.fKind), .sl 2 (List.map e_arena_Span x19.1.fParts)], .sl 4 (List.map e_scan_Field [x19.1]), .val (env18 5), .val (.pointer (some ⟨(blk p4), 0, none⟩)), .dead]) (fun D env18 => [(bif D 3 then .var b0 [.sl 1 (List.map byteD a0), .val (.int .i64 x19.2)] 145 else .var b0 [.sl 1 (List.map byteD a0), .val (.int .i64 (w64 (s8.1 + 1)))] 145), .var (blk p1) [.val (.slice none 0 0), .val (.int .i64 0)] 54, (bif D 7 then .var (blk p4) [.val (env18 5), .val (.int .i64 0)] 54 else .var (blk p4) [.val y7, .val (.int .i64 0)] 54), (bif D 5 then .row (env18 5) (List.map e_scan_Field x20) 4 148 else .row y7 (List.map e_scan_Field s8.2) 4 148)]) [0, 1, 0, 4, 12, 31, 63, 127] [0, 2, 3, 8, 9, 10, 11, 12, 13, 14, 15, 16, 17, 18, 19, 20, 21, 22, 23] (fun env18 => [.var b0 [.sl 1 (List.map byteD a0), .val (.int .i64 x19.2)] 145, .var (blk p1) [.val (.slice none 0 0), .val (.int .i64 0)] 54, .var (blk p4) [.val (env18 5), .val (.int .i64 0)] 54, .row (env18 5) (List.map e_scan_Field x20) 4 148]) (by decide +kernel) (by decide +kernel) (fun _ => rfl) (fun _ => rfl) ?_ (fun _ => rfl) (fun _ => rfl) ?_
 rotate_left
 · intro env18
   obtain rfl := Option.some.inj q12
   exact ⟨m10, Nat.lt_succ_self _, _, Gst.only [0, 2, 3] rfl, (env18 5), (x19.2, x20), rfl, i13⟩
 refine oS (d := .val (.pointer (some ⟨(blk p4), 0, none⟩))) (fun _ => Want.plain rfl) (fun _ => rfl) (fun _ _ _ => rfl) (fun _ _ => OpR.pure rfl) (fun _ _ _ _ _ _ _ => rfl) ?_
 refine OpsS.cons' true ?_ (fun _ _ _ _ _ _ _ => rfl) ?_
 · intro D env18 hA
   have e5 : D 5 = false := hA.no 5 _ rfl rfl
   have e7 : D 7 = false := hA.no 7 _ rfl rfl
   rcases Bool.eq_false_or_eq_true (D 3) with e3 | e3
   · exact OpS.yes (o0 := [.var b0 [.sl 1 (List.map byteD a0), .val (.int .i64 x19.2)] 145, .var (blk p1) [.val (.slice none 0 0), .val (.int .i64 0)] 54, .var (blk p4) [.val y7, .val (.int .i64 0)] 54, .row y7 (List.map e_scan_Field s8.2) 4 148]) (o1 := fun x => [.var b0 [.sl 1 (List.map byteD a0), .val (.int .i64 x19.2)] 145, .var (blk p1) [.val (.slice none 0 0), .val (.int .i64 0)] 54, .var (blk p4) [.val y7, .val (.int .i64 0)] 54, .row y7 (List.map e_scan_Field s8.2) 4 148]) (d := fun x => .val y7) (Want.plain rfl) (by first | rfl | simp only [e5, e7, e3, cond_true, cond_false, List.cons_append, List.nil_append, List.append_nil]) (fun x => by first | rfl | simp only [ins_self, ins_ne D (show 1 ≠ 3 by decide), ins_ne D (show 1 ≠ 5 by decide), ins_ne D (show 1 ≠ 7 by decide), upd_self, upd_ne env18 x (show 1 ≠ 5 by decide), e5, e7, e3, cond_true, cond_false, List.cons_append, List.nil_append, List.append_nil]) (fun x => rfl) (OpR.loadPtr 2 rfl rfl rfl rfl)
   exact OpS.yes (o0 := [.var b0 [.sl 1 (List.map byteD a0), .val (.int .i64 (w64 (s8.1 + 1)))] 145, .var (blk p1) [.val (.slice none 0 0), .val (.int .i64 0)] 54, .var (blk p4) [.val y7, .val (.int .i64 0)] 54, .row y7 (List.map e_scan_Field s8.2) 4 148]) (o1 := fun x => [.var b0 [.sl 1 (List.map byteD a0), .val (.int .i64 (w64 (s8.1 + 1)))] 145, .var (blk p1) [.val (.slice none 0 0), .val (.int .i64 0)] 54, .var (blk p4) [.val y7, .val (.int .i64 0)] 54, .row y7 (List.map e_scan_Field s8.2) 4 148]) (d := fun x => .val y7) (Want.plain rfl) (by first | rfl | simp only [e5, e7, e3, cond_true, cond_false, List.cons_append, List.nil_append, List.append_nil]) (fun x => by first | rfl | simp only [ins_self, ins_ne D (show 1 ≠ 3 by decide), ins_ne D (show 1 ≠ 5 by decide), ins_ne D (show 1 ≠ 7 by decide), upd_self, upd_ne env18 x (show 1 ≠ 5 by decide), e5, e7, e3, cond_true, cond_false, List.cons_append, List.nil_append, List.append_nil]) (fun x => rfl) (OpR.loadPtr 2 rfl rfl rfl rfl)
 refine oS (d := .val (.pointer (some ⟨b0, 0, none⟩))) (fun _ => Want.plain rfl) (fun _ => rfl) (fun _ _ _ => rfl) (fun _ _ => OpR.pure rfl) (fun _ _ _ _ _ _ _ => rfl) ?_
 refine OpsS.cons' true ?_ (fun _ _ _ _ _ _ _ => rfl) ?_
 · intro D env18 hA
   have e5 : D 5 = false := hA.no 5 _ rfl rfl
   have e7 : D 7 = false := hA.no 7 _ rfl rfl
   exact OpS.yes (o0 := [.var b0 [.sl 1 (List.map byteD a0), .val (.int .i64 (w64 (s8.1 + 1)))] 145, .var (blk p1) [.val (.slice none 0 0), .val (.int .i64 0)] 54, .var (blk p4) [.val y7, .val (.int .i64 0)] 54, .row y7 (List.map e_scan_Field s8.2) 4 148]) (o1 := fun x => [.var b0 [.sl 1 (List.map byteD a0), .val (.int .i64 x19.2)] 145, .var (blk p1) [.val (.slice none 0 0), .val (.int .i64 0)] 54, .var (blk p4) [.val y7, .val (.int .i64 0)] 54, .row y7 (List.map e_scan_Field s8.2) 4 148]) (d := fun x => .agg [.val (.int .i64 x19.1.fRaw.fAt), .val (.int .i64 x19.1.fRaw.fN), .val (.int .i64 x19.1.fKind), .sl 2 (List.map e_arena_Span x19.1.fParts)]) (Want.plain rfl) (by first | rfl | simp only [e5, e7, hA.me, cond_true, cond_false, List.cons_append, List.nil_append, List.append_nil]) (fun x => by first | rfl | simp only [ins_self, ins_ne D (show 3 ≠ 5 by decide), ins_ne D (show 3 ≠ 7 by decide), upd_self, upd_ne env18 x (show 3 ≠ 5 by decide), e5, e7, hA.me, cond_true, cond_false, List.cons_append, List.nil_append, List.append_nil]) (fun x => rfl) (OpR.call [0] fn119 (scan_reader_field_c hx19) rfl rfl rfl (fun _ => rfl))
 refine oS (d := .sl 4 (List.map e_scan_Field [x19.1])) (fun _ => Want.plain rfl) (fun _ => rfl) (fun _ _ _ => rfl) (fun _ _ => OpR.lit rfl rfl rfl rfl rfl rfl rfl) (fun _ _ _ _ _ _ _ => rfl) ?_
 refine OpsS.cons' true ?_ (fun D hA env18 x j hj hD => match j, hj, hD with | 0, _, _ => rfl | 1, _, _ => rfl | 2, _, _ => rfl | 3, _, _ => rfl | 4, _, _ => rfl | 5, hj, _ => absurd rfl hj | 6, _, _ => rfl | 7, _, _ => rfl | _ + 8, _, _ => rfl) ?_
 · intro D env18 hA
   have e3 : D 3 = true := hA.yes 3 _ rfl rfl
   have e7 : D 7 = false := hA.no 7 _ rfl rfl
   exact OpS.yes (o0 := [.var b0 [.sl 1 (List.map byteD a0), .val (.int .i64 x19.2)] 145, .var (blk p1) [.val (.slice none 0 0), .val (.int .i64 0)] 54, .var (blk p4) [.val y7, .val (.int .i64 0)] 54, .row y7 (List.map e_scan_Field s8.2) 4 148]) (o1 := fun x => [.var b0 [.sl 1 (List.map byteD a0), .val (.int .i64 x19.2)] 145, .var (blk p1) [.val (.slice none 0 0), .val (.int .i64 0)] 54, .var (blk p4) [.val y7, .val (.int .i64 0)] 54, .row x (List.map e_scan_Field x20) 4 148]) (d := fun x => .val x) (Want.plain rfl) (by first | rfl | simp only [e3, e7, hA.me, cond_true, cond_false, List.cons_append, List.nil_append, List.append_nil]) (fun x => by first | rfl | simp only [ins_self, ins_ne D (show 5 ≠ 3 by decide), ins_ne D (show 5 ≠ 7 by decide), upd_self, e3, e7, hA.me, cond_true, cond_false, List.cons_append, List.nil_append, List.append_nil]) (fun x => rfl) (OpR.appendM (m := [x19.1]) e_scan_Field 3 hx20 rfl rfl rfl rfl rfl rfl rfl rfl rfl (fun _ => rfl))
 refine oS (d := .val (.pointer (some ⟨(blk p4), 0, none⟩))) (fun _ => Want.plain rfl) (fun _ => rfl) (fun _ _ _ => rfl) (fun _ _ => OpR.pure rfl) (fun _ _ _ _ _ _ _ => rfl) ?_
 refine OpsS.cons' true ?_ (fun _ _ _ _ _ _ _ => rfl) ?_
 · intro D env18 hA
   have e3 : D 3 = true := hA.yes 3 _ rfl rfl
   have e5 : D 5 = true := hA.yes 5 _ rfl rfl
   exact OpS.yes (o0 := [.var b0 [.sl 1 (List.map byteD a0), .val (.int .i64 x19.2)] 145, .var (blk p1) [.val (.slice none 0 0), .val (.int .i64 0)] 54, .var (blk p4) [.val y7, .val (.int .i64 0)] 54, .row (env18 5) (List.map e_scan_Field x20) 4 148]) (o1 := fun x => [.var b0 [.sl 1 (List.map byteD a0), .val (.int .i64 x19.2)] 145, .var (blk p1) [.val (.slice none 0 0), .val (.int .i64 0)] 54, .var (blk p4) [.val (env18 5), .val (.int .i64 0)] 54, .row (env18 5) (List.map e_scan_Field x20) 4 148]) (d := fun x => .dead) (Want.plain rfl) (by first | rfl | simp only [e3, e5, hA.me, cond_true, cond_false, List.cons_append, List.nil_append, List.append_nil]) (fun x => by first | rfl | simp only [ins_self, ins_ne D (show 7 ≠ 3 by decide), ins_ne D (show 7 ≠ 5 by decide), upd_self, upd_ne env18 x (show 7 ≠ 5 by decide), e3, e5, hA.me, cond_true, cond_false, List.cons_append, List.nil_append, List.append_nil]) (fun x => rfl) (OpR.store 2 rfl rfl rfl rfl rfl rfl rfl rfl)
 exact trivial
noncomputable def cell_Load (a0 : scan_Field) : Option cell_Cell :=
  bnd (piece_Of a0.fParts) fun x3 =>
  some (⟨x3, a0.fRaw, true⟩ : cell_Cell)
set_option maxHeartbeats 4000000 in
theorem cell_Load_c {a0 : scan_Field} {res : cell_Cell} (h0 : cell_Load a0 = some res) : CallF X 67 [.agg [.val (.int .i64 a0.fRaw.fAt), .val (.int .i64 a0.fRaw.fN), .val (.int .i64 a0.fKind), .sl 2 (List.map e_arena_Span a0.fParts)]] [] (fun x => .agg [.sl 2 (List.map e_arena_Span res.fText.fL), .val (.int .i64 res.fText.fN), .val (.int .i64 res.fRaw.fAt), .val (.int .i64 res.fRaw.fN), .val (.bool res.fKept)]) (fun x => []) := by
 unfold cell_Load at h0
 refine CallF.mkG (X := X) Try.func67 rfl rfl Try.ntmps67 rfl rfl ?_
 refine T.seq ?_
 refine T.region ?_
 refine TL.op1 (OpR.boxImm rfl rfl) rfl ?_
 refine TL.op (OpR.alloc rfl rfl (fun _ => rfl)) rfl (fun p1 => ?_)
 refine TL.nil ?_
 show T X _ _ _
 refine T.seq ?_
 obtain ⟨x3, hx3, h0⟩ := bnd_some h0
 refine T.drawS drawsX (fun env2 => [.nod [.sl 2 (List.map e_arena_Span a0.fParts)], .sl 2 (List.map e_arena_Span a0.fParts), .agg [.sl 2 (List.map e_arena_Span x3.fL), .val (.int .i64 x3.fN)], .nod [.val (.int .i64 a0.fRaw.fAt), .val (.int .i64 a0.fRaw.fN), .val (.int .i64 a0.fKind), .sl 2 (List.map e_arena_Span a0.fParts)], .agg [.val (.int .i64 a0.fRaw.fAt), .val (.int .i64 a0.fRaw.fN)], .agg [.sl 2 (List.map e_arena_Span x3.fL), .val (.int .i64 x3.fN), .val (.int .i64 a0.fRaw.fAt), .val (.int .i64 a0.fRaw.fN), .val (.bool true)], .dead]) (fun D env2 => [(bif D 6 then .var (blk p1) [.sl 2 (List.map e_arena_Span x3.fL), .val (.int .i64 x3.fN), .val (.int .i64 a0.fRaw.fAt), .val (.int .i64 a0.fRaw.fN), .val (.bool true)] 108 else .var (blk p1) [.val (.slice none 0 0), .val (.int .i64 0), .val (.int .i64 0), .val (.int .i64 0), .val (.bool false)] 108)]) [0, 1, 3, 0, 8, 31, 63] [0, 1, 2, 3, 4, 5, 6, 7, 8] (fun env2 => [.var (blk p1) [.sl 2 (List.map e_arena_Span x3.fL), .val (.int .i64 x3.fN), .val (.int .i64 a0.fRaw.fAt), .val (.int .i64 a0.fRaw.fN), .val (.bool true)] 108]) (by decide +kernel) (by decide +kernel) (fun _ => rfl) (fun _ => rfl) ?_ (fun _ => rfl) (fun _ => rfl) ?_
 rotate_left
 · intro env2
   show T X _ _ _
   refine T.ret ?_
   obtain rfl := Option.some.inj h0
   exact PostG.retP (ks := []) (Gst.only [2] rfl) undef (ResL.cons (ResV.var 0 rfl rfl rfl rfl) ResL.nil) rfl rfl rfl rfl
 refine oS (d := .nod [.sl 2 (List.map e_arena_Span a0.fParts)]) (fun _ => Want.plain rfl) (fun _ => rfl) (fun _ _ _ => rfl) (fun _ _ => OpR.pure rfl) (fun _ _ _ _ _ _ _ => rfl) ?_
 refine oS (d := .sl 2 (List.map e_arena_Span a0.fParts)) (fun _ => Want.plain rfl) (fun _ => rfl) (fun _ _ _ => rfl) (fun _ _ => OpR.pure rfl) (fun _ _ _ _ _ _ _ => rfl) ?_
 refine oS (d := .agg [.sl 2 (List.map e_arena_Span x3.fL), .val (.int .i64 x3.fN)]) (fun _ => Want.plain rfl) (fun _ => rfl) (fun _ _ _ => rfl) (fun _ _ => OpR.call0 fn42 (piece_Of_c hx3) rfl) (fun _ _ _ _ _ _ _ => rfl) ?_
 refine oS (d := .nod [.val (.int .i64 a0.fRaw.fAt), .val (.int .i64 a0.fRaw.fN), .val (.int .i64 a0.fKind), .sl 2 (List.map e_arena_Span a0.fParts)]) (fun _ => Want.plain rfl) (fun _ => rfl) (fun _ _ _ => rfl) (fun _ _ => OpR.pure rfl) (fun _ _ _ _ _ _ _ => rfl) ?_
 refine oS (d := .agg [.val (.int .i64 a0.fRaw.fAt), .val (.int .i64 a0.fRaw.fN)]) (fun _ => Want.plain rfl) (fun _ => rfl) (fun _ _ _ => rfl) (fun _ _ => OpR.pure rfl) (fun _ _ _ _ _ _ _ => rfl) ?_
 refine oS (d := .agg [.sl 2 (List.map e_arena_Span x3.fL), .val (.int .i64 x3.fN), .val (.int .i64 a0.fRaw.fAt), .val (.int .i64 a0.fRaw.fN), .val (.bool true)]) (fun _ => Want.plain rfl) (fun _ => rfl) (fun _ _ _ => rfl) (fun _ _ => OpR.build rfl rfl rfl rfl rfl) (fun _ _ _ _ _ _ _ => rfl) ?_
 refine OpsS.cons' true ?_ (fun _ _ _ _ _ _ _ => rfl) ?_
 · intro D env2 hA
   exact OpS.yes (o0 := [.var (blk p1) [.val (.slice none 0 0), .val (.int .i64 0), .val (.int .i64 0), .val (.int .i64 0), .val (.bool false)] 108]) (o1 := fun x => [.var (blk p1) [.sl 2 (List.map e_arena_Span x3.fL), .val (.int .i64 x3.fN), .val (.int .i64 a0.fRaw.fAt), .val (.int .i64 a0.fRaw.fN), .val (.bool true)] 108]) (d := fun x => .dead) (Want.plain rfl) (by first | rfl | simp only [hA.me, cond_true, cond_false, List.cons_append, List.nil_append, List.append_nil]) (fun x => by first | rfl | simp only [ins_self, upd_self, hA.me, cond_true, cond_false, List.cons_append, List.nil_append, List.append_nil]) (fun x => rfl) (OpR.store 0 rfl rfl rfl rfl rfl rfl rfl rfl)
 exact trivial
noncomputable def row_Load.l1 (a0 : scan_Row) (s7 : Int × (List cell_Cell)) : Option (Lp (Int × (List cell_Cell)) (Ex (List cell_Cell) (row_Row × Int))) :=
  if s7.1 < (a0.fFields.length : Int) then
    bnd (idx a0.fFields s7.1) fun x16 =>
    bnd (cell_Load x16) fun x19 =>
    bnd (idx s7.2 s7.1) fun x20 =>
    bnd (idx (s7.2.set s7.1.toNat x19) s7.1) fun x21 =>
    bnd (piece_Text_Len x21.fText) fun x22 =>
    if x22 > 400 then
      some (Lp.done (Ex.ret ((⟨[], 0, false⟩ : row_Row), 7)))
    else
      some (Lp.next (w64 (s7.1 + 1), (s7.2.set s7.1.toNat x19)))
  else
    some (Lp.done (Ex.brk s7.2))
noncomputable def row_Load (a0 : scan_Row) : Option (row_Row × Int) :=
  if (a0.fFields.length : Int) > 40 then
    some ((⟨[], 0, false⟩ : row_Row), 6)
  else
    bnd (mkz 56 (a0.fFields.length : Int) ((⟨(⟨[], 0⟩ : piece_Text), (⟨0, 0⟩ : arena_Span), false⟩ : cell_Cell) : cell_Cell)) fun x4 =>
    bnd (loop (row_Load.l1 a0) (0, x4) : Option (Ex (List cell_Cell) (row_Row × Int))) fun t5 => match t5 with
      | .brk u6 =>
        some ((⟨u6, a0.fEnd, false⟩ : row_Row), 0)
      | .ret u6 => some u6
set_option maxHeartbeats 4000000 in
theorem row_Load_c {a0 : scan_Row} {res : row_Row × Int} (h0 : row_Load a0 = some res) : CallF X 28 [.agg [.sl 4 (List.map e_scan_Field a0.fFields), .val (.int .i64 a0.fEnd)]] [] (fun x => .tup [.agg [.sl 5 (List.map e_cell_Cell res.1.fCells), .val (.int .i64 res.1.fEnd), .val (.bool res.1.fHidden)], .val (.int .i64 res.2)]) (fun x => []) := by
 unfold row_Load at h0
 refine CallF.mkG (X := X) Try.func28 rfl rfl Try.ntmps28 rfl rfl ?_
 refine T.seq ?_
 refine T.region ?_
 refine TL.op1 (OpR.boxImm rfl rfl) rfl ?_
 refine TL.op (OpR.alloc rfl rfl (fun _ => rfl)) rfl (fun p1 => ?_)
 refine TL.op1 (OpR.pure rfl) rfl ?_
 refine TL.nil ?_
 show T X _ _ _
 refine T.seq ?_
 refine T.seq ?_
 refine T.region ?_
 refine TL.op1 (OpR.pure rfl) rfl ?_
 refine TL.op1 (OpR.pure rfl) rfl ?_
 refine TL.op1 (OpR.cast (OpR.pure rfl) (intE (lenM _ _))) rfl ?_
 refine TL.op1 (OpR.pure rfl) rfl ?_
 refine TL.nil ?_
 show T X _ _ _
 rcases ite_some h0 with ⟨c2, h0⟩ | ⟨c2, h0⟩
 · refine T.condT rfl (decide_eq_true c2) ?_
   refine T.seq ?_
   refine T.region ?_
   refine TL.op1 (OpR.build rfl rfl rfl rfl rfl) rfl ?_
   refine TL.op0 (OpR.store 0 rfl rfl rfl rfl rfl rfl rfl rfl) ?_
   refine TL.op1 (OpR.pure rfl) rfl ?_
   refine TL.nil ?_
   show T X _ _ _
   refine T.ret ?_
   obtain rfl := Option.some.inj h0
   exact PostG.retP (ks := []) (Gst.trans (Gst.only [2, 3] rfl) (Gst.denil (ReS.cons Re.refl (ReS.cons Re.refl ReS.nil)) (ReO.var (ReL.cons (Re.base .nil) (ReL.cons Re.refl (ReL.cons Re.refl ReL.nil))) ReO.nil))) undef (ResL.cons (ResV.var 0 rfl rfl rfl rfl) (ResL.cons (ResV.tmp rfl) ResL.nil)) rfl rfl rfl rfl
 refine T.condF rfl (decide_eq_false c2) ?_
 refine T.skip ?_
 show T X _ _ _
 refine T.seq ?_
 obtain ⟨x4, hx4, h0⟩ := bnd_some h0
 refine T.drawS drawsX (fun env3 => [.nod [.sl 4 (List.map e_scan_Field a0.fFields), .val (.int .i64 a0.fEnd)], .sl 4 (List.map e_scan_Field a0.fFields), .val (.int .i64 (a0.fFields.length : Int)), .val (env3 3), .nod [.val (.int .i64 a0.fEnd)], .val (.int .i64 a0.fEnd), .agg [.val (env3 3), .val (.int .i64 a0.fEnd), .val (.bool false)], .val (.pointer (some ⟨(blk (env3 7)), 0, none⟩)), .dead]) (fun D env3 => [.var (blk p1) [.val (.slice none 0 0), .val (.int .i64 0), .val (.bool false)] 49] ++ (bif D 3 then [.row (env3 3) (List.map e_cell_Cell x4) 5 108] else []) ++ (bif D 7 then [(bif D 8 then .var (blk (env3 7)) [.val (env3 3), .val (.int .i64 a0.fEnd), .val (.bool false)] 49 else .var (blk (env3 7)) [.val (.slice none 0 0), .val (.int .i64 0), .val (.bool false)] 49)] else [])) [0, 1, 3, 7, 0, 16, 63, 0, 255] [0, 1, 2, 3, 4, 7, 8, 9, 10, 12, 13, 14, 15, 16, 17, 18] (fun env3 => [.var (blk p1) [.val (.slice none 0 0), .val (.int .i64 0), .val (.bool false)] 49, .row (env3 3) (List.map e_cell_Cell x4) 5 108, .var (blk (env3 7)) [.val (env3 3), .val (.int .i64 a0.fEnd), .val (.bool false)] 49]) (by decide +kernel) (by decide +kernel) (fun _ => rfl) (fun _ => rfl) ?_ (fun _ => rfl) (fun _ => rfl) ?_
 · refine oS (d := .nod [.sl 4 (List.map e_scan_Field a0.fFields), .val (.int .i64 a0.fEnd)]) (fun _ => Want.plain rfl) (fun _ => rfl) (fun _ _ _ => rfl) (fun _ _ => OpR.pure rfl) (fun _ _ _ _ _ _ _ => rfl) ?_
   refine oS (d := .sl 4 (List.map e_scan_Field a0.fFields)) (fun _ => Want.plain rfl) (fun _ => rfl) (fun _ _ _ => rfl) (fun _ _ => OpR.pure rfl) (fun _ _ _ _ _ _ _ => rfl) ?_
   refine oS (d := .val (.int .i64 (a0.fFields.length : Int))) (fun _ => Want.plain rfl) (fun _ => rfl) (fun _ _ _ => rfl) (fun _ _ => OpR.cast (OpR.pure rfl) (intE (lenM _ _))) (fun _ _ _ _ _ _ _ => rfl) ?_
   refine OpsS.cons' true ?_ (fun D hA env3 x j hj hD => match j, hj, hD with | 0, _, _ => rfl | 1, _, _ => rfl | 2, _, _ => rfl | 3, hj, _ => absurd rfl hj | 4, _, _ => rfl | 5, _, _ => rfl | 6, _, hD => absurd hD (by rw [hA.no 6 _ rfl rfl]; decide) | 7, _, _ => rfl | 8, _, _ => rfl | _ + 9, _, _ => rfl) ?_
   · intro D env3 hA
     have e8 : D 8 = false := hA.no 8 _ rfl rfl
     rcases Bool.eq_false_or_eq_true (D 7) with e7 | e7
     rotate_left
     · exact OpS.yes (o0 := [.var (blk p1) [.val (.slice none 0 0), .val (.int .i64 0), .val (.bool false)] 49]) (o1 := fun x => [.var (blk p1) [.val (.slice none 0 0), .val (.int .i64 0), .val (.bool false)] 49, .row x (List.map e_cell_Cell x4) 5 108]) (d := fun x => .val x) (Want.plain rfl) (by first | rfl | simp only [e8, e7, hA.me, cond_true, cond_false, List.cons_append, List.nil_append, List.append_nil]) (fun x => by first | rfl | simp only [ins_self, ins_ne D (show 3 ≠ 7 by decide), ins_ne D (show 3 ≠ 8 by decide), upd_self, upd_ne env3 x (show 3 ≠ 7 by decide), e8, e7, hA.me, cond_true, cond_false, List.cons_append, List.nil_append, List.append_nil]) (fun x => rfl) (OpR.makeN e_cell_Cell hx4 rfl rfl rfl rfl rfl rfl rfl rfl rfl rfl (ReL.cons (Re.base .nil) (ReL.cons Re.refl (ReL.cons Re.refl (ReL.cons Re.refl (ReL.cons Re.refl ReL.nil))))) rfl (fun _ => rfl))
     exact OpS.yes (o0 := [.var (blk p1) [.val (.slice none 0 0), .val (.int .i64 0), .val (.bool false)] 49, .var (blk (env3 7)) [.val (.slice none 0 0), .val (.int .i64 0), .val (.bool false)] 49]) (o1 := fun x => [.var (blk p1) [.val (.slice none 0 0), .val (.int .i64 0), .val (.bool false)] 49, .row x (List.map e_cell_Cell x4) 5 108, .var (blk (env3 7)) [.val (.slice none 0 0), .val (.int .i64 0), .val (.bool false)] 49]) (d := fun x => .val x) (Want.plain rfl) (by first | rfl | simp only [e8, e7, hA.me, cond_true, cond_false, List.cons_append, List.nil_append, List.append_nil]) (fun x => by first | rfl | simp only [ins_self, ins_ne D (show 3 ≠ 7 by decide), ins_ne D (show 3 ≠ 8 by decide), upd_self, upd_ne env3 x (show 3 ≠ 7 by decide), e8, e7, hA.me, cond_true, cond_false, List.cons_append, List.nil_append, List.append_nil]) (fun x => rfl) (OpR.pick [0, 2, 1] (OpR.makeN e_cell_Cell hx4 rfl rfl rfl rfl rfl rfl rfl rfl rfl rfl (ReL.cons (Re.base .nil) (ReL.cons Re.refl (ReL.cons Re.refl (ReL.cons Re.refl (ReL.cons Re.refl ReL.nil))))) rfl (fun _ => rfl)) (fun _ => rfl) rfl)
   refine oS (d := .nod [.val (.int .i64 a0.fEnd)]) (fun _ => Want.plain rfl) (fun _ => rfl) (fun _ _ _ => rfl) (fun _ _ => OpR.pure rfl) (fun _ _ _ _ _ _ _ => rfl) ?_
   refine oS (d := .val (.int .i64 a0.fEnd)) (fun _ => Want.plain rfl) (fun _ => rfl) (fun _ _ _ => rfl) (fun _ _ => OpR.pure rfl) (fun _ _ _ _ _ _ _ => rfl) ?_
   refine OpsS.cons' true (fun D env3 hA => OpS.same (d := .agg [.val (env3 3), .val (.int .i64 a0.fEnd), .val (.bool false)]) (Want.plain rfl) (fun x => rfl) (fun x => rfl) (OpR.build rfl rfl rfl rfl rfl)) (fun _ _ _ _ _ _ _ => rfl) ?_
   refine OpsS.cons' true ?_ (fun D hA env3 x j hj hD => match j, hj, hD with | 0, _, _ => rfl | 1, _, _ => rfl | 2, _, _ => rfl | 3, _, _ => rfl | 4, _, _ => rfl | 5, _, _ => rfl | 6, _, _ => rfl | 7, hj, _ => absurd rfl hj | 8, _, _ => rfl | _ + 9, _, _ => rfl) ?_
   · intro D env3 hA
     have e8 : D 8 = false := hA.no 8 _ rfl rfl
     rcases Bool.eq_false_or_eq_true (D 3) with e3 | e3
     rotate_left
     · exact OpS.yes (o0 := [.var (blk p1) [.val (.slice none 0 0), .val (.int .i64 0), .val (.bool false)] 49]) (o1 := fun x => [.var (blk p1) [.val (.slice none 0 0), .val (.int .i64 0), .val (.bool false)] 49, .var (blk x) [.val (.slice none 0 0), .val (.int .i64 0), .val (.bool false)] 49]) (d := fun x => .val (.pointer (some ⟨(blk x), 0, none⟩))) (Want.plain rfl) (by first | rfl | simp only [e8, e3, hA.me, cond_true, cond_false, List.cons_append, List.nil_append, List.append_nil]) (fun x => by first | rfl | simp only [ins_self, ins_ne D (show 7 ≠ 3 by decide), ins_ne D (show 7 ≠ 8 by decide), upd_self, upd_ne env3 x (show 7 ≠ 3 by decide), e8, e3, hA.me, cond_true, cond_false, List.cons_append, List.nil_append, List.append_nil]) (fun x => rfl) (OpR.alloc rfl rfl (fun _ => rfl))
     exact OpS.yes (o0 := [.var (blk p1) [.val (.slice none 0 0), .val (.int .i64 0), .val (.bool false)] 49, .row (env3 3) (List.map e_cell_Cell x4) 5 108]) (o1 := fun x => [.var (blk p1) [.val (.slice none 0 0), .val (.int .i64 0), .val (.bool false)] 49, .row (env3 3) (List.map e_cell_Cell x4) 5 108, .var (blk x) [.val (.slice none 0 0), .val (.int .i64 0), .val (.bool false)] 49]) (d := fun x => .val (.pointer (some ⟨(blk x), 0, none⟩))) (Want.plain rfl) (by first | rfl | simp only [e8, e3, hA.me, cond_true, cond_false, List.cons_append, List.nil_append, List.append_nil]) (fun x => by first | rfl | simp only [ins_self, ins_ne D (show 7 ≠ 3 by decide), ins_ne D (show 7 ≠ 8 by decide), upd_self, upd_ne env3 x (show 7 ≠ 3 by decide), e8, e3, hA.me, cond_true, cond_false, List.cons_append, List.nil_append, List.append_nil]) (fun x => rfl) (OpR.alloc rfl rfl (fun _ => rfl))
   refine OpsS.cons' true ?_ (fun _ _ _ _ _ _ _ => rfl) ?_
   · intro D env3 hA
     have e3 : D 3 = true := hA.yes 3 _ rfl rfl
     have e7 : D 7 = true := hA.yes 7 _ rfl rfl
     exact OpS.yes (o0 := [.var (blk p1) [.val (.slice none 0 0), .val (.int .i64 0), .val (.bool false)] 49, .row (env3 3) (List.map e_cell_Cell x4) 5 108, .var (blk (env3 7)) [.val (.slice none 0 0), .val (.int .i64 0), .val (.bool false)] 49]) (o1 := fun x => [.var (blk p1) [.val (.slice none 0 0), .val (.int .i64 0), .val (.bool false)] 49, .row (env3 3) (List.map e_cell_Cell x4) 5 108, .var (blk (env3 7)) [.val (env3 3), .val (.int .i64 a0.fEnd), .val (.bool false)] 49]) (d := fun x => .dead) (Want.plain rfl) (by first | rfl | simp only [e3, e7, hA.me, cond_true, cond_false, List.cons_append, List.nil_append, List.append_nil]) (fun x => by first | rfl | simp only [ins_self, ins_ne D (show 8 ≠ 3 by decide), ins_ne D (show 8 ≠ 7 by decide), upd_self, upd_ne env3 x (show 8 ≠ 3 by decide), upd_ne env3 x (show 8 ≠ 7 by decide), e3, e7, hA.me, cond_true, cond_false, List.cons_append, List.nil_append, List.append_nil]) (fun x => rfl) (OpR.store 2 rfl rfl rfl rfl rfl rfl rfl rfl)
   exact trivial
 intro env3
 show T X _ _ _
 refine T.seq ?_
 refine T.seq ?_
 refine T.region ?_
 refine TL.op1 (OpR.pure rfl) rfl ?_
 refine TL.op1 (OpR.pure rfl) rfl ?_
 refine TL.op1 (OpR.cast (OpR.pure rfl) (intE (lenM _ _))) rfl ?_
 refine TL.op1 (OpR.pure rfl) rfl ?_
 refine TL.nil ?_
 show T X _ _ _
 obtain ⟨t5, ht5, h0⟩ := bnd_some h0
 refine T.cutC (fun S' => ∃ u6, t5 = Ex.brk u6 ∧ S' = ⟨[(4, .val (.pointer (some ⟨(blk (env3 7)), 0, none⟩))), (3, .val (.int .i64 0)), (2, .val (.pointer (some ⟨(blk p1), 0, none⟩)))], [.var (blk p1) [.val (.slice none 0 0), .val (.int .i64 0), .val (.bool false)] 49, .var (blk (env3 7)) [.val (env3 3), .val (.int .i64 a0.fEnd), .val (.bool false)] 49, .row (env3 3) (List.map e_cell_Cell u6) 5 108], 44⟩) (fun _ h => h) ?_ ?_
 rotate_left
 · rintro _ ⟨u6, rfl, rfl⟩
   show T X _ _ _
   refine T.seq ?_
   refine T.region ?_
   refine TL.op1 (OpR.loadPtr 1 rfl rfl rfl rfl) rfl ?_
   refine TL.op0 (OpR.store 0 rfl rfl rfl rfl rfl rfl rfl rfl) ?_
   refine TL.op1 (OpR.pure rfl) rfl ?_
   refine TL.nil ?_
   show T X _ _ _
   refine T.ret ?_
   obtain rfl := Option.some.inj h0
   exact PostG.retP (ks := []) (Gst.trans (Gst.only [2, 3] rfl) (Gst.trans (Gst.freezeRow 2 rfl rfl (ReS.cons Re.refl (ReS.cons Re.refl ReS.nil)) (ReO.var (ReL.cons (Re.base .all) (ReL.cons Re.refl (ReL.cons Re.refl ReL.nil))) (ReO.var (ReL.cons (Re.base .all) (ReL.cons Re.refl (ReL.cons Re.refl ReL.nil))) (ReO.same ReO.nil)))) (Gst.pick [0] rfl rfl))) undef (ResL.cons (ResV.var 0 rfl rfl rfl rfl) (ResL.cons (ResV.tmp rfl) ResL.nil)) rfl rfl rfl rfl
 refine T.block ?_
 obtain ⟨n8, n13⟩ := loop_some ht5
 refine T.loop (fun n S' => ∃ S'', Gst S' S'' ∧ ∃ s7 : Int × (List cell_Cell), S'' = ⟨[(22, .val (.int .i64 s7.1)), (21, .val (.int .i64 (a0.fFields.length : Int))), (20, .sl 4 (List.map e_scan_Field a0.fFields)), (4, .val (.pointer (some ⟨(blk (env3 7)), 0, none⟩))), (3, .val (.int .i64 0)), (2, .val (.pointer (some ⟨(blk p1), 0, none⟩)))], [.var (blk p1) [.val (.slice none 0 0), .val (.int .i64 0), .val (.bool false)] 49, .var (blk (env3 7)) [.val (env3 3), .val (.int .i64 a0.fEnd), .val (.bool false)] 49, .row (env3 3) (List.map e_cell_Cell s7.2) 5 108], 44⟩ ∧ iter (row_Load.l1 a0) n s7 = some t5) n8 ?_ ?_
 · exact ⟨_, Gst.trans (Gst.only [2, 3, 4, 20, 21, 22] rfl) (Gst.pick [0, 2, 1] rfl rfl), (0, x4), rfl, n13⟩
 rintro n8 _ ⟨_, g, s7, rfl, i12⟩
 refine T.ghost g ?_
 obtain ⟨m9, q10, rfl, q11, i12⟩ := iter_succ i12
 unfold row_Load.l1 at q11
 refine T.seq ?_
 refine T.region ?_
 refine TL.op1 (OpR.pure rfl) rfl ?_
 refine TL.nil ?_
 show T X _ _ _
 refine T.seq ?_
 rcases ite_some q11 with ⟨c15, q11⟩ | ⟨c15, q11⟩
 rotate_left
 · refine T.condF rfl (decide_eq_false c15) ?_
   refine T.exit ?_
   obtain rfl := Option.some.inj q11
   obtain rfl : _ = _ := i12
   exact ⟨_, Gst.only [2, 3, 4] rfl, _, rfl, rfl⟩
 refine T.condT rfl (decide_eq_true c15) ?_
 refine T.skip ?_
 show T X _ _ _
 refine T.seq ?_
 refine T.block ?_
 refine T.seq ?_
 refine T.region ?_
 refine TL.op1 (OpR.pure rfl) rfl ?_
 obtain ⟨x16, hx16, q11⟩ := bnd_some q11
 refine TL.op1 (OpR.indexM e_scan_Field hx16 rfl rfl rfl rfl rfl) rfl ?_
 refine TL.op1 (OpR.pure rfl) rfl ?_
 refine TL.op (OpR.alloc rfl rfl (fun _ => rfl)) rfl (fun p17 => ?_)
 refine TL.op1 (OpR.pure rfl) rfl ?_
 refine TL.op0 (OpR.store 3 rfl rfl rfl rfl rfl rfl rfl rfl) ?_
 refine TL.nil ?_
 show T X _ _ _
 refine T.seq ?_
 obtain ⟨x19, hx19, q11⟩ := bnd_some q11
 obtain ⟨x20, hx20, q11⟩ := bnd_some q11
 refine T.drawS drawsX (fun env18 => [.val (.pointer (some ⟨(blk (env3 7)), 0, none⟩)), .val (env3 3), .val (.int .i64 s7.1), .agg [.val (.int .i64 x16.fRaw.fAt), .val (.int .i64 x16.fRaw.fN), .val (.int .i64 x16.fKind), .sl 2 (List.map e_arena_Span x16.fParts)], .agg [.sl 2 (List.map e_arena_Span x19.fText.fL), .val (.int .i64 x19.fText.fN), .val (.int .i64 x19.fRaw.fAt), .val (.int .i64 x19.fRaw.fN), .val (.bool x19.fKept)], .val (.pointer (some ⟨blk (env3 3), s7.1.toNat * 5, none⟩)), .dead]) (fun D env18 => [.var (blk p1) [.val (.slice none 0 0), .val (.int .i64 0), .val (.bool false)] 49, .var (blk (env3 7)) [.val (env3 3), .val (.int .i64 a0.fEnd), .val (.bool false)] 49, (bif D 6 then .row (env3 3) (List.map e_cell_Cell (s7.2.set s7.1.toNat x19)) 5 108 else .row (env3 3) (List.map e_cell_Cell s7.2) 5 108), .var (blk p17) [.val (.int .i64 x16.fRaw.fAt), .val (.int .i64 x16.fRaw.fN), .val (.int .i64 x16.fKind), .sl 2 (List.map e_arena_Span x16.fParts)] 148]) [0, 1, 0, 0, 8, 31, 63] [2, 3, 4, 5, 6, 20, 21, 22, 23, 24, 25, 26, 27, 28, 29, 30, 31] (fun env18 => [.var (blk p1) [.val (.slice none 0 0), .val (.int .i64 0), .val (.bool false)] 49, .var (blk (env3 7)) [.val (env3 3), .val (.int .i64 a0.fEnd), .val (.bool false)] 49, .row (env3 3) (List.map e_cell_Cell (s7.2.set s7.1.toNat x19)) 5 108, .var (blk p17) [.val (.int .i64 x16.fRaw.fAt), .val (.int .i64 x16.fRaw.fN), .val (.int .i64 x16.fKind), .sl 2 (List.map e_arena_Span x16.fParts)] 148]) (by decide +kernel) (by decide +kernel) (fun _ => rfl) (fun _ => rfl) ?_ (fun _ => rfl) (fun _ => rfl) ?_
 rotate_left
 · intro env18
   show T X _ _ _
   refine T.seq ?_
   refine T.region ?_
   refine TL.op1 (OpR.pure rfl) rfl ?_
   refine TL.op1 (OpR.loadPtr 1 rfl rfl rfl rfl) rfl ?_
   refine TL.op1 (OpR.pure rfl) rfl ?_
   obtain ⟨x21, hx21, q11⟩ := bnd_some q11
   refine TL.op1 (OpR.rowIndexM e_cell_Cell 2 hx21 rfl rfl rfl rfl rfl rfl rfl) rfl ?_
   refine TL.op1 (OpR.pure rfl) rfl ?_
   refine TL.op1 (OpR.rowLoad0M (j := s7.1) e_cell_Cell 2 hx21 rfl rfl rfl rfl) rfl ?_
   obtain ⟨x22, hx22, q11⟩ := bnd_some q11
   refine TL.op1 (OpR.call0 fn68 (piece_Text_Len_c hx22) rfl) rfl ?_
   refine TL.op1 (OpR.pure rfl) rfl ?_
   refine TL.nil ?_
   show T X _ _ _
   rcases ite_some q11 with ⟨c23, q11⟩ | ⟨c23, q11⟩
   rotate_left
   · refine T.condF rfl (decide_eq_false c23) ?_
     refine T.skip ?_
     show T X _ _ _
     refine T.region ?_
     refine TL.op1 (OpR.pure rfl) rfl ?_
     refine TL.op1 (OpR.pure rfl) rfl ?_
     refine TL.nil ?_
     obtain rfl := Option.some.inj q11
     exact ⟨m9, Nat.lt_succ_self _, _, Gst.trans (Gst.only [2, 3, 4, 20, 21, 22] rfl) (Gst.pick [0, 1, 2] rfl rfl), (w64 (s7.1 + 1), (s7.2.set s7.1.toNat x19)), rfl, i12⟩
   refine T.condT rfl (decide_eq_true c23) ?_
   refine T.seq ?_
   refine T.region ?_
   refine TL.op1 (OpR.build rfl rfl rfl rfl rfl) rfl ?_
   refine TL.op0 (OpR.store 0 rfl rfl rfl rfl rfl rfl rfl rfl) ?_
   refine TL.op1 (OpR.pure rfl) rfl ?_
   refine TL.nil ?_
   show T X _ _ _
   refine T.ret ?_
   obtain rfl := Option.some.inj q11
   obtain rfl : _ = _ := i12
   obtain rfl := Option.some.inj h0
   exact PostG.retP (ks := []) (Gst.trans (Gst.only [2, 3] rfl) (Gst.trans (Gst.denil (ReS.cons Re.refl (ReS.cons Re.refl ReS.nil)) (ReO.var (ReL.cons (Re.base .nil) (ReL.cons Re.refl (ReL.cons Re.refl ReL.nil))) (ReO.same (ReO.same (ReO.same ReO.nil))))) (Gst.pick [0] rfl rfl))) undef (ResL.cons (ResV.var 0 rfl rfl rfl rfl) (ResL.cons (ResV.tmp rfl) ResL.nil)) rfl rfl rfl rfl
 refine oS (d := .val (.pointer (some ⟨(blk (env3 7)), 0, none⟩))) (fun _ => Want.plain rfl) (fun _ => rfl) (fun _ _ _ => rfl) (fun _ _ => OpR.pure rfl) (fun _ _ _ _ _ _ _ => rfl) ?_
 refine oS (d := .val (env3 3)) (fun _ => Want.plain rfl) (fun _ => rfl) (fun _ _ _ => rfl) (fun _ _ => OpR.loadPtr 1 rfl rfl rfl rfl) (fun _ _ _ _ _ _ _ => rfl) ?_
 refine oS (d := .val (.int .i64 s7.1)) (fun _ => Want.plain rfl) (fun _ => rfl) (fun _ _ _ => rfl) (fun _ _ => OpR.pure rfl) (fun _ _ _ _ _ _ _ => rfl) ?_
 refine oS (d := .agg [.val (.int .i64 x16.fRaw.fAt), .val (.int .i64 x16.fRaw.fN), .val (.int .i64 x16.fKind), .sl 2 (List.map e_arena_Span x16.fParts)]) (fun _ => Want.plain rfl) (fun _ => rfl) (fun _ _ _ => rfl) (fun _ _ => OpR.loadPtr 3 rfl rfl rfl rfl) (fun _ _ _ _ _ _ _ => rfl) ?_
 refine oS (d := .agg [.sl 2 (List.map e_arena_Span x19.fText.fL), .val (.int .i64 x19.fText.fN), .val (.int .i64 x19.fRaw.fAt), .val (.int .i64 x19.fRaw.fN), .val (.bool x19.fKept)]) (fun _ => Want.plain rfl) (fun _ => rfl) (fun _ _ _ => rfl) (fun _ _ => OpR.call0 fn67 (cell_Load_c hx19) rfl) (fun _ _ _ _ _ _ _ => rfl) ?_
 refine OpsS.cons' true ?_ (fun _ _ _ _ _ _ _ => rfl) ?_
 · intro D env18 hA
   have e6 : D 6 = false := hA.no 6 _ rfl rfl
   exact OpS.yes (o0 := [.var (blk p1) [.val (.slice none 0 0), .val (.int .i64 0), .val (.bool false)] 49, .var (blk (env3 7)) [.val (env3 3), .val (.int .i64 a0.fEnd), .val (.bool false)] 49, .row (env3 3) (List.map e_cell_Cell s7.2) 5 108, .var (blk p17) [.val (.int .i64 x16.fRaw.fAt), .val (.int .i64 x16.fRaw.fN), .val (.int .i64 x16.fKind), .sl 2 (List.map e_arena_Span x16.fParts)] 148]) (o1 := fun x => [.var (blk p1) [.val (.slice none 0 0), .val (.int .i64 0), .val (.bool false)] 49, .var (blk (env3 7)) [.val (env3 3), .val (.int .i64 a0.fEnd), .val (.bool false)] 49, .row (env3 3) (List.map e_cell_Cell s7.2) 5 108, .var (blk p17) [.val (.int .i64 x16.fRaw.fAt), .val (.int .i64 x16.fRaw.fN), .val (.int .i64 x16.fKind), .sl 2 (List.map e_arena_Span x16.fParts)] 148]) (d := fun x => .val (.pointer (some ⟨blk (env3 3), s7.1.toNat * 5, none⟩))) (Want.plain rfl) (by first | rfl | simp only [e6, cond_true, cond_false, List.cons_append, List.nil_append, List.append_nil]) (fun x => by first | rfl | simp only [ins_self, ins_ne D (show 5 ≠ 6 by decide), upd_self, e6, cond_true, cond_false, List.cons_append, List.nil_append, List.append_nil]) (fun x => rfl) (OpR.rowIndexM e_cell_Cell 2 hx20 rfl rfl rfl rfl rfl rfl rfl)
 refine OpsS.cons' true ?_ (fun _ _ _ _ _ _ _ => rfl) ?_
 · intro D env18 hA
   exact OpS.yes (o0 := [.var (blk p1) [.val (.slice none 0 0), .val (.int .i64 0), .val (.bool false)] 49, .var (blk (env3 7)) [.val (env3 3), .val (.int .i64 a0.fEnd), .val (.bool false)] 49, .row (env3 3) (List.map e_cell_Cell s7.2) 5 108, .var (blk p17) [.val (.int .i64 x16.fRaw.fAt), .val (.int .i64 x16.fRaw.fN), .val (.int .i64 x16.fKind), .sl 2 (List.map e_arena_Span x16.fParts)] 148]) (o1 := fun x => [.var (blk p1) [.val (.slice none 0 0), .val (.int .i64 0), .val (.bool false)] 49, .var (blk (env3 7)) [.val (env3 3), .val (.int .i64 a0.fEnd), .val (.bool false)] 49, .row (env3 3) (List.map e_cell_Cell (s7.2.set s7.1.toNat x19)) 5 108, .var (blk p17) [.val (.int .i64 x16.fRaw.fAt), .val (.int .i64 x16.fRaw.fN), .val (.int .i64 x16.fKind), .sl 2 (List.map e_arena_Span x16.fParts)] 148]) (d := fun x => .dead) (Want.plain rfl) (by first | rfl | simp only [hA.me, cond_true, cond_false, List.cons_append, List.nil_append, List.append_nil]) (fun x => by first | rfl | simp only [ins_self, upd_self, hA.me, cond_true, cond_false, List.cons_append, List.nil_append, List.append_nil]) (fun x => rfl) (OpR.rowStore0M (j := s7.1) e_cell_Cell x19 2 hx20 rfl rfl rfl rfl rfl rfl rfl rfl rfl)
 exact trivial
noncomputable def ref07_Same.l1 (a0 : List ref07_Cell) (a1 : List ref07_Cell) (s4 : Int) : Option (Lp Int (Ex Unit Bool)) :=
  if s4 < (a0.length : Int) then
    bnd (idx a0 s4) fun x14 =>
    bnd (idx a1 s4) fun x15 =>
    if x14 = x15 then
      some (Lp.next (w64 (s4 + 1)))
    else
      some (Lp.done (Ex.ret false))
  else
    some (Lp.done (Ex.brk ()))
noncomputable def ref07_Same (a0 : List ref07_Cell) (a1 : List ref07_Cell) : Option Bool :=
  if (a0.length : Int) = (a1.length : Int) then
    bnd (loop (ref07_Same.l1 a0 a1) 0 : Option (Ex Unit Bool)) fun t2 => match t2 with
      | .brk u3 =>
        some true
      | .ret u3 => some u3
  else
    some false
set_option maxHeartbeats 4000000 in
theorem ref07_Same_c {a0 : List ref07_Cell} {a1 : List ref07_Cell} {res : Bool} (h0 : ref07_Same a0 a1 = some res) : CallF X 70 [.sl 3 (List.map e_ref07_Cell a0), .sl 3 (List.map e_ref07_Cell a1)] [] (fun x => .val (.bool res)) (fun x => []) := by
 unfold ref07_Same at h0
 refine CallF.mkG (X := X) Try.func70 rfl rfl Try.ntmps70 rfl rfl ?_
 refine T.seq ?_
 refine T.region ?_
 refine TL.op1 (OpR.pure rfl) rfl ?_
 refine TL.nil ?_
 show T X _ _ _
 refine T.seq ?_
 refine T.seq ?_
 refine T.region ?_
 refine TL.op1 (OpR.pure rfl) rfl ?_
 refine TL.op1 (OpR.cast (OpR.pure rfl) (intE (lenM _ _))) rfl ?_
 refine TL.op1 (OpR.pure rfl) rfl ?_
 refine TL.op1 (OpR.cast (OpR.pure rfl) (intE (lenM _ _))) rfl ?_
 refine TL.op1 (OpR.pure rfl) rfl ?_
 refine TL.nil ?_
 show T X _ _ _
 rcases ite_some h0 with ⟨c1, h0⟩ | ⟨c1, h0⟩
 rotate_left
 · refine T.condT rfl (not_f (beq_eq_false_iff_ne.2 c1)) ?_
   refine T.seq ?_
   refine T.region ?_
   refine TL.op1 (OpR.pure rfl) rfl ?_
   refine TL.nil ?_
   show T X _ _ _
   refine T.ret ?_
   obtain rfl := Option.some.inj h0
   exact PostG.retP (ks := []) (Gst.only [4] rfl) undef (ResL.cons (ResV.tmp rfl) ResL.nil) rfl rfl rfl rfl
 refine T.condF rfl (not_t (beq_iff_eq.2 c1)) ?_
 refine T.skip ?_
 show T X _ _ _
 refine T.seq ?_
 refine T.seq ?_
 refine T.region ?_
 refine TL.op1 (OpR.pure rfl) rfl ?_
 refine TL.op1 (OpR.cast (OpR.pure rfl) (intE (lenM _ _))) rfl ?_
 refine TL.op1 (OpR.pure rfl) rfl ?_
 refine TL.nil ?_
 show T X _ _ _
 obtain ⟨t2, ht2, h0⟩ := bnd_some h0
 refine T.cutC (fun S' => ∃ u3, t2 = Ex.brk u3 ∧ S' = ⟨[(4, .val (.bool false))], [], 26⟩) (fun _ h => h) ?_ ?_
 rotate_left
 · rintro _ ⟨u3, rfl, rfl⟩
   show T X _ _ _
   refine T.seq ?_
   refine T.region ?_
   refine TL.op1 (OpR.pure rfl) rfl ?_
   refine TL.nil ?_
   show T X _ _ _
   refine T.ret ?_
   obtain rfl := Option.some.inj h0
   exact PostG.retP (ks := []) (Gst.only [4] rfl) undef (ResL.cons (ResV.tmp rfl) ResL.nil) rfl rfl rfl rfl
 refine T.block ?_
 obtain ⟨n5, n10⟩ := loop_some ht2
 refine T.loop (fun n S' => ∃ S'', Gst S' S'' ∧ ∃ s4 : Int, S'' = ⟨[(13, .val (.int .i64 s4)), (12, .val (.int .i64 (a0.length : Int))), (4, .val (.bool false)), (1, .sl 3 (List.map e_ref07_Cell a1)), (0, .sl 3 (List.map e_ref07_Cell a0))], [], 26⟩ ∧ iter (ref07_Same.l1 a0 a1) n s4 = some t2) n5 ?_ ?_
 · exact ⟨_, Gst.only [0, 1, 4, 12, 13] rfl, 0, rfl, n10⟩
 rintro n5 _ ⟨_, g, s4, rfl, i9⟩
 refine T.ghost g ?_
 obtain ⟨m6, q7, rfl, q8, i9⟩ := iter_succ i9
 unfold ref07_Same.l1 at q8
 refine T.seq ?_
 refine T.region ?_
 refine TL.op1 (OpR.pure rfl) rfl ?_
 refine TL.nil ?_
 show T X _ _ _
 refine T.seq ?_
 rcases ite_some q8 with ⟨c12, q8⟩ | ⟨c12, q8⟩
 rotate_left
 · refine T.condF rfl (decide_eq_false c12) ?_
   refine T.exit ?_
   obtain rfl := Option.some.inj q8
   obtain rfl : _ = _ := i9
   exact ⟨_, Gst.only [4] rfl, _, rfl, rfl⟩
 refine T.condT rfl (decide_eq_true c12) ?_
 refine T.skip ?_
 show T X _ _ _
 refine T.seq ?_
 refine T.block ?_
 refine T.seq ?_
 refine T.region ?_
 refine TL.op1 (OpR.pure rfl) rfl ?_
 refine TL.op1 (OpR.pure rfl) rfl ?_
 refine TL.nil ?_
 show T X _ _ _
 refine T.seq ?_
 obtain ⟨x14, hx14, q8⟩ := bnd_some q8
 obtain ⟨x15, hx15, q8⟩ := bnd_some q8
 refine T.drawQ drawsX [.sl 3 (List.map e_ref07_Cell a0), .val (.int .i64 s4), .nod [.val (.string (bs x14.fS)), .val (.string (bs x14.fRaw)), .val (.bool x14.fKept)], .agg [.val (.string (bs x14.fS)), .val (.string (bs x14.fRaw)), .val (.bool x14.fKept)], .sl 3 (List.map e_ref07_Cell a1), .val (.int .i64 s4), .nod [.val (.string (bs x15.fS)), .val (.string (bs x15.fRaw)), .val (.bool x15.fKept)], .agg [.val (.string (bs x15.fS)), .val (.string (bs x15.fRaw)), .val (.bool x15.fKept)], .val (.bool (!(x14 == x15)))] [0, 1, 4, 5, 12, 13, 14, 15, 16, 17, 18, 19, 20, 21, 22, 23, 24] (by decide +kernel) rfl ?_ rfl ?_
 · refine OpsQ.yes (Want.plain rfl) rfl (OpR.pure rfl) ?_
   refine OpsQ.yes (Want.plain rfl) rfl (OpR.pure rfl) ?_
   refine OpsQ.yes (Want.plain rfl) rfl (OpR.indexM e_ref07_Cell hx14 rfl rfl rfl rfl rfl) ?_
   refine OpsQ.yes (Want.plain rfl) rfl (OpR.pure rfl) ?_
   refine OpsQ.yes (Want.plain rfl) rfl (OpR.pure rfl) ?_
   refine OpsQ.yes (Want.plain rfl) rfl (OpR.pure rfl) ?_
   refine OpsQ.yes (Want.plain rfl) rfl (OpR.indexM e_ref07_Cell hx15 rfl rfl rfl rfl rfl) ?_
   refine OpsQ.yes (Want.plain rfl) rfl (OpR.pure rfl) ?_
   refine OpsQ.yes (Want.plain rfl) rfl (OpR.cast (OpR.neStruct rfl rfl rfl rfl rfl (by kernel_rfl) (by kernel_rfl)) (boolE (congrArg (fun b => !b) (beq_ref07_Cell x14 x15)))) ?_
   exact OpsQ.nil
 show T X _ _ _
 rcases ite_some q8 with ⟨c16, q8⟩ | ⟨c16, q8⟩
 · refine T.condF rfl (not_t (beq_iff_eq.2 c16)) ?_
   refine T.skip ?_
   show T X _ _ _
   refine T.region ?_
   refine TL.op1 (OpR.pure rfl) rfl ?_
   refine TL.op1 (OpR.pure rfl) rfl ?_
   refine TL.nil ?_
   obtain rfl := Option.some.inj q8
   exact ⟨m6, Nat.lt_succ_self _, _, Gst.only [0, 1, 4, 12, 13] rfl, w64 (s4 + 1), rfl, i9⟩
 refine T.condT rfl (not_f (beq_eq_false_iff_ne.2 c16)) ?_
 refine T.seq ?_
 refine T.region ?_
 refine TL.op1 (OpR.pure rfl) rfl ?_
 refine TL.nil ?_
 show T X _ _ _
 refine T.ret ?_
 obtain rfl := Option.some.inj q8
 obtain rfl : _ = _ := i9
 obtain rfl := Option.some.inj h0
 exact PostG.retP (ks := []) (Gst.only [4] rfl) undef (ResL.cons (ResV.tmp rfl) ResL.nil) rfl rfl rfl rfl
noncomputable def ref08_Same (a0 : ref08_Row) (a1 : ref08_Row) : Option Bool :=
  bnd (if a0.fEnd = a1.fEnd then
    if (a0.fHidden == a1.fHidden) = true then
      bnd (ref07_Same a0.fCells a1.fCells) fun x4 =>
      some x4
    else
      some false
  else
    some false : Option Bool) fun t1 =>
  some t1
set_option maxHeartbeats 4000000 in
theorem ref08_Same_c {a0 : ref08_Row} {a1 : ref08_Row} {res : Bool} (h0 : ref08_Same a0 a1 = some res) : CallF X 30 [.agg [.sl 3 (List.map e_ref07_Cell a0.fCells), .val (.int .i64 a0.fEnd), .val (.bool a0.fHidden)], .agg [.sl 3 (List.map e_ref07_Cell a1.fCells), .val (.int .i64 a1.fEnd), .val (.bool a1.fHidden)]] [] (fun x => .val (.bool res)) (fun x => []) := by
 unfold ref08_Same at h0
 refine CallF.mkG (X := X) Try.func30 rfl rfl Try.ntmps30 rfl rfl ?_
 refine T.seq ?_
 refine T.region ?_
 refine TL.op1 (OpR.boxImm rfl rfl) rfl ?_
 refine TL.op1 (OpR.boxImm rfl rfl) rfl ?_
 refine TL.op1 (OpR.pure rfl) rfl ?_
 refine TL.nil ?_
 show T X _ _ _
 refine T.seq ?_
 obtain ⟨t1, ht1, h0⟩ := bnd_some h0
 refine T.cutC (fun S' => S' = ⟨[(4, .val (.bool t1))], [], 24⟩) (fun _ h => h) ?_ ?_
 rotate_left
 · rintro _ rfl
   show T X _ _ _
   refine T.ret ?_
   obtain rfl := Option.some.inj h0
   exact PostG.retP (ks := []) (Gst.only [4] rfl) undef (ResL.cons (ResV.tmp rfl) ResL.nil) rfl rfl rfl rfl
 refine T.region ?_
 refine TL.op1 (OpR.pure rfl) rfl ?_
 refine TL.op1 (OpR.pure rfl) rfl ?_
 refine TL.op1 (OpR.pure rfl) rfl ?_
 refine TL.op1 (OpR.pure rfl) rfl ?_
 refine TL.op1 (OpR.pure rfl) rfl ?_
 refine TL.op1 (OpR.pure rfl) rfl ?_
 rcases ite_some ht1 with ⟨c2, ht1⟩ | ⟨c2, ht1⟩
 rotate_left
 · refine TL.off rfl rfl rfl rfl (beq_eq_false_iff_ne.2 c2) rfl rfl ?_
   refine TL.off rfl rfl rfl rfl (beq_eq_false_iff_ne.2 c2) rfl rfl ?_
   refine TL.off rfl rfl rfl rfl (beq_eq_false_iff_ne.2 c2) rfl rfl ?_
   refine TL.off rfl rfl rfl rfl (beq_eq_false_iff_ne.2 c2) rfl rfl ?_
   refine TL.off rfl rfl rfl rfl (beq_eq_false_iff_ne.2 c2) rfl rfl ?_
   refine TL.op1 (OpR.pickF rfl (beq_eq_false_iff_ne.2 c2) rfl) rfl ?_
   refine TL.op1 (OpR.pure rfl) rfl ?_
   refine TL.off rfl rfl rfl rfl rfl rfl rfl ?_
   refine TL.off rfl rfl rfl rfl rfl rfl rfl ?_
   refine TL.off rfl rfl rfl rfl rfl rfl rfl ?_
   refine TL.off rfl rfl rfl rfl rfl rfl rfl ?_
   refine TL.off rfl rfl rfl rfl rfl rfl rfl ?_
   refine TL.op1 (OpR.pickF rfl rfl rfl) rfl ?_
   refine TL.op1 (OpR.pure rfl) rfl ?_
   refine TL.nil ?_
   obtain rfl := Option.some.inj ht1
   exact ⟨_, Gst.only [4] rfl, rfl⟩
 refine TL.on rfl rfl rfl rfl (beq_iff_eq.2 c2) ?_
 refine TL.op1 (OpR.pure rfl) rfl ?_
 refine TL.on rfl rfl rfl rfl (beq_iff_eq.2 c2) ?_
 refine TL.op1 (OpR.pure rfl) rfl ?_
 refine TL.on rfl rfl rfl rfl (beq_iff_eq.2 c2) ?_
 refine TL.op1 (OpR.pure rfl) rfl ?_
 refine TL.on rfl rfl rfl rfl (beq_iff_eq.2 c2) ?_
 refine TL.op1 (OpR.pure rfl) rfl ?_
 refine TL.on rfl rfl rfl rfl (beq_iff_eq.2 c2) ?_
 refine TL.op1 (OpR.eqBool rfl rfl rfl rfl) rfl ?_
 refine TL.op1 (OpR.pickT rfl (beq_iff_eq.2 c2) rfl) rfl ?_
 refine TL.op1 (OpR.pure rfl) rfl ?_
 rcases ite_some ht1 with ⟨c3, ht1⟩ | ⟨c3, ht1⟩
 rotate_left
 · refine TL.off rfl rfl rfl rfl (eq_false_of_ne_true c3) rfl rfl ?_
   refine TL.off rfl rfl rfl rfl (eq_false_of_ne_true c3) rfl rfl ?_
   refine TL.off rfl rfl rfl rfl (eq_false_of_ne_true c3) rfl rfl ?_
   refine TL.off rfl rfl rfl rfl (eq_false_of_ne_true c3) rfl rfl ?_
   refine TL.off rfl rfl rfl rfl (eq_false_of_ne_true c3) rfl rfl ?_
   refine TL.op1 (OpR.pickF rfl (eq_false_of_ne_true c3) rfl) rfl ?_
   refine TL.op1 (OpR.pure rfl) rfl ?_
   refine TL.nil ?_
   obtain rfl := Option.some.inj ht1
   exact ⟨_, Gst.only [4] rfl, rfl⟩
 refine TL.on rfl rfl rfl rfl (c3) ?_
 refine TL.op1 (OpR.pure rfl) rfl ?_
 refine TL.on rfl rfl rfl rfl (c3) ?_
 refine TL.op1 (OpR.pure rfl) rfl ?_
 refine TL.on rfl rfl rfl rfl (c3) ?_
 refine TL.op1 (OpR.pure rfl) rfl ?_
 refine TL.on rfl rfl rfl rfl (c3) ?_
 refine TL.op1 (OpR.pure rfl) rfl ?_
 refine TL.on rfl rfl rfl rfl (c3) ?_
 obtain ⟨x4, hx4, ht1⟩ := bnd_some ht1
 refine TL.op1 (OpR.call0 fn70 (ref07_Same_c hx4) rfl) rfl ?_
 refine TL.op1 (OpR.pickT rfl (c3) rfl) rfl ?_
 refine TL.op1 (OpR.pure rfl) rfl ?_
 refine TL.nil ?_
 obtain rfl := Option.some.inj ht1
 exact ⟨_, Gst.only [4] rfl, rfl⟩
noncomputable def quote_class (a0 : UInt8) : Option Int :=
  if (a0.toNat : Int) = 44 then
    some 1
  else
    if (a0.toNat : Int) = 34 then
      some 2
    else
      if (a0.toNat : Int) = 13 then
        some 3
      else
        if (a0.toNat : Int) = 10 then
          some 4
        else
          some 0
set_option maxHeartbeats 4000000 in
theorem quote_class_c {a0 : UInt8} {res : Int} (h0 : quote_class a0 = some res) : CallF X 170 [.val (.int .u8 (a0.toNat : Int))] [] (fun x => .val (.int .i64 res)) (fun x => []) := by
 unfold quote_class at h0
 refine CallF.mkG (X := X) Try.func170 rfl rfl Try.ntmps170 rfl rfl ?_
 refine T.seq ?_
 refine T.region ?_
 refine TL.op1 (OpR.pure rfl) rfl ?_
 refine TL.nil ?_
 show T X _ _ _
 refine T.seq ?_
 refine T.seq ?_
 refine T.region ?_
 refine TL.op1 (OpR.pure rfl) rfl ?_
 refine TL.nil ?_
 show T X _ _ _
 refine T.block ?_
 refine T.seq ?_
 refine T.region ?_
 refine TL.op1 (OpR.pure rfl) rfl ?_
 refine TL.op1 (OpR.pure rfl) rfl ?_
 refine TL.nil ?_
 show T X _ _ _
 rcases ite_some h0 with ⟨c1, h0⟩ | ⟨c1, h0⟩
 · refine T.condT rfl (beq_iff_eq.2 c1) ?_
   refine T.seq ?_
   refine T.region ?_
   refine TL.op1 (OpR.pure rfl) rfl ?_
   refine TL.nil ?_
   show T X _ _ _
   refine T.ret ?_
   obtain rfl := Option.some.inj h0
   exact PostG.retP (ks := []) (Gst.only [2] rfl) undef (ResL.cons (ResV.tmp rfl) ResL.nil) rfl rfl rfl rfl
 refine T.condF rfl (beq_eq_false_iff_ne.2 c1) ?_
 refine T.seq ?_
 refine T.region ?_
 refine TL.op1 (OpR.pure rfl) rfl ?_
 refine TL.op1 (OpR.pure rfl) rfl ?_
 refine TL.nil ?_
 show T X _ _ _
 rcases ite_some h0 with ⟨c2, h0⟩ | ⟨c2, h0⟩
 · refine T.condT rfl (beq_iff_eq.2 c2) ?_
   refine T.seq ?_
   refine T.region ?_
   refine TL.op1 (OpR.pure rfl) rfl ?_
   refine TL.nil ?_
   show T X _ _ _
   refine T.ret ?_
   obtain rfl := Option.some.inj h0
   exact PostG.retP (ks := []) (Gst.only [2] rfl) undef (ResL.cons (ResV.tmp rfl) ResL.nil) rfl rfl rfl rfl
 refine T.condF rfl (beq_eq_false_iff_ne.2 c2) ?_
 refine T.seq ?_
 refine T.region ?_
 refine TL.op1 (OpR.pure rfl) rfl ?_
 refine TL.op1 (OpR.pure rfl) rfl ?_
 refine TL.nil ?_
 show T X _ _ _
 rcases ite_some h0 with ⟨c3, h0⟩ | ⟨c3, h0⟩
 · refine T.condT rfl (beq_iff_eq.2 c3) ?_
   refine T.seq ?_
   refine T.region ?_
   refine TL.op1 (OpR.pure rfl) rfl ?_
   refine TL.nil ?_
   show T X _ _ _
   refine T.ret ?_
   obtain rfl := Option.some.inj h0
   exact PostG.retP (ks := []) (Gst.only [2] rfl) undef (ResL.cons (ResV.tmp rfl) ResL.nil) rfl rfl rfl rfl
 refine T.condF rfl (beq_eq_false_iff_ne.2 c3) ?_
 refine T.seq ?_
 refine T.region ?_
 refine TL.op1 (OpR.pure rfl) rfl ?_
 refine TL.op1 (OpR.pure rfl) rfl ?_
 refine TL.nil ?_
 show T X _ _ _
 rcases ite_some h0 with ⟨c4, h0⟩ | ⟨c4, h0⟩
 · refine T.condT rfl (beq_iff_eq.2 c4) ?_
   refine T.seq ?_
   refine T.region ?_
   refine TL.op1 (OpR.pure rfl) rfl ?_
   refine TL.nil ?_
   show T X _ _ _
   refine T.ret ?_
   obtain rfl := Option.some.inj h0
   exact PostG.retP (ks := []) (Gst.only [2] rfl) undef (ResL.cons (ResV.tmp rfl) ResL.nil) rfl rfl rfl rfl
 refine T.condF rfl (beq_eq_false_iff_ne.2 c4) ?_
 refine T.skip ?_
 show T X _ _ _
 refine T.seq ?_
 refine T.region ?_
 refine TL.op1 (OpR.pure rfl) rfl ?_
 refine TL.nil ?_
 show T X _ _ _
 refine T.ret ?_
 obtain rfl := Option.some.inj h0
 exact PostG.retP (ks := []) (Gst.only [2] rfl) undef (ResL.cons (ResV.tmp rfl) ResL.nil) rfl rfl rfl rfl
noncomputable def quote_Needs.l1 (a0 : List UInt8) (s3 : Int) : Option (Lp Int (Ex Unit Bool)) :=
  if s3 < (a0.length : Int) then
    bnd (idx a0 s3) fun x12 =>
    bnd (quote_class x12) fun x13 =>
    if x13 = 0 then
      some (Lp.next (w64 (s3 + 1)))
    else
      some (Lp.done (Ex.ret true))
  else
    some (Lp.done (Ex.brk ()))
noncomputable def quote_Needs (a0 : List UInt8) : Option Bool :=
  bnd (loop (quote_Needs.l1 a0) 0 : Option (Ex Unit Bool)) fun t1 => match t1 with
    | .brk u2 =>
      some false
    | .ret u2 => some u2
set_option maxHeartbeats 4000000 in
theorem quote_Needs_c {a0 : List UInt8} {res : Bool} (h0 : quote_Needs a0 = some res) : CallF X 169 [.sl 1 (List.map byteD a0)] [] (fun x => .val (.bool res)) (fun x => []) := by
 unfold quote_Needs at h0
 refine CallF.mkG (X := X) Try.func169 rfl rfl Try.ntmps169 rfl rfl ?_
 refine T.seq ?_
 refine T.region ?_
 refine TL.op1 (OpR.pure rfl) rfl ?_
 refine TL.nil ?_
 show T X _ _ _
 refine T.seq ?_
 refine T.seq ?_
 refine T.region ?_
 refine TL.op1 (OpR.pure rfl) rfl ?_
 refine TL.op1 (OpR.cast (OpR.pure rfl) (intE (lenM _ _))) rfl ?_
 refine TL.op1 (OpR.pure rfl) rfl ?_
 refine TL.nil ?_
 show T X _ _ _
 obtain ⟨t1, ht1, h0⟩ := bnd_some h0
 refine T.cutC (fun S' => ∃ u2, t1 = Ex.brk u2 ∧ S' = ⟨[(2, .val (.bool false))], [], 15⟩) (fun _ h => h) ?_ ?_
 rotate_left
 · rintro _ ⟨u2, rfl, rfl⟩
   show T X _ _ _
   refine T.seq ?_
   refine T.region ?_
   refine TL.op1 (OpR.pure rfl) rfl ?_
   refine TL.nil ?_
   show T X _ _ _
   refine T.ret ?_
   obtain rfl := Option.some.inj h0
   exact PostG.retP (ks := []) (Gst.only [2] rfl) undef (ResL.cons (ResV.tmp rfl) ResL.nil) rfl rfl rfl rfl
 refine T.block ?_
 obtain ⟨n4, n9⟩ := loop_some ht1
 refine T.loop (fun n S' => ∃ S'', Gst S' S'' ∧ ∃ s3 : Int, S'' = ⟨[(7, .val (.int .i64 s3)), (6, .val (.int .i64 (a0.length : Int))), (5, .sl 1 (List.map byteD a0)), (2, .val (.bool false))], [], 15⟩ ∧ iter (quote_Needs.l1 a0) n s3 = some t1) n4 ?_ ?_
 · exact ⟨_, Gst.only [2, 5, 6, 7] rfl, 0, rfl, n9⟩
 rintro n4 _ ⟨_, g, s3, rfl, i8⟩
 refine T.ghost g ?_
 obtain ⟨m5, q6, rfl, q7, i8⟩ := iter_succ i8
 unfold quote_Needs.l1 at q7
 refine T.seq ?_
 refine T.region ?_
 refine TL.op1 (OpR.pure rfl) rfl ?_
 refine TL.nil ?_
 show T X _ _ _
 refine T.seq ?_
 rcases ite_some q7 with ⟨c11, q7⟩ | ⟨c11, q7⟩
 rotate_left
 · refine T.condF rfl (decide_eq_false c11) ?_
   refine T.exit ?_
   obtain rfl := Option.some.inj q7
   obtain rfl : _ = _ := i8
   exact ⟨_, Gst.only [2] rfl, _, rfl, rfl⟩
 refine T.condT rfl (decide_eq_true c11) ?_
 refine T.skip ?_
 show T X _ _ _
 refine T.seq ?_
 refine T.block ?_
 refine T.seq ?_
 refine T.region ?_
 obtain ⟨x12, hx12, q7⟩ := bnd_some q7
 refine TL.op1 (OpR.indexM byteD hx12 rfl rfl rfl rfl rfl) rfl ?_
 refine TL.op1 (OpR.pure rfl) rfl ?_
 refine TL.op1 (OpR.pure rfl) rfl ?_
 refine TL.nil ?_
 show T X _ _ _
 refine T.seq ?_
 refine T.region ?_
 refine TL.op1 (OpR.pure rfl) rfl ?_
 obtain ⟨x13, hx13, q7⟩ := bnd_some q7
 refine TL.op1 (OpR.call0 fn170 (quote_class_c hx13) rfl) rfl ?_
 refine TL.op1 (OpR.pure rfl) rfl ?_
 refine TL.nil ?_
 show T X _ _ _
 rcases ite_some q7 with ⟨c14, q7⟩ | ⟨c14, q7⟩
 · refine T.condF rfl (not_t (beq_iff_eq.2 c14)) ?_
   refine T.skip ?_
   show T X _ _ _
   refine T.region ?_
   refine TL.op1 (OpR.pure rfl) rfl ?_
   refine TL.op1 (OpR.pure rfl) rfl ?_
   refine TL.nil ?_
   obtain rfl := Option.some.inj q7
   exact ⟨m5, Nat.lt_succ_self _, _, Gst.only [2, 5, 6, 7] rfl, w64 (s3 + 1), rfl, i8⟩
 refine T.condT rfl (not_f (beq_eq_false_iff_ne.2 c14)) ?_
 refine T.seq ?_
 refine T.region ?_
 refine TL.op1 (OpR.pure rfl) rfl ?_
 refine TL.nil ?_
 show T X _ _ _
 refine T.ret ?_
 obtain rfl := Option.some.inj q7
 obtain rfl : _ = _ := i8
 obtain rfl := Option.some.inj h0
 exact PostG.retP (ks := []) (Gst.only [2] rfl) undef (ResL.cons (ResV.tmp rfl) ResL.nil) rfl rfl rfl rfl
noncomputable def quote_quotes.l1 (a0 : List UInt8) (s2 : Int × Int) : Option (Lp (Int × Int) Int) :=
  if s2.2 < (a0.length : Int) then
    bnd (idx a0 s2.2) fun x11 =>
    bnd (quote_class x11) fun x12 =>
    bnd (if x12 = 2 then
      some (w64 (s2.1 + 1))
    else
      some s2.1 : Option Int) fun t13 =>
    some (Lp.next (t13, w64 (s2.2 + 1)))
  else
    some (Lp.done s2.1)
noncomputable def quote_quotes (a0 : List UInt8) : Option Int :=
  bnd (loop (quote_quotes.l1 a0) (0, 0) : Option Int) fun t1 =>
  some t1
set_option maxHeartbeats 4000000 in
theorem quote_quotes_c {a0 : List UInt8} {res : Int} (h0 : quote_quotes a0 = some res) : CallF X 204 [.sl 1 (List.map byteD a0)] [] (fun x => .val (.int .i64 res)) (fun x => []) := by
 unfold quote_quotes at h0
 refine CallF.mkG (X := X) Try.func204 rfl rfl Try.ntmps204 rfl rfl ?_
 refine T.seq ?_
 refine T.region ?_
 refine TL.op1 (OpR.pure rfl) rfl ?_
 refine TL.nil ?_
 show T X _ _ _
 refine T.seq ?_
 refine T.region ?_
 refine TL.op1 (OpR.pure rfl) rfl ?_
 refine TL.nil ?_
 show T X _ _ _
 refine T.seq ?_
 refine T.seq ?_
 refine T.region ?_
 refine TL.op1 (OpR.pure rfl) rfl ?_
 refine TL.op1 (OpR.cast (OpR.pure rfl) (intE (lenM _ _))) rfl ?_
 refine TL.op1 (OpR.pure rfl) rfl ?_
 refine TL.nil ?_
 show T X _ _ _
 obtain ⟨t1, ht1, h0⟩ := bnd_some h0
 refine T.cutC (fun S' => S' = ⟨[(3, .val (.int .i64 t1)), (2, .val (.int .i64 0))], [], 19⟩) (fun _ h => h) ?_ ?_
 rotate_left
 · rintro _ rfl
   show T X _ _ _
   refine T.seq ?_
   refine T.region ?_
   refine TL.op1 (OpR.pure rfl) rfl ?_
   refine TL.op1 (OpR.pure rfl) rfl ?_
   refine TL.nil ?_
   show T X _ _ _
   refine T.ret ?_
   obtain rfl := Option.some.inj h0
   exact PostG.retP (ks := []) (Gst.only [2] rfl) undef (ResL.cons (ResV.tmp rfl) ResL.nil) rfl rfl rfl rfl
 refine T.block ?_
 obtain ⟨n3, n8⟩ := loop_some ht1
 refine T.loop (fun n S' => ∃ S'', Gst S' S'' ∧ ∃ s2 : Int × Int, S'' = ⟨[(8, .val (.int .i64 s2.2)), (7, .val (.int .i64 (a0.length : Int))), (6, .sl 1 (List.map byteD a0)), (3, .val (.int .i64 s2.1)), (2, .val (.int .i64 0))], [], 19⟩ ∧ iter (quote_quotes.l1 a0) n s2 = some t1) n3 ?_ ?_
 · exact ⟨_, Gst.only [2, 3, 6, 7, 8] rfl, (0, 0), rfl, n8⟩
 rintro n3 _ ⟨_, g, s2, rfl, i7⟩
 refine T.ghost g ?_
 obtain ⟨m4, q5, rfl, q6, i7⟩ := iter_succ i7
 unfold quote_quotes.l1 at q6
 refine T.seq ?_
 refine T.region ?_
 refine TL.op1 (OpR.pure rfl) rfl ?_
 refine TL.nil ?_
 show T X _ _ _
 refine T.seq ?_
 rcases ite_some q6 with ⟨c10, q6⟩ | ⟨c10, q6⟩
 rotate_left
 · refine T.condF rfl (decide_eq_false c10) ?_
   refine T.exit ?_
   obtain rfl := Option.some.inj q6
   obtain rfl : _ = _ := i7
   exact ⟨_, Gst.only [2, 3] rfl, rfl⟩
 refine T.condT rfl (decide_eq_true c10) ?_
 refine T.skip ?_
 show T X _ _ _
 refine T.seq ?_
 refine T.block ?_
 refine T.seq ?_
 refine T.region ?_
 obtain ⟨x11, hx11, q6⟩ := bnd_some q6
 refine TL.op1 (OpR.indexM byteD hx11 rfl rfl rfl rfl rfl) rfl ?_
 refine TL.op1 (OpR.pure rfl) rfl ?_
 refine TL.op1 (OpR.pure rfl) rfl ?_
 refine TL.nil ?_
 show T X _ _ _
 refine T.seq ?_
 refine T.region ?_
 refine TL.op1 (OpR.pure rfl) rfl ?_
 obtain ⟨x12, hx12, q6⟩ := bnd_some q6
 refine TL.op1 (OpR.call0 fn170 (quote_class_c hx12) rfl) rfl ?_
 refine TL.op1 (OpR.pure rfl) rfl ?_
 refine TL.nil ?_
 show T X _ _ _
 obtain ⟨t13, ht13, q6⟩ := bnd_some q6
 refine T.cutC (fun S' => S' = ⟨[(8, .val (.int .i64 s2.2)), (7, .val (.int .i64 (a0.length : Int))), (6, .sl 1 (List.map byteD a0)), (3, .val (.int .i64 t13)), (2, .val (.int .i64 0))], [], 19⟩) (fun _ h => h) ?_ ?_
 rotate_left
 · rintro _ rfl
   show T X _ _ _
   refine T.region ?_
   refine TL.op1 (OpR.pure rfl) rfl ?_
   refine TL.op1 (OpR.pure rfl) rfl ?_
   refine TL.nil ?_
   obtain rfl := Option.some.inj q6
   exact ⟨m4, Nat.lt_succ_self _, _, Gst.only [2, 3, 6, 7, 8] rfl, (t13, w64 (s2.2 + 1)), rfl, i7⟩
 rcases ite_some ht13 with ⟨c14, ht13⟩ | ⟨c14, ht13⟩
 rotate_left
 · refine T.condF rfl (beq_eq_false_iff_ne.2 c14) ?_
   refine T.skip ?_
   obtain rfl := Option.some.inj ht13
   exact ⟨_, Gst.only [2, 3, 6, 7, 8] rfl, rfl⟩
 refine T.condT rfl (beq_iff_eq.2 c14) ?_
 refine T.region ?_
 refine TL.op1 (OpR.pure rfl) rfl ?_
 refine TL.op1 (OpR.pure rfl) rfl ?_
 refine TL.op1 (OpR.pure rfl) rfl ?_
 refine TL.nil ?_
 obtain rfl := Option.some.inj ht13
 exact ⟨_, Gst.only [2, 3, 6, 7, 8] rfl, rfl⟩
noncomputable def quote_Width (a0 : List UInt8) : Option Int :=
  bnd (quote_Needs a0) fun x1 =>
  if x1 = true then
    bnd (quote_quotes a0) fun x3 =>
    some (w64 ((w64 ((a0.length : Int) + x3)) + 2))
  else
    some (a0.length : Int)
set_option maxHeartbeats 4000000 in
theorem quote_Width_c {a0 : List UInt8} {res : Int} (h0 : quote_Width a0 = some res) : CallF X 168 [.sl 1 (List.map byteD a0)] [] (fun x => .val (.int .i64 res)) (fun x => []) := by
 unfold quote_Width at h0
 refine CallF.mkG (X := X) Try.func168 rfl rfl Try.ntmps168 rfl rfl ?_
 refine T.seq ?_
 refine T.region ?_
 refine TL.op1 (OpR.pure rfl) rfl ?_
 refine TL.nil ?_
 show T X _ _ _
 refine T.seq ?_
 refine T.seq ?_
 refine T.region ?_
 refine TL.op1 (OpR.pure rfl) rfl ?_
 obtain ⟨x1, hx1, h0⟩ := bnd_some h0
 refine TL.op1 (OpR.call0 fn169 (quote_Needs_c hx1) rfl) rfl ?_
 refine TL.op1 (OpR.pure rfl) rfl ?_
 refine TL.nil ?_
 show T X _ _ _
 rcases ite_some h0 with ⟨c2, h0⟩ | ⟨c2, h0⟩
 rotate_left
 · refine T.condT rfl (not_f (eq_false_of_ne_true c2)) ?_
   refine T.seq ?_
   refine T.region ?_
   refine TL.op1 (OpR.pure rfl) rfl ?_
   refine TL.op1 (OpR.cast (OpR.pure rfl) (intE (lenM _ _))) rfl ?_
   refine TL.op1 (OpR.pure rfl) rfl ?_
   refine TL.nil ?_
   show T X _ _ _
   refine T.ret ?_
   obtain rfl := Option.some.inj h0
   exact PostG.retP (ks := []) (Gst.only [2] rfl) undef (ResL.cons (ResV.tmp rfl) ResL.nil) rfl rfl rfl rfl
 refine T.condF rfl (not_t (c2)) ?_
 refine T.skip ?_
 show T X _ _ _
 refine T.seq ?_
 refine T.region ?_
 refine TL.op1 (OpR.pure rfl) rfl ?_
 refine TL.op1 (OpR.cast (OpR.pure rfl) (intE (lenM _ _))) rfl ?_
 refine TL.op1 (OpR.pure rfl) rfl ?_
 obtain ⟨x3, hx3, h0⟩ := bnd_some h0
 refine TL.op1 (OpR.call0 fn204 (quote_quotes_c hx3) rfl) rfl ?_
 refine TL.op1 (OpR.pure rfl) rfl ?_
 refine TL.op1 (OpR.pure rfl) rfl ?_
 refine TL.op1 (OpR.pure rfl) rfl ?_
 refine TL.nil ?_
 show T X _ _ _
 refine T.ret ?_
 obtain rfl := Option.some.inj h0
 exact PostG.retP (ks := []) (Gst.only [2] rfl) undef (ResL.cons (ResV.tmp rfl) ResL.nil) rfl rfl rfl rfl
noncomputable def quote_Put.l1 (a0 : List UInt8) (s11 : Int × (List UInt8)) : Option (Lp (Int × (List UInt8)) (List UInt8)) :=
  if s11.1 < (a0.length : Int) then
    bnd (idx a0 s11.1) fun x20 =>
    bnd (quote_class x20) fun x21 =>
    bnd (if x21 = 2 then
      bnd (app 1 s11.2 [x20]) fun x25 =>
      some x25
    else
      some s11.2 : Option (List UInt8)) fun t22 =>
    bnd (app 1 t22 [x20]) fun x27 =>
    some (Lp.next (w64 (s11.1 + 1), x27))
  else
    some (Lp.done s11.2)
noncomputable def quote_Put (a0 : List UInt8) : Option (List UInt8) :=
  bnd (quote_Width a0) fun x1 =>
  bnd ((mkc 1 x1 : Option (List UInt8))) fun x2 =>
  bnd (quote_Needs a0) fun x4 =>
  if x4 = true then
    bnd (app 1 x2 [34]) fun x6 =>
    bnd (loop (quote_Put.l1 a0) (0, x6) : Option (List UInt8)) fun t8 =>
    bnd (app 1 t8 [34]) fun x29 =>
    some x29
  else
    bnd (app 1 x2 a0) fun x31 =>
    some x31
set_option maxHeartbeats 4000000 in
theorem quote_Put_c {a0 : List UInt8} {res : (List UInt8)} (h0 : quote_Put a0 = some res) : CallF X 125 [.sl 1 (List.map byteD a0)] [] (fun x => .sl 1 (List.map byteD res)) (fun x => []) := by
 unfold quote_Put at h0
 refine CallF.mkG (X := X) Try.func125 rfl rfl Try.ntmps125 rfl rfl ?_
 refine T.seq ?_
 refine T.region ?_
 refine TL.op1 (OpR.pure rfl) rfl ?_
 refine TL.nil ?_
 show T X _ _ _
 refine T.seq ?_
 refine T.region ?_
 refine TL.op1 (OpR.pure rfl) rfl ?_
 obtain ⟨x1, hx1, h0⟩ := bnd_some h0
 refine TL.op1 (OpR.call0 fn168 (quote_Width_c hx1) rfl) rfl ?_
 obtain ⟨x2, hx2, h0⟩ := bnd_some h0
 refine TL.op (OpR.makeC byteD hx2 rfl rfl rfl rfl rfl rfl rfl (fun _ => rfl)) rfl (fun v3 => ?_)
 refine TL.op1 (OpR.pure rfl) rfl ?_
 refine TL.nil ?_
 show T X _ _ _
 refine T.seq ?_
 refine T.seq ?_
 refine T.region ?_
 refine TL.op1 (OpR.pure rfl) rfl ?_
 obtain ⟨x4, hx4, h0⟩ := bnd_some h0
 refine TL.op1 (OpR.call0 fn169 (quote_Needs_c hx4) rfl) rfl ?_
 refine TL.op1 (OpR.pure rfl) rfl ?_
 refine TL.nil ?_
 show T X _ _ _
 rcases ite_some h0 with ⟨c5, h0⟩ | ⟨c5, h0⟩
 rotate_left
 · refine T.condT rfl (not_f (eq_false_of_ne_true c5)) ?_
   refine T.seq ?_
   refine T.region ?_
   refine TL.op1 (OpR.pure rfl) rfl ?_
   refine TL.op1 (OpR.pure rfl) rfl ?_
   obtain ⟨x31, hx31, h0⟩ := bnd_some h0
   refine TL.op (OpR.appendM (m := a0) byteD 0 hx31 rfl rfl rfl rfl rfl rfl rfl rfl rfl (fun _ => rfl)) rfl (fun v32 => ?_)
   refine TL.op1 (OpR.pure rfl) rfl ?_
   refine TL.nil ?_
   show T X _ _ _
   refine T.ret ?_
   obtain rfl := Option.some.inj h0
   exact PostG.retP (ks := []) (Gst.trans (Gst.only [2] rfl) (Gst.trans (Gst.freezeRow 0 rfl rfl (ReS.cons (Re.base .all) ReS.nil) (ReO.same ReO.nil)) (Gst.pick [] rfl rfl))) undef (ResL.cons (ResV.tmp rfl) ResL.nil) rfl rfl rfl rfl
 refine T.condF rfl (not_t (c5)) ?_
 refine T.skip ?_
 show T X _ _ _
 refine T.seq ?_
 refine T.region ?_
 refine TL.op1 (OpR.pure rfl) rfl ?_
 refine TL.op1 (OpR.lit rfl rfl rfl rfl rfl rfl rfl) rfl ?_
 obtain ⟨x6, hx6, h0⟩ := bnd_some h0
 refine TL.op (OpR.appendM (m := [34]) byteD 0 hx6 rfl rfl rfl rfl rfl rfl rfl rfl rfl (fun _ => rfl)) rfl (fun v7 => ?_)
 refine TL.op1 (OpR.pure rfl) rfl ?_
 refine TL.nil ?_
 show T X _ _ _
 refine T.seq ?_
 refine T.seq ?_
 refine T.region ?_
 refine TL.op1 (OpR.pure rfl) rfl ?_
 refine TL.op1 (OpR.cast (OpR.pure rfl) (intE (lenM _ _))) rfl ?_
 refine TL.op1 (OpR.pure rfl) rfl ?_
 refine TL.nil ?_
 show T X _ _ _
 obtain ⟨t8, ht8, h0⟩ := bnd_some h0
 refine T.cutC (fun S' => ∃ y9 : Value, S' = ⟨[(3, .val y9), (2, .val (.slice none 0 0))], [.row y9 (List.map byteD t8) 1 5], 39⟩) (fun _ h => h) ?_ ?_
 rotate_left
 · rintro _ ⟨y9, rfl⟩
   show T X _ _ _
   refine T.seq ?_
   refine T.region ?_
   refine TL.op1 (OpR.pure rfl) rfl ?_
   refine TL.op1 (OpR.lit rfl rfl rfl rfl rfl rfl rfl) rfl ?_
   obtain ⟨x29, hx29, h0⟩ := bnd_some h0
   refine TL.op (OpR.appendM (m := [34]) byteD 0 hx29 rfl rfl rfl rfl rfl rfl rfl rfl rfl (fun _ => rfl)) rfl (fun v30 => ?_)
   refine TL.op1 (OpR.pure rfl) rfl ?_
   refine TL.nil ?_
   show T X _ _ _
   refine T.ret ?_
   obtain rfl := Option.some.inj h0
   exact PostG.retP (ks := []) (Gst.trans (Gst.only [2] rfl) (Gst.trans (Gst.freezeRow 0 rfl rfl (ReS.cons (Re.base .all) ReS.nil) (ReO.same ReO.nil)) (Gst.pick [] rfl rfl))) undef (ResL.cons (ResV.tmp rfl) ResL.nil) rfl rfl rfl rfl
 refine T.block ?_
 obtain ⟨n12, n17⟩ := loop_some ht8
 refine T.loop (fun n S' => ∃ S'', Gst S' S'' ∧ ∃ y10 : Value, ∃ s11 : Int × (List UInt8), S'' = ⟨[(20, .val (.int .i64 s11.1)), (19, .val (.int .i64 (a0.length : Int))), (18, .sl 1 (List.map byteD a0)), (3, .val y10), (2, .val (.slice none 0 0))], [.row y10 (List.map byteD s11.2) 1 5], 39⟩ ∧ iter (quote_Put.l1 a0) n s11 = some t8) n12 ?_ ?_
 · exact ⟨_, Gst.only [2, 3, 18, 19, 20] rfl, v7, (0, x6), rfl, n17⟩
 rintro n12 _ ⟨_, g, y10, s11, rfl, i16⟩
 refine T.ghost g ?_
 obtain ⟨m13, q14, rfl, q15, i16⟩ := iter_succ i16
 unfold quote_Put.l1 at q15
 refine T.seq ?_
 refine T.region ?_
 refine TL.op1 (OpR.pure rfl) rfl ?_
 refine TL.nil ?_
 show T X _ _ _
 refine T.seq ?_
 rcases ite_some q15 with ⟨c19, q15⟩ | ⟨c19, q15⟩
 rotate_left
 · refine T.condF rfl (decide_eq_false c19) ?_
   refine T.exit ?_
   obtain rfl := Option.some.inj q15
   obtain rfl : _ = _ := i16
   exact ⟨_, Gst.only [2, 3] rfl, y10, rfl⟩
 refine T.condT rfl (decide_eq_true c19) ?_
 refine T.skip ?_
 show T X _ _ _
 refine T.seq ?_
 refine T.block ?_
 refine T.seq ?_
 refine T.region ?_
 obtain ⟨x20, hx20, q15⟩ := bnd_some q15
 refine TL.op1 (OpR.indexM byteD hx20 rfl rfl rfl rfl rfl) rfl ?_
 refine TL.op1 (OpR.pure rfl) rfl ?_
 refine TL.op1 (OpR.pure rfl) rfl ?_
 refine TL.nil ?_
 show T X _ _ _
 refine T.seq ?_
 refine T.seq ?_
 refine T.region ?_
 refine TL.op1 (OpR.pure rfl) rfl ?_
 obtain ⟨x21, hx21, q15⟩ := bnd_some q15
 refine TL.op1 (OpR.call0 fn170 (quote_class_c hx21) rfl) rfl ?_
 refine TL.op1 (OpR.pure rfl) rfl ?_
 refine TL.nil ?_
 show T X _ _ _
 obtain ⟨t22, ht22, q15⟩ := bnd_some q15
 refine T.cutC (fun S' => ∃ y23 : Value, S' = ⟨[(20, .val (.int .i64 s11.1)), (19, .val (.int .i64 (a0.length : Int))), (18, .sl 1 (List.map byteD a0)), (5, .val (.int .u8 (x20.toNat : Int))), (3, .val y23), (2, .val (.slice none 0 0))], [.row y23 (List.map byteD t22) 1 5], 39⟩) (fun _ h => h) ?_ ?_
 rotate_left
 · rintro _ ⟨y23, rfl⟩
   show T X _ _ _
   refine T.region ?_
   refine TL.op1 (OpR.pure rfl) rfl ?_
   refine TL.op1 (OpR.pure rfl) rfl ?_
   refine TL.op1 (OpR.lit rfl rfl rfl rfl rfl rfl rfl) rfl ?_
   obtain ⟨x27, hx27, q15⟩ := bnd_some q15
   refine TL.op (OpR.appendM (m := [x20]) byteD 0 hx27 rfl rfl rfl rfl rfl rfl rfl rfl rfl (fun _ => rfl)) rfl (fun v28 => ?_)
   refine TL.op1 (OpR.pure rfl) rfl ?_
   refine TL.nil ?_
   show T X _ _ _
   refine T.region ?_
   refine TL.op1 (OpR.pure rfl) rfl ?_
   refine TL.op1 (OpR.pure rfl) rfl ?_
   refine TL.nil ?_
   obtain rfl := Option.some.inj q15
   exact ⟨m13, Nat.lt_succ_self _, _, Gst.only [2, 3, 18, 19, 20] rfl, v28, (w64 (s11.1 + 1), x27), rfl, i16⟩
 rcases ite_some ht22 with ⟨c24, ht22⟩ | ⟨c24, ht22⟩
 rotate_left
 · refine T.condF rfl (beq_eq_false_iff_ne.2 c24) ?_
   refine T.skip ?_
   obtain rfl := Option.some.inj ht22
   exact ⟨_, Gst.only [2, 3, 5, 18, 19, 20] rfl, y10, rfl⟩
 refine T.condT rfl (beq_iff_eq.2 c24) ?_
 refine T.region ?_
 refine TL.op1 (OpR.pure rfl) rfl ?_
 refine TL.op1 (OpR.pure rfl) rfl ?_
 refine TL.op1 (OpR.lit rfl rfl rfl rfl rfl rfl rfl) rfl ?_
 obtain ⟨x25, hx25, ht22⟩ := bnd_some ht22
 refine TL.op (OpR.appendM (m := [x20]) byteD 0 hx25 rfl rfl rfl rfl rfl rfl rfl rfl rfl (fun _ => rfl)) rfl (fun v26 => ?_)
 refine TL.op1 (OpR.pure rfl) rfl ?_
 refine TL.nil ?_
 obtain rfl := Option.some.inj ht22
 exact ⟨_, Gst.only [2, 3, 5, 18, 19, 20] rfl, v26, rfl⟩
noncomputable def arena_New_2 : Option (Int × (List UInt8)) :=
  bnd ((mkc 1 0 : Option (List UInt8))) fun x1 =>
  some (0, x1)
set_option maxHeartbeats 4000000 in
theorem arena_New_2_c {res : Int × (List UInt8)} (h0 : arena_New_2 = some res) : CallF X 25 [.val (.slice none 0 0)] [] (fun x => .tup [.val (.pointer (some ⟨(blk (vn x 0)), 0, none⟩)), .val (.int .i64 res.1)]) (fun x => [.var (blk (vn x 0)) [.val (vn x 1)] 142, .row (vn x 1) (List.map byteD res.2) 1 5]) := by
 unfold arena_New_2 at h0
 refine CallF.mkG (X := X) Try.func25 rfl rfl Try.ntmps25 rfl rfl ?_
 refine T.seq ?_
 refine T.region ?_
 refine TL.op1 (OpR.pure rfl) rfl ?_
 refine TL.op1 (OpR.pure rfl) rfl ?_
 refine TL.nil ?_
 show T X _ _ _
 refine T.seq ?_
 refine T.seq ?_
 refine T.region ?_
 refine TL.op1 (OpR.pure rfl) rfl ?_
 refine TL.op1 (OpR.pure rfl) rfl ?_
 refine TL.op1 (OpR.cast (OpR.pure rfl) (boolE (show (decide ((0 : Int) > 4096)) = false by decide))) rfl ?_
 refine TL.nil ?_
 show T X _ _ _
 refine T.condF rfl rfl ?_
 refine T.skip ?_
 show T X _ _ _
 refine T.seq ?_
 refine T.region ?_
 refine TL.op1 (OpR.pure rfl) rfl ?_
 refine TL.op1 (OpR.pure rfl) rfl ?_
 obtain ⟨x1, hx1, h0⟩ := bnd_some h0
 refine TL.op (OpR.makeC byteD hx1 rfl rfl rfl rfl rfl rfl rfl (fun _ => rfl)) rfl (fun v2 => ?_)
 refine TL.op1 (OpR.build rfl rfl rfl rfl rfl) rfl ?_
 refine TL.op (OpR.boxVar rfl rfl (fun _ => rfl)) rfl (fun p3 => ?_)
 refine TL.op1 (OpR.pure rfl) rfl ?_
 refine TL.nil ?_
 show T X _ _ _
 refine T.seq ?_
 refine T.region ?_
 refine TL.op1 (OpR.pure rfl) rfl ?_
 refine TL.op1 (OpR.pure rfl) rfl ?_
 refine TL.op1 (OpR.pure rfl) rfl ?_
 refine TL.op1 (OpR.loadPtr 1 rfl rfl rfl rfl) rfl ?_
 refine TL.op1 (OpR.pure rfl) rfl ?_
 refine TL.op1 (OpR.copyNil 0 rfl rfl rfl rfl rfl rfl) rfl ?_
 refine TL.nil ?_
 show T X _ _ _
 refine T.seq ?_
 refine T.region ?_
 refine TL.op1 (OpR.pure rfl) rfl ?_
 refine TL.op1 (OpR.pure rfl) rfl ?_
 refine TL.op1 (OpR.pure rfl) rfl ?_
 refine TL.nil ?_
 show T X _ _ _
 refine T.ret ?_
 obtain rfl := Option.some.inj h0
 exact PostG.retP (ks := [0, 1]) (Gst.trans (Gst.only [2, 3] rfl) (Gst.pick [1, 0] rfl rfl)) (.tuple #[p3, v2]) (ResL.cons (ResV.tmp rfl) (ResL.cons (ResV.tmp rfl) ResL.nil)) rfl rfl rfl rfl
noncomputable def cell_Of (a0 : piece_Text) : Option cell_Cell :=
  some (⟨a0, (⟨0, 0⟩ : arena_Span), false⟩ : cell_Cell)
set_option maxHeartbeats 4000000 in
theorem cell_Of_c {a0 : piece_Text} {res : cell_Cell} (h0 : cell_Of a0 = some res) : CallF X 126 [.agg [.sl 2 (List.map e_arena_Span a0.fL), .val (.int .i64 a0.fN)]] [] (fun x => .agg [.sl 2 (List.map e_arena_Span res.fText.fL), .val (.int .i64 res.fText.fN), .val (.int .i64 res.fRaw.fAt), .val (.int .i64 res.fRaw.fN), .val (.bool res.fKept)]) (fun x => []) := by
 unfold cell_Of at h0
 refine CallF.mkG (X := X) Try.func126 rfl rfl Try.ntmps126 rfl rfl ?_
 refine T.seq ?_
 refine T.region ?_
 refine TL.op1 (OpR.boxImm rfl rfl) rfl ?_
 refine TL.op (OpR.alloc rfl rfl (fun _ => rfl)) rfl (fun p1 => ?_)
 refine TL.nil ?_
 show T X _ _ _
 refine T.seq ?_
 refine T.region ?_
 refine TL.op1 (OpR.pure rfl) rfl ?_
 refine TL.op1 (OpR.build rfl rfl rfl rfl rfl) rfl ?_
 refine TL.op0 (OpR.store 0 rfl rfl rfl rfl rfl rfl rfl rfl) ?_
 refine TL.nil ?_
 show T X _ _ _
 refine T.ret ?_
 obtain rfl := Option.some.inj h0
 exact PostG.retP (ks := []) (Gst.only [2] rfl) undef (ResL.cons (ResV.var 0 rfl rfl rfl rfl) ResL.nil) rfl rfl rfl rfl
noncomputable def cell_Put (a0 : List UInt8) (a1 : List UInt8) : Option (cell_Cell × Int × (List UInt8)) :=
  if (a0.length : Int) > 400 then
    some ((⟨(⟨[], 0⟩ : piece_Text), (⟨0, 0⟩ : arena_Span), false⟩ : cell_Cell), 7, a1)
  else
    bnd (arena_Arena_Keep a0 a1) fun x3 =>
    if x3.2.1 = 0 then
      bnd (piece_Of [x3.1]) fun x7 =>
      bnd (cell_Of x7) fun x8 =>
      some (x8, 0, x3.2.2)
    else
      some ((⟨(⟨[], 0⟩ : piece_Text), (⟨0, 0⟩ : arena_Span), false⟩ : cell_Cell), x3.2.1, x3.2.2)
set_option maxHeartbeats 4000000 in
theorem cell_Put_c {a0 : List UInt8} {a1 : List UInt8} {b0 : Nat} {v1 : Value} {res : cell_Cell × Int × (List UInt8)} (h0 : cell_Put a0 a1 = some res) : CallF X 73 [.val (.pointer (some ⟨b0, 0, none⟩)), .sl 1 (List.map byteD a0)] [.var b0 [.val v1] 142, .row v1 (List.map byteD a1) 1 5] (fun x => .tup [.agg [.sl 2 (List.map e_arena_Span res.1.fText.fL), .val (.int .i64 res.1.fText.fN), .val (.int .i64 res.1.fRaw.fAt), .val (.int .i64 res.1.fRaw.fN), .val (.bool res.1.fKept)], .val (.int .i64 res.2.1)]) (fun x => [.var b0 [.val (vn x 0)] 142, .row (vn x 0) (List.map byteD res.2.2) 1 5]) := by
 unfold cell_Put at h0
 refine CallF.mkG (X := X) Try.func73 rfl rfl Try.ntmps73 rfl rfl ?_
 refine T.seq ?_
 refine T.region ?_
 refine TL.op (OpR.alloc rfl rfl (fun _ => rfl)) rfl (fun p1 => ?_)
 refine TL.op1 (OpR.pure rfl) rfl ?_
 refine TL.nil ?_
 show T X _ _ _
 refine T.seq ?_
 refine T.seq ?_
 refine T.region ?_
 refine TL.op1 (OpR.pure rfl) rfl ?_
 refine TL.op1 (OpR.cast (OpR.pure rfl) (intE (lenM _ _))) rfl ?_
 refine TL.op1 (OpR.pure rfl) rfl ?_
 refine TL.nil ?_
 show T X _ _ _
 rcases ite_some h0 with ⟨c2, h0⟩ | ⟨c2, h0⟩
 · refine T.condT rfl (decide_eq_true c2) ?_
   refine T.seq ?_
   refine T.region ?_
   refine TL.op1 (OpR.build rfl rfl rfl rfl rfl) rfl ?_
   refine TL.op0 (OpR.store 2 rfl rfl rfl rfl rfl rfl rfl rfl) ?_
   refine TL.op1 (OpR.pure rfl) rfl ?_
   refine TL.nil ?_
   show T X _ _ _
   refine T.ret ?_
   obtain rfl := Option.some.inj h0
   exact PostG.retP (ks := [0, 1]) (Gst.trans (Gst.only [4, 5] rfl) (Gst.denil (ReS.cons Re.refl (ReS.cons Re.refl ReS.nil)) (ReO.var (ReL.cons Re.refl ReL.nil) (ReO.same (ReO.var (ReL.cons (Re.base .nil) (ReL.cons Re.refl (ReL.cons Re.refl (ReL.cons Re.refl (ReL.cons Re.refl ReL.nil))))) ReO.nil))))) (.tuple #[v1]) (ResL.cons (ResV.var 2 rfl rfl rfl rfl) (ResL.cons (ResV.tmp rfl) ResL.nil)) rfl rfl rfl rfl
 refine T.condF rfl (decide_eq_false c2) ?_
 refine T.skip ?_
 show T X _ _ _
 refine T.seq ?_
 refine T.region ?_
 refine TL.op1 (OpR.pure rfl) rfl ?_
 refine TL.op1 (OpR.pure rfl) rfl ?_
 obtain ⟨x3, hx3, h0⟩ := bnd_some h0
 refine TL.op (OpR.call [0, 1] fn83 (arena_Arena_Keep_c hx3) rfl rfl rfl (fun _ => rfl)) rfl (fun w4 => ?_)
 refine TL.op1 (OpR.pure rfl) rfl ?_
 refine TL.op1 (OpR.pure rfl) rfl ?_
 refine TL.op1 (OpR.pure rfl) rfl ?_
 refine TL.op (OpR.alloc rfl rfl (fun _ => rfl)) rfl (fun p5 => ?_)
 refine TL.op0 (OpR.store 3 rfl rfl rfl rfl rfl rfl rfl rfl) ?_
 refine TL.op1 (OpR.pure rfl) rfl ?_
 refine TL.nil ?_
 show T X _ _ _
 refine T.seq ?_
 refine T.seq ?_
 refine T.region ?_
 refine TL.op1 (OpR.pure rfl) rfl ?_
 refine TL.op1 (OpR.pure rfl) rfl ?_
 refine TL.nil ?_
 show T X _ _ _
 rcases ite_some h0 with ⟨c6, h0⟩ | ⟨c6, h0⟩
 · refine T.condF rfl (not_t (beq_iff_eq.2 c6)) ?_
   refine T.skip ?_
   show T X _ _ _
   refine T.seq ?_
   refine T.region ?_
   refine TL.op1 (OpR.loadPtr 3 rfl rfl rfl rfl) rfl ?_
   refine TL.op1 (OpR.lit rfl rfl rfl rfl rfl rfl rfl) rfl ?_
   obtain ⟨x7, hx7, h0⟩ := bnd_some h0
   refine TL.op1 (OpR.call0 fn42 (piece_Of_c hx7) rfl) rfl ?_
   obtain ⟨x8, hx8, h0⟩ := bnd_some h0
   refine TL.op1 (OpR.call0 fn126 (cell_Of_c hx8) rfl) rfl ?_
   refine TL.op0 (OpR.store 2 rfl rfl rfl rfl rfl rfl rfl rfl) ?_
   refine TL.op1 (OpR.pure rfl) rfl ?_
   refine TL.nil ?_
   show T X _ _ _
   refine T.ret ?_
   obtain rfl := Option.some.inj h0
   exact PostG.retP (ks := [0, 1]) (Gst.trans (Gst.only [4, 5] rfl) (Gst.pick [0, 1, 2] rfl rfl)) (.tuple #[(vn w4 0)]) (ResL.cons (ResV.var 2 rfl rfl rfl rfl) (ResL.cons (ResV.tmp rfl) ResL.nil)) rfl rfl rfl rfl
 refine T.condT rfl (not_f (beq_eq_false_iff_ne.2 c6)) ?_
 refine T.seq ?_
 refine T.region ?_
 refine TL.op1 (OpR.build rfl rfl rfl rfl rfl) rfl ?_
 refine TL.op1 (OpR.pure rfl) rfl ?_
 refine TL.op0 (OpR.store 2 rfl rfl rfl rfl rfl rfl rfl rfl) ?_
 refine TL.op1 (OpR.pure rfl) rfl ?_
 refine TL.nil ?_
 show T X _ _ _
 refine T.ret ?_
 obtain rfl := Option.some.inj h0
 exact PostG.retP (ks := [0, 1]) (Gst.trans (Gst.only [4, 5] rfl) (Gst.trans (Gst.denil (ReS.cons Re.refl (ReS.cons Re.refl ReS.nil)) (ReO.var (ReL.cons Re.refl ReL.nil) (ReO.same (ReO.var (ReL.cons (Re.base .nil) (ReL.cons Re.refl (ReL.cons Re.refl (ReL.cons Re.refl (ReL.cons Re.refl ReL.nil))))) (ReO.same ReO.nil))))) (Gst.pick [0, 1, 2] rfl rfl))) (.tuple #[(vn w4 0)]) (ResL.cons (ResV.var 2 rfl rfl rfl rfl) (ResL.cons (ResV.tmp rfl) ResL.nil)) rfl rfl rfl rfl
noncomputable def row_Fresh (a0 : Int) (a1 : Int) : Option row_Row :=
  bnd (some (if 40 < (if 1 > a0 then 1 else a0) then 40 else (if 1 > a0 then 1 else a0))) fun x2 =>
  bnd (mkz 56 x2 ((⟨(⟨[], 0⟩ : piece_Text), (⟨0, 0⟩ : arena_Span), false⟩ : cell_Cell) : cell_Cell)) fun x3 =>
  some (⟨x3, a1, false⟩ : row_Row)
set_option maxHeartbeats 4000000 in
theorem row_Fresh_c {a0 : Int} {a1 : Int} {res : row_Row} (h0 : row_Fresh a0 a1 = some res) : CallF X 36 [.val (.int .i64 a0), .val (.int .i64 a1)] [] (fun x => .agg [.sl 5 (List.map e_cell_Cell res.fCells), .val (.int .i64 res.fEnd), .val (.bool res.fHidden)]) (fun x => []) := by
 unfold row_Fresh at h0
 refine CallF.mkG (X := X) Try.func36 rfl rfl Try.ntmps36 rfl rfl ?_
 refine T.seq ?_
 refine T.region ?_
 refine TL.op (OpR.alloc rfl rfl (fun _ => rfl)) rfl (fun p1 => ?_)
 refine TL.nil ?_
 show T X _ _ _
 refine T.seq ?_
 refine T.region ?_
 refine TL.op1 (OpR.pure rfl) rfl ?_
 refine TL.op1 (OpR.pure rfl) rfl ?_
 obtain ⟨x2, hx2, h0⟩ := bnd_some h0
 refine TL.op1 (OpR.cast (OpR.pure rfl) (intE (Option.some.inj hx2))) rfl ?_
 refine TL.op1 (OpR.pure rfl) rfl ?_
 refine TL.nil ?_
 show T X _ _ _
 refine T.seq ?_
 refine T.region ?_
 refine TL.op1 (OpR.pure rfl) rfl ?_
 obtain ⟨x3, hx3, h0⟩ := bnd_some h0
 refine TL.op (OpR.makeN e_cell_Cell hx3 rfl rfl rfl rfl rfl rfl rfl rfl rfl rfl (ReL.cons (Re.base .nil) (ReL.cons Re.refl (ReL.cons Re.refl (ReL.cons Re.refl (ReL.cons Re.refl ReL.nil))))) rfl (fun _ => rfl)) rfl (fun v4 => ?_)
 refine TL.op1 (OpR.pure rfl) rfl ?_
 refine TL.op1 (OpR.build rfl rfl rfl rfl rfl) rfl ?_
 refine TL.op0 (OpR.store 0 rfl rfl rfl rfl rfl rfl rfl rfl) ?_
 refine TL.nil ?_
 show T X _ _ _
 refine T.ret ?_
 obtain rfl := Option.some.inj h0
 exact PostG.retP (ks := []) (Gst.trans (Gst.only [4] rfl) (Gst.trans (Gst.freezeRow 1 rfl rfl (ReS.cons Re.refl ReS.nil) (ReO.var (ReL.cons (Re.base .all) (ReL.cons Re.refl (ReL.cons Re.refl ReL.nil))) (ReO.same ReO.nil))) (Gst.pick [0] rfl rfl))) undef (ResL.cons (ResV.var 0 rfl rfl rfl rfl) ResL.nil) rfl rfl rfl rfl
noncomputable def slices_Clone_cell_Cell_cell_Cell (a0 : List cell_Cell) : Option (List cell_Cell) :=
  bnd (app 56 [] a0) fun x5 =>
  some x5
set_option maxHeartbeats 4000000 in
theorem slices_Clone_cell_Cell_cell_Cell_c {a0 : List cell_Cell} {res : (List cell_Cell)} (h0 : slices_Clone_cell_Cell_cell_Cell a0 = some res) : CallF X 76 [.sl 5 (List.map e_cell_Cell a0)] [] (fun x => .val (vn x 0)) (fun x => [.row (vn x 0) (List.map e_cell_Cell res) 5 108]) := by
 unfold slices_Clone_cell_Cell_cell_Cell at h0
 refine CallF.mkG (X := X) Try.func76 rfl rfl Try.ntmps76 rfl rfl ?_
 refine T.seq ?_
 refine T.region ?_
 refine TL.op1 (OpR.pure rfl) rfl ?_
 refine TL.nil ?_
 show T X _ _ _
 refine T.seq ?_
 refine T.seq ?_
 refine T.region ?_
 refine TL.op1 (OpR.pure rfl) rfl ?_
 refine TL.isNil rfl rfl rfl rfl (fun b1 e2 => ?_)
 refine TL.nil ?_
 show T X _ _ _
 rcases Bool.eq_false_or_eq_true b1 with c3 | c3
 · obtain rfl := map_nil_of (e2 c3)
   rw [app_nil] at h0
   refine T.condT rfl (c3) ?_
   refine T.seq ?_
   refine T.region ?_
   refine TL.op1 (OpR.pure rfl) rfl ?_
   refine TL.nil ?_
   show T X _ _ _
   refine T.ret ?_
   obtain rfl := Option.some.inj h0
   exact PostG.retP (ks := [0]) (Gst.trans (Gst.only [2] rfl) (Gst.nilRow (ow := []) 5 108 rfl)) (.tuple #[(.slice none 0 0)]) (ResL.cons (ResV.tmp rfl) ResL.nil) rfl rfl rfl rfl
 refine T.condF rfl (c3) ?_
 refine T.skip ?_
 show T X _ _ _
 refine T.seq ?_
 refine T.region ?_
 refine TL.op (OpR.litRow rfl rfl rfl rfl rfl rfl rfl rfl (fun _ => rfl)) rfl (fun v4 => ?_)
 refine TL.op1 (OpR.pure rfl) rfl ?_
 obtain ⟨x5, hx5, h0⟩ := bnd_some h0
 refine TL.op (OpR.appendM (m := a0) e_cell_Cell 0 hx5 rfl rfl rfl rfl rfl rfl rfl rfl rfl (fun _ => rfl)) rfl (fun v6 => ?_)
 refine TL.op1 (OpR.pure rfl) rfl ?_
 refine TL.nil ?_
 show T X _ _ _
 refine T.ret ?_
 obtain rfl := Option.some.inj h0
 exact PostG.retP (ks := [0]) (Gst.only [2] rfl) (.tuple #[v6]) (ResL.cons (ResV.tmp rfl) ResL.nil) rfl rfl rfl rfl
noncomputable def row_Row_with (a0 : row_Row) (a1 : List cell_Cell) : Option (Int × Bool) :=
  some (a0.fEnd, a0.fHidden)
set_option maxHeartbeats 4000000 in
theorem row_Row_with_c {a0 : row_Row} {a1 : List cell_Cell} {v0 : Value} {res : Int × Bool} (h0 : row_Row_with a0 a1 = some res) : CallF X 110 [.agg [.sl 5 (List.map e_cell_Cell a0.fCells), .val (.int .i64 a0.fEnd), .val (.bool a0.fHidden)], .val v0] [.row v0 (List.map e_cell_Cell a1) 5 108] (fun x => .agg [.val v0, .val (.int .i64 res.1), .val (.bool res.2)]) (fun x => [.row v0 (List.map e_cell_Cell a1) 5 108]) := by
 unfold row_Row_with at h0
 refine CallF.mkG (X := X) Try.func110 rfl rfl Try.ntmps110 rfl rfl ?_
 refine T.seq ?_
 refine T.region ?_
 refine TL.op (OpR.boxVar rfl rfl (fun _ => rfl)) rfl (fun p1 => ?_)
 refine TL.op (OpR.alloc rfl rfl (fun _ => rfl)) rfl (fun p2 => ?_)
 refine TL.nil ?_
 show T X _ _ _
 refine T.seq ?_
 refine T.region ?_
 refine TL.op1 (OpR.pure rfl) rfl ?_
 refine TL.op1 (OpR.pure rfl) rfl ?_
 refine TL.op0 (OpR.store 1 rfl rfl rfl rfl rfl rfl rfl rfl) ?_
 refine TL.nil ?_
 show T X _ _ _
 refine T.seq ?_
 refine T.region ?_
 refine TL.op1 (OpR.loadPtr 1 rfl rfl rfl rfl) rfl ?_
 refine TL.op0 (OpR.store 2 rfl rfl rfl rfl rfl rfl rfl rfl) ?_
 refine TL.nil ?_
 show T X _ _ _
 refine T.ret ?_
 obtain rfl := Option.some.inj h0
 exact PostG.retP (ks := [0]) (Gst.trans (Gst.only [4] rfl) (Gst.pick [0, 2] rfl rfl)) undef (ResL.cons (ResV.var 1 rfl rfl rfl rfl) ResL.nil) rfl rfl rfl rfl
noncomputable def row_Row_Pad.l1 (a1 : Int) (s7 : (List cell_Cell)) : Option (Lp (List cell_Cell) (List cell_Cell)) :=
  if (s7.length : Int) < (if 40 < a1 then 40 else a1) then
    bnd (app 56 s7 [(⟨(⟨[], 0⟩ : piece_Text), (⟨0, 0⟩ : arena_Span), false⟩ : cell_Cell)]) fun x16 =>
    some (Lp.next x16)
  else
    some (Lp.done s7)
noncomputable def row_Row_Pad (a0 : row_Row) (a1 : Int) : Option (Int × Bool × (List cell_Cell)) :=
  bnd (slices_Clone_cell_Cell_cell_Cell a0.fCells) fun x2 =>
  bnd (loop (row_Row_Pad.l1 a1) x2 : Option (List cell_Cell)) fun t4 =>
  bnd (row_Row_with a0 t4) fun x18 =>
  some (x18.1, x18.2, t4)
set_option maxHeartbeats 4000000 in
theorem row_Row_Pad_c {a0 : row_Row} {a1 : Int} {res : Int × Bool × (List cell_Cell)} (h0 : row_Row_Pad a0 a1 = some res) : CallF X 99 [.agg [.sl 5 (List.map e_cell_Cell a0.fCells), .val (.int .i64 a0.fEnd), .val (.bool a0.fHidden)], .val (.int .i64 a1)] [] (fun x => .agg [.val (vn x 0), .val (.int .i64 res.1), .val (.bool res.2.1)]) (fun x => [.row (vn x 0) (List.map e_cell_Cell res.2.2) 5 108]) := by
 unfold row_Row_Pad at h0
 refine CallF.mkG (X := X) Try.func99 rfl rfl Try.ntmps99 rfl rfl ?_
 refine T.seq ?_
 refine T.region ?_
 refine TL.op1 (OpR.boxImm rfl rfl) rfl ?_
 refine TL.op (OpR.alloc rfl rfl (fun _ => rfl)) rfl (fun p1 => ?_)
 refine TL.nil ?_
 show T X _ _ _
 refine T.seq ?_
 refine T.region ?_
 refine TL.op1 (OpR.pure rfl) rfl ?_
 refine TL.op1 (OpR.pure rfl) rfl ?_
 refine TL.op1 (OpR.pure rfl) rfl ?_
 refine TL.nil ?_
 show T X _ _ _
 refine T.seq ?_
 refine T.region ?_
 refine TL.op1 (OpR.pure rfl) rfl ?_
 refine TL.op1 (OpR.pure rfl) rfl ?_
 obtain ⟨x2, hx2, h0⟩ := bnd_some h0
 refine TL.op (OpR.call [] fn76 (slices_Clone_cell_Cell_cell_Cell_c hx2) rfl rfl rfl (fun _ => rfl)) rfl (fun w3 => ?_)
 refine TL.op1 (OpR.pure rfl) rfl ?_
 refine TL.nil ?_
 show T X _ _ _
 refine T.seq ?_
 obtain ⟨t4, ht4, h0⟩ := bnd_some h0
 refine T.cutC (fun S' => ∃ y5 : Value, S' = ⟨[(5, .val y5), (4, .val (.pointer (some ⟨(blk p1), 0, none⟩))), (2, .nod [.sl 5 (List.map e_cell_Cell a0.fCells), .val (.int .i64 a0.fEnd), .val (.bool a0.fHidden)])], [.var (blk p1) [.val (.slice none 0 0), .val (.int .i64 0), .val (.bool false)] 49, .row y5 (List.map e_cell_Cell t4) 5 108], 22⟩) (fun _ h => h) ?_ ?_
 rotate_left
 · rintro _ ⟨y5, rfl⟩
   show T X _ _ _
   refine T.seq ?_
   refine T.region ?_
   refine TL.op1 (OpR.pure rfl) rfl ?_
   refine TL.op1 (OpR.pure rfl) rfl ?_
   obtain ⟨x18, hx18, h0⟩ := bnd_some h0
   refine TL.op1 (OpR.call [1] fn110 (row_Row_with_c hx18) rfl rfl rfl (fun _ => rfl)) rfl ?_
   refine TL.op0 (OpR.store 0 rfl rfl rfl rfl rfl rfl rfl rfl) ?_
   refine TL.nil ?_
   show T X _ _ _
   refine T.ret ?_
   obtain rfl := Option.some.inj h0
   exact PostG.retP (ks := [1]) (Gst.only [4] rfl) (.tuple #[y5]) (ResL.cons (ResV.var 0 rfl rfl rfl rfl) ResL.nil) rfl rfl rfl rfl
 refine T.block ?_
 obtain ⟨n8, n13⟩ := loop_some ht4
 refine T.loop (fun n S' => ∃ S'', Gst S' S'' ∧ ∃ y6 : Value, ∃ s7 : (List cell_Cell), S'' = ⟨[(5, .val y6), (4, .val (.pointer (some ⟨(blk p1), 0, none⟩))), (2, .nod [.sl 5 (List.map e_cell_Cell a0.fCells), .val (.int .i64 a0.fEnd), .val (.bool a0.fHidden)]), (1, .val (.int .i64 (if 40 < a1 then 40 else a1)))], [.var (blk p1) [.val (.slice none 0 0), .val (.int .i64 0), .val (.bool false)] 49, .row y6 (List.map e_cell_Cell s7) 5 108], 22⟩ ∧ iter (row_Row_Pad.l1 a1) n s7 = some t4) n8 ?_ ?_
 · exact ⟨_, Gst.only [1, 2, 4, 5] rfl, (vn w3 0), x2, rfl, n13⟩
 rintro n8 _ ⟨_, g, y6, s7, rfl, i12⟩
 refine T.ghost g ?_
 obtain ⟨m9, q10, rfl, q11, i12⟩ := iter_succ i12
 unfold row_Row_Pad.l1 at q11
 refine T.seq ?_
 refine T.seq ?_
 refine T.region ?_
 refine TL.op1 (OpR.pure rfl) rfl ?_
 refine TL.op1 (OpR.rowLenM e_cell_Cell 1 rfl rfl rfl rfl) rfl ?_
 refine TL.op1 (OpR.pure rfl) rfl ?_
 refine TL.op1 (OpR.pure rfl) rfl ?_
 refine TL.nil ?_
 show T X _ _ _
 rcases ite_some q11 with ⟨c15, q11⟩ | ⟨c15, q11⟩
 rotate_left
 · refine T.condF rfl (decide_eq_false c15) ?_
   refine T.exit ?_
   obtain rfl := Option.some.inj q11
   obtain rfl : _ = _ := i12
   exact ⟨_, Gst.only [2, 4, 5] rfl, y6, rfl⟩
 refine T.condT rfl (decide_eq_true c15) ?_
 refine T.skip ?_
 show T X _ _ _
 refine T.block ?_
 refine T.region ?_
 refine TL.op1 (OpR.pure rfl) rfl ?_
 refine TL.op1 (OpR.wk (d' := fun _ => .agg [.sl 2 (List.map e_arena_Span []), .val (.int .i64 0), .val (.int .i64 0), .val (.int .i64 0), .val (.bool false)]) (OpR.build rfl rfl rfl rfl rfl) (fun _ => Re.agg (ReL.cons (Re.base .nil) (ReL.cons Re.refl (ReL.cons Re.refl (ReL.cons Re.refl (ReL.cons Re.refl ReL.nil))))) (fun _ _ h => by cases h; exact ⟨_, rfl⟩))) rfl ?_
 refine TL.op1 (OpR.lit rfl rfl rfl rfl rfl rfl rfl) rfl ?_
 obtain ⟨x16, hx16, q11⟩ := bnd_some q11
 refine TL.op (OpR.appendM (m := [(⟨(⟨[], 0⟩ : piece_Text), (⟨0, 0⟩ : arena_Span), false⟩ : cell_Cell)]) e_cell_Cell 1 hx16 rfl rfl rfl rfl rfl rfl rfl rfl rfl (fun _ => rfl)) rfl (fun v17 => ?_)
 refine TL.op1 (OpR.pure rfl) rfl ?_
 refine TL.nil ?_
 obtain rfl := Option.some.inj q11
 exact ⟨m9, Nat.lt_succ_self _, _, Gst.only [1, 2, 4, 5] rfl, v17, x16, rfl, i12⟩
noncomputable def row_Row_Set (a0 : row_Row) (a1 : Int) (a2 : cell_Cell) : Option (row_Row × Int) :=
  bnd (if a1 < 0 then
    some true
  else
    some (decide (a1 ≥ 40)) : Option Bool) fun t2 =>
  if t2 = true then
    some ((⟨[], 0, false⟩ : row_Row), 5)
  else
    bnd (row_Row_Pad a0 (w64 (a1 + 1))) fun x5 =>
    bnd (idx x5.2.2 a1) fun x8 =>
    some ((⟨(x5.2.2.set a1.toNat a2), x5.1, x5.2.1⟩ : row_Row), 0)
set_option maxHeartbeats 4000000 in
theorem row_Row_Set_c {a0 : row_Row} {a1 : Int} {a2 : cell_Cell} {res : row_Row × Int} (h0 : row_Row_Set a0 a1 a2 = some res) : CallF X 74 [.agg [.sl 5 (List.map e_cell_Cell a0.fCells), .val (.int .i64 a0.fEnd), .val (.bool a0.fHidden)], .val (.int .i64 a1), .agg [.sl 2 (List.map e_arena_Span a2.fText.fL), .val (.int .i64 a2.fText.fN), .val (.int .i64 a2.fRaw.fAt), .val (.int .i64 a2.fRaw.fN), .val (.bool a2.fKept)]] [] (fun x => .tup [.agg [.sl 5 (List.map e_cell_Cell res.1.fCells), .val (.int .i64 res.1.fEnd), .val (.bool res.1.fHidden)], .val (.int .i64 res.2)]) (fun x => []) := by
 unfold row_Row_Set at h0
 refine CallF.mkG (X := X) Try.func74 rfl rfl Try.ntmps74 rfl rfl ?_
 refine T.seq ?_
 refine T.region ?_
 refine TL.op1 (OpR.boxImm rfl rfl) rfl ?_
 refine TL.op1 (OpR.boxImm rfl rfl) rfl ?_
 refine TL.op (OpR.alloc rfl rfl (fun _ => rfl)) rfl (fun p1 => ?_)
 refine TL.op1 (OpR.pure rfl) rfl ?_
 refine TL.nil ?_
 show T X _ _ _
 refine T.seq ?_
 refine T.seq ?_
 obtain ⟨t2, ht2, h0⟩ := bnd_some h0
 refine T.cutC (fun S' => S' = ⟨[(14, .val (.bool t2)), (7, .val (.int .i64 0)), (6, .val (.pointer (some ⟨(blk p1), 0, none⟩))), (5, .nod [.sl 2 (List.map e_arena_Span a2.fText.fL), .val (.int .i64 a2.fText.fN), .val (.int .i64 a2.fRaw.fAt), .val (.int .i64 a2.fRaw.fN), .val (.bool a2.fKept)]), (3, .nod [.sl 5 (List.map e_cell_Cell a0.fCells), .val (.int .i64 a0.fEnd), .val (.bool a0.fHidden)]), (1, .val (.int .i64 a1))], [.var (blk p1) [.val (.slice none 0 0), .val (.int .i64 0), .val (.bool false)] 49], 26⟩) (fun _ h => h) ?_ ?_
 · refine T.region ?_
   refine TL.op1 (OpR.pure rfl) rfl ?_
   refine TL.op1 (OpR.pure rfl) rfl ?_
   refine TL.op1 (OpR.pure rfl) rfl ?_
   rcases ite_some ht2 with ⟨c3, ht2⟩ | ⟨c3, ht2⟩
   · refine TL.off rfl rfl rfl rfl (decide_eq_true c3) rfl rfl ?_
     refine TL.off rfl rfl rfl rfl (decide_eq_true c3) rfl rfl ?_
     refine TL.op1 (OpR.pickT rfl (decide_eq_true c3) rfl) rfl ?_
     refine TL.nil ?_
     obtain rfl := Option.some.inj ht2
     exact ⟨_, Gst.only [1, 3, 5, 6, 7, 14] rfl, rfl⟩
   refine TL.on rfl rfl rfl rfl (decide_eq_false c3) ?_
   refine TL.op1 (OpR.pure rfl) rfl ?_
   refine TL.on rfl rfl rfl rfl (decide_eq_false c3) ?_
   refine TL.op1 (OpR.pure rfl) rfl ?_
   refine TL.op1 (OpR.pickF rfl (decide_eq_false c3) rfl) rfl ?_
   refine TL.nil ?_
   obtain rfl := Option.some.inj ht2
   exact ⟨_, Gst.only [1, 3, 5, 6, 7, 14] rfl, rfl⟩
 rintro _ rfl
 show T X _ _ _
 rcases ite_some h0 with ⟨c4, h0⟩ | ⟨c4, h0⟩
 · refine T.condT rfl (c4) ?_
   refine T.seq ?_
   refine T.region ?_
   refine TL.op1 (OpR.build rfl rfl rfl rfl rfl) rfl ?_
   refine TL.op0 (OpR.store 0 rfl rfl rfl rfl rfl rfl rfl rfl) ?_
   refine TL.op1 (OpR.pure rfl) rfl ?_
   refine TL.nil ?_
   show T X _ _ _
   refine T.ret ?_
   obtain rfl := Option.some.inj h0
   exact PostG.retP (ks := []) (Gst.trans (Gst.only [6, 7] rfl) (Gst.denil (ReS.cons Re.refl (ReS.cons Re.refl ReS.nil)) (ReO.var (ReL.cons (Re.base .nil) (ReL.cons Re.refl (ReL.cons Re.refl ReL.nil))) ReO.nil))) undef (ResL.cons (ResV.var 0 rfl rfl rfl rfl) (ResL.cons (ResV.tmp rfl) ResL.nil)) rfl rfl rfl rfl
 refine T.condF rfl (eq_false_of_ne_true c4) ?_
 refine T.skip ?_
 show T X _ _ _
 refine T.seq ?_
 refine T.region ?_
 refine TL.op1 (OpR.pure rfl) rfl ?_
 refine TL.op1 (OpR.pure rfl) rfl ?_
 refine TL.op1 (OpR.pure rfl) rfl ?_
 obtain ⟨x5, hx5, h0⟩ := bnd_some h0
 refine TL.op (OpR.call [] fn99 (row_Row_Pad_c hx5) rfl rfl rfl (fun _ => rfl)) rfl (fun w6 => ?_)
 refine TL.op (OpR.alloc rfl rfl (fun _ => rfl)) rfl (fun p7 => ?_)
 refine TL.op0 (OpR.store 2 rfl rfl rfl rfl rfl rfl rfl rfl) ?_
 refine TL.nil ?_
 show T X _ _ _
 refine T.seq ?_
 refine T.region ?_
 refine TL.op1 (OpR.pure rfl) rfl ?_
 refine TL.op1 (OpR.loadPtr 2 rfl rfl rfl rfl) rfl ?_
 refine TL.op1 (OpR.pure rfl) rfl ?_
 refine TL.op1 (OpR.pure rfl) rfl ?_
 obtain ⟨x8, hx8, h0⟩ := bnd_some h0
 refine TL.op1 (OpR.rowIndexM e_cell_Cell 1 hx8 rfl rfl rfl rfl rfl rfl rfl) rfl ?_
 refine TL.op0 (OpR.rowStore0M (j := a1) e_cell_Cell a2 1 hx8 rfl rfl rfl rfl rfl rfl rfl rfl rfl) ?_
 refine TL.nil ?_
 show T X _ _ _
 refine T.seq ?_
 refine T.region ?_
 refine TL.op1 (OpR.loadPtr 2 rfl rfl rfl rfl) rfl ?_
 refine TL.op0 (OpR.store 0 rfl rfl rfl rfl rfl rfl rfl rfl) ?_
 refine TL.op1 (OpR.pure rfl) rfl ?_
 refine TL.nil ?_
 show T X _ _ _
 refine T.ret ?_
 obtain rfl := Option.some.inj h0
 exact PostG.retP (ks := []) (Gst.trans (Gst.only [6, 7] rfl) (Gst.trans (Gst.freezeRow 1 rfl rfl (ReS.cons Re.refl (ReS.cons Re.refl ReS.nil)) (ReO.var (ReL.cons (Re.base .all) (ReL.cons Re.refl (ReL.cons Re.refl ReL.nil))) (ReO.same (ReO.var (ReL.cons (Re.base .all) (ReL.cons Re.refl (ReL.cons Re.refl ReL.nil))) ReO.nil)))) (Gst.pick [0] rfl rfl))) undef (ResL.cons (ResV.var 0 rfl rfl rfl rfl) (ResL.cons (ResV.tmp rfl) ResL.nil)) rfl rfl rfl rfl
noncomputable def row_Row_has (a0 : row_Row) (a1 : Int) : Option Bool :=
  bnd (if a1 ≥ 0 then
    some (decide (a1 < (a0.fCells.length : Int)))
  else
    some false : Option Bool) fun t1 =>
  some t1
set_option maxHeartbeats 4000000 in
theorem row_Row_has_c {a0 : row_Row} {a1 : Int} {res : Bool} (h0 : row_Row_has a0 a1 = some res) : CallF X 101 [.agg [.sl 5 (List.map e_cell_Cell a0.fCells), .val (.int .i64 a0.fEnd), .val (.bool a0.fHidden)], .val (.int .i64 a1)] [] (fun x => .val (.bool res)) (fun x => []) := by
 unfold row_Row_has at h0
 refine CallF.mkG (X := X) Try.func101 rfl rfl Try.ntmps101 rfl rfl ?_
 refine T.seq ?_
 refine T.region ?_
 refine TL.op1 (OpR.boxImm rfl rfl) rfl ?_
 refine TL.op1 (OpR.pure rfl) rfl ?_
 refine TL.nil ?_
 show T X _ _ _
 refine T.seq ?_
 obtain ⟨t1, ht1, h0⟩ := bnd_some h0
 refine T.cutC (fun S' => S' = ⟨[(4, .val (.bool t1))], [], 14⟩) (fun _ h => h) ?_ ?_
 rotate_left
 · rintro _ rfl
   show T X _ _ _
   refine T.ret ?_
   obtain rfl := Option.some.inj h0
   exact PostG.retP (ks := []) (Gst.only [4] rfl) undef (ResL.cons (ResV.tmp rfl) ResL.nil) rfl rfl rfl rfl
 refine T.region ?_
 refine TL.op1 (OpR.pure rfl) rfl ?_
 refine TL.op1 (OpR.pure rfl) rfl ?_
 refine TL.op1 (OpR.pure rfl) rfl ?_
 rcases ite_some ht1 with ⟨c2, ht1⟩ | ⟨c2, ht1⟩
 rotate_left
 · refine TL.off rfl rfl rfl rfl (decide_eq_false c2) rfl rfl ?_
   refine TL.off rfl rfl rfl rfl (decide_eq_false c2) rfl rfl ?_
   refine TL.off rfl rfl rfl rfl (decide_eq_false c2) rfl rfl ?_
   refine TL.off rfl rfl rfl rfl (decide_eq_false c2) rfl rfl ?_
   refine TL.off rfl rfl rfl rfl (decide_eq_false c2) rfl rfl ?_
   refine TL.op1 (OpR.pickF rfl (decide_eq_false c2) rfl) rfl ?_
   refine TL.op1 (OpR.pure rfl) rfl ?_
   refine TL.nil ?_
   obtain rfl := Option.some.inj ht1
   exact ⟨_, Gst.only [4] rfl, rfl⟩
 refine TL.on rfl rfl rfl rfl (decide_eq_true c2) ?_
 refine TL.op1 (OpR.pure rfl) rfl ?_
 refine TL.on rfl rfl rfl rfl (decide_eq_true c2) ?_
 refine TL.op1 (OpR.pure rfl) rfl ?_
 refine TL.on rfl rfl rfl rfl (decide_eq_true c2) ?_
 refine TL.op1 (OpR.pure rfl) rfl ?_
 refine TL.on rfl rfl rfl rfl (decide_eq_true c2) ?_
 refine TL.op1 (OpR.cast (OpR.pure rfl) (intE (lenM _ _))) rfl ?_
 refine TL.on rfl rfl rfl rfl (decide_eq_true c2) ?_
 refine TL.op1 (OpR.pure rfl) rfl ?_
 refine TL.op1 (OpR.pickT rfl (decide_eq_true c2) rfl) rfl ?_
 refine TL.op1 (OpR.pure rfl) rfl ?_
 refine TL.nil ?_
 obtain rfl := Option.some.inj ht1
 exact ⟨_, Gst.only [4] rfl, rfl⟩
noncomputable def row_Row_At (a0 : row_Row) (a1 : Int) : Option (cell_Cell × Bool) :=
  bnd (row_Row_has a0 a1) fun x2 =>
  if x2 = true then
    bnd (idx a0.fCells a1) fun x4 =>
    some (x4, true)
  else
    some ((⟨(⟨[], 0⟩ : piece_Text), (⟨0, 0⟩ : arena_Span), false⟩ : cell_Cell), false)
set_option maxHeartbeats 4000000 in
theorem row_Row_At_c {a0 : row_Row} {a1 : Int} {res : cell_Cell × Bool} (h0 : row_Row_At a0 a1 = some res) : CallF X 53 [.agg [.sl 5 (List.map e_cell_Cell a0.fCells), .val (.int .i64 a0.fEnd), .val (.bool a0.fHidden)], .val (.int .i64 a1)] [] (fun x => .tup [.agg [.sl 2 (List.map e_arena_Span res.1.fText.fL), .val (.int .i64 res.1.fText.fN), .val (.int .i64 res.1.fRaw.fAt), .val (.int .i64 res.1.fRaw.fN), .val (.bool res.1.fKept)], .val (.bool res.2)]) (fun x => []) := by
 unfold row_Row_At at h0
 refine CallF.mkG (X := X) Try.func53 rfl rfl Try.ntmps53 rfl rfl ?_
 refine T.seq ?_
 refine T.region ?_
 refine TL.op1 (OpR.boxImm rfl rfl) rfl ?_
 refine TL.op (OpR.alloc rfl rfl (fun _ => rfl)) rfl (fun p1 => ?_)
 refine TL.op1 (OpR.pure rfl) rfl ?_
 refine TL.nil ?_
 show T X _ _ _
 refine T.seq ?_
 refine T.seq ?_
 refine T.region ?_
 refine TL.op1 (OpR.pure rfl) rfl ?_
 refine TL.op1 (OpR.pure rfl) rfl ?_
 obtain ⟨x2, hx2, h0⟩ := bnd_some h0
 refine TL.op1 (OpR.call0 fn101 (row_Row_has_c hx2) rfl) rfl ?_
 refine TL.op1 (OpR.pure rfl) rfl ?_
 refine TL.nil ?_
 show T X _ _ _
 rcases ite_some h0 with ⟨c3, h0⟩ | ⟨c3, h0⟩
 rotate_left
 · refine T.condT rfl (not_f (eq_false_of_ne_true c3)) ?_
   refine T.seq ?_
   refine T.region ?_
   refine TL.op1 (OpR.build rfl rfl rfl rfl rfl) rfl ?_
   refine TL.op0 (OpR.store 0 rfl rfl rfl rfl rfl rfl rfl rfl) ?_
   refine TL.op1 (OpR.pure rfl) rfl ?_
   refine TL.nil ?_
   show T X _ _ _
   refine T.ret ?_
   obtain rfl := Option.some.inj h0
   exact PostG.retP (ks := []) (Gst.trans (Gst.only [4, 5] rfl) (Gst.denil (ReS.cons Re.refl (ReS.cons Re.refl ReS.nil)) (ReO.var (ReL.cons (Re.base .nil) (ReL.cons Re.refl (ReL.cons Re.refl (ReL.cons Re.refl (ReL.cons Re.refl ReL.nil))))) ReO.nil))) undef (ResL.cons (ResV.var 0 rfl rfl rfl rfl) (ResL.cons (ResV.tmp rfl) ResL.nil)) rfl rfl rfl rfl
 refine T.condF rfl (not_t (c3)) ?_
 refine T.skip ?_
 show T X _ _ _
 refine T.seq ?_
 refine T.region ?_
 refine TL.op1 (OpR.pure rfl) rfl ?_
 refine TL.op1 (OpR.pure rfl) rfl ?_
 refine TL.op1 (OpR.pure rfl) rfl ?_
 obtain ⟨x4, hx4, h0⟩ := bnd_some h0
 refine TL.op1 (OpR.indexM e_cell_Cell hx4 rfl rfl rfl rfl rfl) rfl ?_
 refine TL.op1 (OpR.pure rfl) rfl ?_
 refine TL.op0 (OpR.store 0 rfl rfl rfl rfl rfl rfl rfl rfl) ?_
 refine TL.op1 (OpR.pure rfl) rfl ?_
 refine TL.nil ?_
 show T X _ _ _
 refine T.ret ?_
 obtain rfl := Option.some.inj h0
 exact PostG.retP (ks := []) (Gst.only [4, 5] rfl) undef (ResL.cons (ResV.var 0 rfl rfl rfl rfl) (ResL.cons (ResV.tmp rfl) ResL.nil)) rfl rfl rfl rfl
noncomputable def row_Row_Len (a0 : row_Row) : Option Int :=
  some (a0.fCells.length : Int)
set_option maxHeartbeats 4000000 in
theorem row_Row_Len_c {a0 : row_Row} {res : Int} (h0 : row_Row_Len a0 = some res) : CallF X 52 [.agg [.sl 5 (List.map e_cell_Cell a0.fCells), .val (.int .i64 a0.fEnd), .val (.bool a0.fHidden)]] [] (fun x => .val (.int .i64 res)) (fun x => []) := by
 unfold row_Row_Len at h0
 refine CallF.mkG (X := X) Try.func52 rfl rfl Try.ntmps52 rfl rfl ?_
 refine T.seq ?_
 refine T.region ?_
 refine TL.op1 (OpR.boxImm rfl rfl) rfl ?_
 refine TL.op1 (OpR.pure rfl) rfl ?_
 refine TL.nil ?_
 show T X _ _ _
 refine T.seq ?_
 refine T.region ?_
 refine TL.op1 (OpR.pure rfl) rfl ?_
 refine TL.op1 (OpR.pure rfl) rfl ?_
 refine TL.op1 (OpR.cast (OpR.pure rfl) (intE (lenM _ _))) rfl ?_
 refine TL.op1 (OpR.pure rfl) rfl ?_
 refine TL.nil ?_
 show T X _ _ _
 refine T.ret ?_
 obtain rfl := Option.some.inj h0
 exact PostG.retP (ks := []) (Gst.only [2] rfl) undef (ResL.cons (ResV.tmp rfl) ResL.nil) rfl rfl rfl rfl
noncomputable def cell_Cell_Empty (a0 : cell_Cell) : Option Bool :=
  bnd (piece_Text_Len a0.fText) fun x1 =>
  some (x1 == 0)
set_option maxHeartbeats 4000000 in
theorem cell_Cell_Empty_c {a0 : cell_Cell} {res : Bool} (h0 : cell_Cell_Empty a0 = some res) : CallF X 75 [.agg [.sl 2 (List.map e_arena_Span a0.fText.fL), .val (.int .i64 a0.fText.fN), .val (.int .i64 a0.fRaw.fAt), .val (.int .i64 a0.fRaw.fN), .val (.bool a0.fKept)]] [] (fun x => .val (.bool res)) (fun x => []) := by
 unfold cell_Cell_Empty at h0
 refine CallF.mkG (X := X) Try.func75 rfl rfl Try.ntmps75 rfl rfl ?_
 refine T.seq ?_
 refine T.region ?_
 refine TL.op1 (OpR.boxImm rfl rfl) rfl ?_
 refine TL.op1 (OpR.pure rfl) rfl ?_
 refine TL.nil ?_
 show T X _ _ _
 refine T.seq ?_
 refine T.region ?_
 refine TL.op1 (OpR.pure rfl) rfl ?_
 refine TL.op1 (OpR.pure rfl) rfl ?_
 obtain ⟨x1, hx1, h0⟩ := bnd_some h0
 refine TL.op1 (OpR.call0 fn68 (piece_Text_Len_c hx1) rfl) rfl ?_
 refine TL.op1 (OpR.pure rfl) rfl ?_
 refine TL.op1 (OpR.pure rfl) rfl ?_
 refine TL.nil ?_
 show T X _ _ _
 refine T.ret ?_
 obtain rfl := Option.some.inj h0
 exact PostG.retP (ks := []) (Gst.only [2] rfl) undef (ResL.cons (ResV.tmp rfl) ResL.nil) rfl rfl rfl rfl
noncomputable def cell_Cell_Bytes (a0 : cell_Cell) (a1 : List UInt8) : Option (List UInt8) :=
  bnd (piece_Text_Flat a0.fText a1) fun x1 =>
  some x1
set_option maxHeartbeats 4000000 in
theorem cell_Cell_Bytes_c {a0 : cell_Cell} {a1 : List UInt8} {b0 : Nat} {v1 : Value} {res : (List UInt8)} (h0 : cell_Cell_Bytes a0 a1 = some res) : CallF X 102 [.agg [.sl 2 (List.map e_arena_Span a0.fText.fL), .val (.int .i64 a0.fText.fN), .val (.int .i64 a0.fRaw.fAt), .val (.int .i64 a0.fRaw.fN), .val (.bool a0.fKept)], .val (.pointer (some ⟨b0, 0, none⟩))] [.var b0 [.val v1] 142, .row v1 (List.map byteD a1) 1 5] (fun x => .sl 1 (List.map byteD res)) (fun x => [.var b0 [.val v1] 142, .row v1 (List.map byteD a1) 1 5]) := by
 unfold cell_Cell_Bytes at h0
 refine CallF.mkG (X := X) Try.func102 rfl rfl Try.ntmps102 rfl rfl ?_
 refine T.seq ?_
 refine T.region ?_
 refine TL.op1 (OpR.boxImm rfl rfl) rfl ?_
 refine TL.op1 (OpR.pure rfl) rfl ?_
 refine TL.nil ?_
 show T X _ _ _
 refine T.seq ?_
 refine T.region ?_
 refine TL.op1 (OpR.pure rfl) rfl ?_
 refine TL.op1 (OpR.pure rfl) rfl ?_
 refine TL.op1 (OpR.pure rfl) rfl ?_
 obtain ⟨x1, hx1, h0⟩ := bnd_some h0
 refine TL.op1 (OpR.call [0, 1] fn46 (piece_Text_Flat_c hx1) rfl rfl rfl (fun _ => rfl)) rfl ?_
 refine TL.op1 (OpR.pure rfl) rfl ?_
 refine TL.nil ?_
 show T X _ _ _
 refine T.ret ?_
 obtain rfl := Option.some.inj h0
 exact PostG.retP (ks := [0, 1]) (Gst.only [4] rfl) undef (ResL.cons (ResV.tmp rfl) ResL.nil) rfl rfl rfl rfl
noncomputable def cell_Cell_Print (a0 : cell_Cell) (a1 : List UInt8) : Option (List UInt8) :=
  if a0.fKept = true then
    bnd (arena_Arena_Bytes a0.fRaw a1) fun x2 =>
    some x2
  else
    bnd (cell_Cell_Bytes a0 a1) fun x3 =>
    bnd (quote_Put x3) fun x4 =>
    some x4
set_option maxHeartbeats 4000000 in
theorem cell_Cell_Print_c {a0 : cell_Cell} {a1 : List UInt8} {b0 : Nat} {v1 : Value} {res : (List UInt8)} (h0 : cell_Cell_Print a0 a1 = some res) : CallF X 72 [.agg [.sl 2 (List.map e_arena_Span a0.fText.fL), .val (.int .i64 a0.fText.fN), .val (.int .i64 a0.fRaw.fAt), .val (.int .i64 a0.fRaw.fN), .val (.bool a0.fKept)], .val (.pointer (some ⟨b0, 0, none⟩))] [.var b0 [.val v1] 142, .row v1 (List.map byteD a1) 1 5] (fun x => .sl 1 (List.map byteD res)) (fun x => [.var b0 [.val v1] 142, .row v1 (List.map byteD a1) 1 5]) := by
 unfold cell_Cell_Print at h0
 refine CallF.mkG (X := X) Try.func72 rfl rfl Try.ntmps72 rfl rfl ?_
 refine T.seq ?_
 refine T.region ?_
 refine TL.op1 (OpR.boxImm rfl rfl) rfl ?_
 refine TL.op1 (OpR.pure rfl) rfl ?_
 refine TL.nil ?_
 show T X _ _ _
 refine T.seq ?_
 refine T.seq ?_
 refine T.region ?_
 refine TL.op1 (OpR.pure rfl) rfl ?_
 refine TL.op1 (OpR.pure rfl) rfl ?_
 refine TL.nil ?_
 show T X _ _ _
 rcases ite_some h0 with ⟨c1, h0⟩ | ⟨c1, h0⟩
 · refine T.condT rfl (c1) ?_
   refine T.seq ?_
   refine T.region ?_
   refine TL.op1 (OpR.pure rfl) rfl ?_
   refine TL.op1 (OpR.pure rfl) rfl ?_
   refine TL.op1 (OpR.pure rfl) rfl ?_
   obtain ⟨x2, hx2, h0⟩ := bnd_some h0
   refine TL.op1 (OpR.call [0, 1] fn91 (arena_Arena_Bytes_c hx2) rfl rfl rfl (fun _ => rfl)) rfl ?_
   refine TL.op1 (OpR.pure rfl) rfl ?_
   refine TL.nil ?_
   show T X _ _ _
   refine T.ret ?_
   obtain rfl := Option.some.inj h0
   exact PostG.retP (ks := [0, 1]) (Gst.only [4] rfl) undef (ResL.cons (ResV.tmp rfl) ResL.nil) rfl rfl rfl rfl
 refine T.condF rfl (eq_false_of_ne_true c1) ?_
 refine T.skip ?_
 show T X _ _ _
 refine T.seq ?_
 refine T.region ?_
 refine TL.op1 (OpR.pure rfl) rfl ?_
 refine TL.op1 (OpR.pure rfl) rfl ?_
 obtain ⟨x3, hx3, h0⟩ := bnd_some h0
 refine TL.op1 (OpR.call [0, 1] fn102 (cell_Cell_Bytes_c hx3) rfl rfl rfl (fun _ => rfl)) rfl ?_
 obtain ⟨x4, hx4, h0⟩ := bnd_some h0
 refine TL.op1 (OpR.call0 fn125 (quote_Put_c hx4) rfl) rfl ?_
 refine TL.op1 (OpR.pure rfl) rfl ?_
 refine TL.nil ?_
 show T X _ _ _
 refine T.ret ?_
 obtain rfl := Option.some.inj h0
 exact PostG.retP (ks := [0, 1]) (Gst.only [4] rfl) undef (ResL.cons (ResV.tmp rfl) ResL.nil) rfl rfl rfl rfl
noncomputable def row_Row_Print.l1 (a0 : row_Row) (a1 : List UInt8) (s4 : Int × (List UInt8)) : Option (Lp (Int × (List UInt8)) (List UInt8)) :=
  if s4.1 < (a0.fCells.length : Int) then
    bnd (idx a0.fCells s4.1) fun x13 =>
    bnd (if s4.1 > 0 then
      bnd (app 1 s4.2 [44]) fun x18 =>
      some x18
    else
      some s4.2 : Option (List UInt8)) fun t15 =>
    bnd (cell_Cell_Print x13 a1) fun x20 =>
    bnd (app 1 t15 x20) fun x21 =>
    some (Lp.next (w64 (s4.1 + 1), x21))
  else
    some (Lp.done s4.2)
noncomputable def row_Row_Print (a0 : row_Row) (a1 : List UInt8) : Option (List UInt8) :=
  bnd (loop (row_Row_Print.l1 a0 a1) (0, []) : Option (List UInt8)) fun t1 =>
  some t1
set_option maxHeartbeats 4000000 in
theorem row_Row_Print_c {a0 : row_Row} {a1 : List UInt8} {b0 : Nat} {v1 : Value} {res : (List UInt8)} (h0 : row_Row_Print a0 a1 = some res) : CallF X 33 [.agg [.sl 5 (List.map e_cell_Cell a0.fCells), .val (.int .i64 a0.fEnd), .val (.bool a0.fHidden)], .val (.pointer (some ⟨b0, 0, none⟩))] [.var b0 [.val v1] 142, .row v1 (List.map byteD a1) 1 5] (fun x => .sl 1 (List.map byteD res)) (fun x => [.var b0 [.val v1] 142, .row v1 (List.map byteD a1) 1 5]) := by
 unfold row_Row_Print at h0
 refine CallF.mkG (X := X) Try.func33 rfl rfl Try.ntmps33 rfl rfl ?_
 refine T.seq ?_
 refine T.region ?_
 refine TL.op1 (OpR.boxImm rfl rfl) rfl ?_
 refine TL.op1 (OpR.pure rfl) rfl ?_
 refine TL.nil ?_
 show T X _ _ _
 refine T.seq ?_
 refine T.region ?_
 refine TL.op1 (OpR.pure rfl) rfl ?_
 refine TL.nil ?_
 show T X _ _ _
 refine T.seq ?_
 refine T.seq ?_
 refine T.region ?_
 refine TL.op1 (OpR.pure rfl) rfl ?_
 refine TL.op1 (OpR.pure rfl) rfl ?_
 refine TL.op1 (OpR.cast (OpR.pure rfl) (intE (lenM _ _))) rfl ?_
 refine TL.op1 (OpR.pure rfl) rfl ?_
 refine TL.nil ?_
 show T X _ _ _
 obtain ⟨t1, ht1, h0⟩ := bnd_some h0
 refine T.cutC (fun S' => ∃ y2 : Value, S' = ⟨[(5, .val y2), (4, .val (.slice none 0 0))], [.var b0 [.val v1] 142, .row v1 (List.map byteD a1) 1 5, .row y2 (List.map byteD t1) 1 5], 28⟩) (fun _ h => h) ?_ ?_
 rotate_left
 · rintro _ ⟨y2, rfl⟩
   show T X _ _ _
   refine T.seq ?_
   refine T.region ?_
   refine TL.op1 (OpR.pure rfl) rfl ?_
   refine TL.op1 (OpR.pure rfl) rfl ?_
   refine TL.nil ?_
   show T X _ _ _
   refine T.ret ?_
   obtain rfl := Option.some.inj h0
   exact PostG.retP (ks := [0, 1]) (Gst.trans (Gst.only [4] rfl) (Gst.trans (Gst.freezeRow 2 rfl rfl (ReS.cons (Re.base .all) ReS.nil) (ReO.same (ReO.same (ReO.same ReO.nil)))) (Gst.pick [0, 1] rfl rfl))) undef (ResL.cons (ResV.tmp rfl) ResL.nil) rfl rfl rfl rfl
 refine T.block ?_
 obtain ⟨n5, n10⟩ := loop_some ht1
 refine T.loop (fun n S' => ∃ S'', Gst S' S'' ∧ ∃ y3 : Value, ∃ s4 : Int × (List UInt8), S'' = ⟨[(11, .val (.int .i64 s4.1)), (10, .val (.int .i64 (a0.fCells.length : Int))), (9, .sl 5 (List.map e_cell_Cell a0.fCells)), (5, .val y3), (4, .val (.slice none 0 0)), (1, .val (.pointer (some ⟨b0, 0, none⟩)))], [.var b0 [.val v1] 142, .row v1 (List.map byteD a1) 1 5, .row y3 (List.map byteD s4.2) 1 5], 28⟩ ∧ iter (row_Row_Print.l1 a0 a1) n s4 = some t1) n5 ?_ ?_
 · exact ⟨_, Gst.trans (Gst.only [1, 4, 5, 9, 10, 11] rfl) (Gst.nilRow (ow := [.var b0 [.val v1] 142, .row v1 (List.map byteD a1) 1 5]) 1 5 rfl), (.slice none 0 0), (0, []), rfl, n10⟩
 rintro n5 _ ⟨_, g, y3, s4, rfl, i9⟩
 refine T.ghost g ?_
 obtain ⟨m6, q7, rfl, q8, i9⟩ := iter_succ i9
 unfold row_Row_Print.l1 at q8
 refine T.seq ?_
 refine T.region ?_
 refine TL.op1 (OpR.pure rfl) rfl ?_
 refine TL.nil ?_
 show T X _ _ _
 refine T.seq ?_
 rcases ite_some q8 with ⟨c12, q8⟩ | ⟨c12, q8⟩
 rotate_left
 · refine T.condF rfl (decide_eq_false c12) ?_
   refine T.exit ?_
   obtain rfl := Option.some.inj q8
   obtain rfl : _ = _ := i9
   exact ⟨_, Gst.only [4, 5] rfl, y3, rfl⟩
 refine T.condT rfl (decide_eq_true c12) ?_
 refine T.skip ?_
 show T X _ _ _
 refine T.seq ?_
 refine T.block ?_
 refine T.seq ?_
 refine T.region ?_
 refine TL.op1 (OpR.pure rfl) rfl ?_
 obtain ⟨x13, hx13, q8⟩ := bnd_some q8
 refine TL.op1 (OpR.indexM e_cell_Cell hx13 rfl rfl rfl rfl rfl) rfl ?_
 refine TL.op1 (OpR.pure rfl) rfl ?_
 refine TL.op (OpR.alloc rfl rfl (fun _ => rfl)) rfl (fun p14 => ?_)
 refine TL.op1 (OpR.pure rfl) rfl ?_
 refine TL.op0 (OpR.store 3 rfl rfl rfl rfl rfl rfl rfl rfl) ?_
 refine TL.nil ?_
 show T X _ _ _
 refine T.seq ?_
 refine T.seq ?_
 refine T.region ?_
 refine TL.op1 (OpR.pure rfl) rfl ?_
 refine TL.op1 (OpR.pure rfl) rfl ?_
 refine TL.nil ?_
 show T X _ _ _
 obtain ⟨t15, ht15, q8⟩ := bnd_some q8
 refine T.cutC (fun S' => ∃ y16 : Value, S' = ⟨[(11, .val (.int .i64 s4.1)), (10, .val (.int .i64 (a0.fCells.length : Int))), (9, .sl 5 (List.map e_cell_Cell a0.fCells)), (7, .val (.pointer (some ⟨(blk p14), 0, none⟩))), (5, .val y16), (4, .val (.slice none 0 0)), (1, .val (.pointer (some ⟨b0, 0, none⟩)))], [.var b0 [.val v1] 142, .row v1 (List.map byteD a1) 1 5, .row y16 (List.map byteD t15) 1 5, .var (blk p14) [.sl 2 (List.map e_arena_Span x13.fText.fL), .val (.int .i64 x13.fText.fN), .val (.int .i64 x13.fRaw.fAt), .val (.int .i64 x13.fRaw.fN), .val (.bool x13.fKept)] 108], 28⟩) (fun _ h => h) ?_ ?_
 · rcases ite_some ht15 with ⟨c17, ht15⟩ | ⟨c17, ht15⟩
   rotate_left
   · refine T.condF rfl (decide_eq_false c17) ?_
     refine T.skip ?_
     obtain rfl := Option.some.inj ht15
     exact ⟨_, Gst.only [1, 4, 5, 7, 9, 10, 11] rfl, y3, rfl⟩
   refine T.condT rfl (decide_eq_true c17) ?_
   refine T.region ?_
   refine TL.op1 (OpR.pure rfl) rfl ?_
   refine TL.op1 (OpR.lit rfl rfl rfl rfl rfl rfl rfl) rfl ?_
   obtain ⟨x18, hx18, ht15⟩ := bnd_some ht15
   refine TL.op (OpR.appendM (m := [44]) byteD 2 hx18 rfl rfl rfl rfl rfl rfl rfl rfl rfl (fun _ => rfl)) rfl (fun v19 => ?_)
   refine TL.op1 (OpR.pure rfl) rfl ?_
   refine TL.nil ?_
   obtain rfl := Option.some.inj ht15
   exact ⟨_, Gst.only [1, 4, 5, 7, 9, 10, 11] rfl, v19, rfl⟩
 rintro _ ⟨y16, rfl⟩
 show T X _ _ _
 refine T.region ?_
 refine TL.op1 (OpR.pure rfl) rfl ?_
 refine TL.op1 (OpR.loadPtr 3 rfl rfl rfl rfl) rfl ?_
 refine TL.op1 (OpR.pure rfl) rfl ?_
 obtain ⟨x20, hx20, q8⟩ := bnd_some q8
 refine TL.op1 (OpR.call [0, 1] fn72 (cell_Cell_Print_c hx20) rfl rfl rfl (fun _ => rfl)) rfl ?_
 obtain ⟨x21, hx21, q8⟩ := bnd_some q8
 refine TL.op (OpR.appendM (m := x20) byteD 2 hx21 rfl rfl rfl rfl rfl rfl rfl rfl rfl (fun _ => rfl)) rfl (fun v22 => ?_)
 refine TL.op1 (OpR.pure rfl) rfl ?_
 refine TL.nil ?_
 show T X _ _ _
 refine T.region ?_
 refine TL.op1 (OpR.pure rfl) rfl ?_
 refine TL.op1 (OpR.pure rfl) rfl ?_
 refine TL.nil ?_
 obtain rfl := Option.some.inj q8
 exact ⟨m6, Nat.lt_succ_self _, _, Gst.trans (Gst.only [1, 4, 5, 9, 10, 11] rfl) (Gst.pick [0, 1, 2] rfl rfl), v22, (w64 (s4.1 + 1), x21), rfl, i9⟩
end Go.Proofs.Ytbcbggdgkdfciaa.S
