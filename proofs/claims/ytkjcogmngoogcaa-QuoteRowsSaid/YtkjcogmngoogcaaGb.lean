/- Printed by a program of this session's own (gen.py): Lean functions for Go functions, and the proofs that the Go code comes to their answers. -/
import Derived.Test.YtkjcogmngoogcaaGa
set_option linter.unusedVariables false
set_option linter.unusedSimpArgs false
namespace Go.Proofs.Ytkjcogmngoogcaa.S
open Go Go.Sm
attribute [local irreducible] T TL OpR CallT iter loop
theorem fn54 : IsFn X 54 := ⟨Try.f54, Try.func54, by kernel_rfl, rfl⟩
noncomputable def scan_One (a0 : List UInt8) (a1 : Int) : Option (scan_Row × Int) :=
  bnd (if a1 < 0 then
    some true
  else
    bnd (scan_reader_done a0 a1) fun x5 =>
    some x5 : Option Bool) fun t3 =>
  if t3 = true then
    some ((⟨[], 0⟩ : scan_Row), a1)
  else
    bnd (scan_reader_row a0 a1) fun x7 =>
    some (x7.1, x7.2)
set_option maxHeartbeats 4000000 in
theorem scan_One_c {a0 : List UInt8} {a1 : Int} {res : scan_Row × Int} (h0 : scan_One a0 a1 = some res) : CallF X 54 [.sl 1 (List.map byteD a0), .val (.int .i64 a1)] [] (fun x => .tup [.agg [.sl 4 (List.map e_scan_Field res.1.fFields), .val (.int .i64 res.1.fEnd)], .val (.int .i64 res.2)]) (fun x => []) := by
  unfold scan_One at h0
  refine CallF.mkG (X := X) Try.func54 rfl rfl Try.ntmps54 rfl rfl ?_
  refine T.seq ?_
  refine T.region ?_
  refine TL.op (OpR.alloc rfl rfl (fun _ => rfl)) rfl (fun p1 => ?_)
  refine TL.op1 (OpR.pure rfl) rfl ?_
  refine TL.nil ?_
  show T X _ _ _
  refine T.seq ?_
  refine T.region ?_
  refine TL.op1 (OpR.pure rfl) rfl ?_
  refine TL.op1 (OpR.pure rfl) rfl ?_
  refine TL.op1 (OpR.build rfl rfl rfl rfl rfl) rfl ?_
  refine TL.op (OpR.boxVar rfl rfl (fun _ => rfl)) rfl (fun p2 => ?_)
  refine TL.op1 (OpR.pure rfl) rfl ?_
  refine TL.nil ?_
  show T X _ _ _
  refine T.seq ?_
  refine T.seq ?_
  obtain ⟨t3, ht3, h0⟩ := bnd_some h0
  refine T.cutC (fun S' => S' = ⟨[(17, .val (.bool t3)), (6, .val (.pointer (some ⟨(blk p2), 0, none⟩))), (5, .val (.int .i64 0)), (4, .val (.pointer (some ⟨(blk p1), 0, none⟩))), (1, .val (.int .i64 a1))], [.var (blk p1) [.val (.slice none 0 0), .val (.int .i64 0)] 48, .var (blk p2) [.sl 1 (List.map byteD a0), .val (.int .i64 a1)] 121], 27⟩) (fun _ h => h) ?_ ?_
  · refine T.region ?_
    refine TL.op1 (OpR.pure rfl) rfl ?_
    refine TL.op1 (OpR.pure rfl) rfl ?_
    refine TL.op1 (OpR.pure rfl) rfl ?_
    rcases ite_some ht3 with ⟨c4, ht3⟩ | ⟨c4, ht3⟩
    · refine TL.off rfl rfl rfl rfl (decide_eq_true c4) rfl rfl ?_
      refine TL.off rfl rfl rfl rfl (decide_eq_true c4) rfl rfl ?_
      refine TL.op1 (OpR.pickT rfl (decide_eq_true c4) rfl) rfl ?_
      refine TL.nil ?_
      obtain rfl := Option.some.inj ht3
      exact ⟨_, Gst.only [1, 4, 5, 6, 17] rfl, rfl⟩
    · refine TL.on rfl rfl rfl rfl (decide_eq_false c4) ?_
      refine TL.op1 (OpR.pure rfl) rfl ?_
      refine TL.on rfl rfl rfl rfl (decide_eq_false c4) ?_
      obtain ⟨x5, hx5, ht3⟩ := bnd_some ht3
      refine TL.op1 (OpR.call [1] fn63 (scan_reader_done_c hx5) rfl rfl rfl (fun _ => rfl)) rfl ?_
      refine TL.op1 (OpR.pickF rfl (decide_eq_false c4) rfl) rfl ?_
      refine TL.nil ?_
      obtain rfl := Option.some.inj ht3
      exact ⟨_, Gst.only [1, 4, 5, 6, 17] rfl, rfl⟩
  · rintro _ rfl
    show T X _ _ _
    rcases ite_some h0 with ⟨c6, h0⟩ | ⟨c6, h0⟩
    · refine T.condT rfl (c6) ?_
      refine T.seq ?_
      refine T.region ?_
      refine TL.op1 (OpR.build rfl rfl rfl rfl rfl) rfl ?_
      refine TL.op1 (OpR.pure rfl) rfl ?_
      refine TL.op0 (OpR.store 0 rfl rfl rfl rfl rfl rfl rfl rfl) ?_
      refine TL.op1 (OpR.pure rfl) rfl ?_
      refine TL.nil ?_
      show T X _ _ _
      refine T.ret ?_
      obtain rfl := Option.some.inj h0
      exact PostG.retP (ks := []) (Gst.trans (Gst.only [4, 5] rfl) (Gst.trans (Gst.denil (ReS.cons Re.refl (ReS.cons Re.refl ReS.nil)) (ReO.var (ReL.cons (Re.base .nil) (ReL.cons Re.refl ReL.nil)) (ReO.same ReO.nil))) (Gst.pick [0] rfl rfl))) undef (ResL.cons (ResV.var 0 rfl rfl rfl rfl) (ResL.cons (ResV.tmp rfl) ResL.nil)) rfl rfl rfl rfl
    · refine T.condF rfl (eq_false_of_ne_true c6) ?_
      refine T.skip ?_
      show T X _ _ _
      refine T.seq ?_
      refine T.region ?_
      refine TL.op1 (OpR.pure rfl) rfl ?_
      obtain ⟨x7, hx7, h0⟩ := bnd_some h0
      refine TL.op1 (OpR.call [1] fn64 (scan_reader_row_c hx7) rfl rfl rfl (fun _ => rfl)) rfl ?_
      refine TL.op (OpR.alloc rfl rfl (fun _ => rfl)) rfl (fun p8 => ?_)
      refine TL.op0 (OpR.store 2 rfl rfl rfl rfl rfl rfl rfl rfl) ?_
      refine TL.nil ?_
      show T X _ _ _
      refine T.seq ?_
      refine T.drawS drawsX (fun env9 => [.agg [.sl 4 (List.map e_scan_Field x7.1.fFields), .val (.int .i64 x7.1.fEnd)], .val (.pointer (some ⟨(blk p2), 0, none⟩)), .val (.pointer (some ⟨(blk p2), 0, none⟩)), .val (.pointer (some ⟨(blk p2), 1, none⟩)), .val (.int .i64 x7.2), .dead, .val (.int .i64 x7.2)]) (fun D env9 => [(bif D 5 then .var (blk p1) [.sl 4 (List.map e_scan_Field x7.1.fFields), .val (.int .i64 x7.1.fEnd)] 48 else .var (blk p1) [.val (.slice none 0 0), .val (.int .i64 0)] 48), .var (blk p2) [.sl 1 (List.map byteD a0), .val (.int .i64 x7.2)] 121, .var (blk p8) [.sl 4 (List.map e_scan_Field x7.1.fFields), .val (.int .i64 x7.1.fEnd)] 48]) [0, 0, 2, 6, 14, 1, 63] [1, 4, 5, 6, 7, 17, 20, 21, 22, 23, 24, 25, 26] (fun env9 => [.var (blk p1) [.sl 4 (List.map e_scan_Field x7.1.fFields), .val (.int .i64 x7.1.fEnd)] 48, .var (blk p2) [.sl 1 (List.map byteD a0), .val (.int .i64 x7.2)] 121, .var (blk p8) [.sl 4 (List.map e_scan_Field x7.1.fFields), .val (.int .i64 x7.1.fEnd)] 48]) (by decide +kernel) (by decide +kernel) (fun _ => rfl) (fun _ => rfl) ?_ (fun _ => rfl) (fun _ => rfl) ?_
      · refine OpsS.cons' true ?_ (fun _ _ _ _ _ _ _ => rfl) ?_
        · intro D env9 hA
          have e5 : D 5 = false := hA.no 5 _ rfl rfl
          exact OpS.yes (o0 := [.var (blk p1) [.val (.slice none 0 0), .val (.int .i64 0)] 48, .var (blk p2) [.sl 1 (List.map byteD a0), .val (.int .i64 x7.2)] 121, .var (blk p8) [.sl 4 (List.map e_scan_Field x7.1.fFields), .val (.int .i64 x7.1.fEnd)] 48]) (o1 := fun x => [.var (blk p1) [.val (.slice none 0 0), .val (.int .i64 0)] 48, .var (blk p2) [.sl 1 (List.map byteD a0), .val (.int .i64 x7.2)] 121, .var (blk p8) [.sl 4 (List.map e_scan_Field x7.1.fFields), .val (.int .i64 x7.1.fEnd)] 48]) (d := fun x => .agg [.sl 4 (List.map e_scan_Field x7.1.fFields), .val (.int .i64 x7.1.fEnd)]) (Want.plain rfl) (by first | rfl | simp only [e5, cond_true, cond_false, List.cons_append, List.nil_append, List.append_nil]) (fun x => by first | rfl | simp only [ins_self, ins_ne D (show 0 ≠ 5 by decide), upd_self, e5, cond_true, cond_false, List.cons_append, List.nil_append, List.append_nil]) (fun x => rfl) (OpR.loadPtr 2 rfl rfl rfl rfl)
        refine OpsS.cons' true ?_ (fun _ _ _ _ _ _ _ => rfl) ?_
        · intro D env9 hA
          rcases Bool.eq_false_or_eq_true (D 5) with e5 | e5
          · exact OpS.yes (o0 := [.var (blk p1) [.sl 4 (List.map e_scan_Field x7.1.fFields), .val (.int .i64 x7.1.fEnd)] 48, .var (blk p2) [.sl 1 (List.map byteD a0), .val (.int .i64 x7.2)] 121, .var (blk p8) [.sl 4 (List.map e_scan_Field x7.1.fFields), .val (.int .i64 x7.1.fEnd)] 48]) (o1 := fun x => [.var (blk p1) [.sl 4 (List.map e_scan_Field x7.1.fFields), .val (.int .i64 x7.1.fEnd)] 48, .var (blk p2) [.sl 1 (List.map byteD a0), .val (.int .i64 x7.2)] 121, .var (blk p8) [.sl 4 (List.map e_scan_Field x7.1.fFields), .val (.int .i64 x7.1.fEnd)] 48]) (d := fun x => .val (.pointer (some ⟨(blk p2), 0, none⟩))) (Want.plain rfl) (by first | rfl | simp only [e5, cond_true, cond_false, List.cons_append, List.nil_append, List.append_nil]) (fun x => by first | rfl | simp only [ins_self, ins_ne D (show 1 ≠ 5 by decide), upd_self, e5, cond_true, cond_false, List.cons_append, List.nil_append, List.append_nil]) (fun x => rfl) (OpR.pure rfl)
          · exact OpS.yes (o0 := [.var (blk p1) [.val (.slice none 0 0), .val (.int .i64 0)] 48, .var (blk p2) [.sl 1 (List.map byteD a0), .val (.int .i64 x7.2)] 121, .var (blk p8) [.sl 4 (List.map e_scan_Field x7.1.fFields), .val (.int .i64 x7.1.fEnd)] 48]) (o1 := fun x => [.var (blk p1) [.val (.slice none 0 0), .val (.int .i64 0)] 48, .var (blk p2) [.sl 1 (List.map byteD a0), .val (.int .i64 x7.2)] 121, .var (blk p8) [.sl 4 (List.map e_scan_Field x7.1.fFields), .val (.int .i64 x7.1.fEnd)] 48]) (d := fun x => .val (.pointer (some ⟨(blk p2), 0, none⟩))) (Want.plain rfl) (by first | rfl | simp only [e5, cond_true, cond_false, List.cons_append, List.nil_append, List.append_nil]) (fun x => by first | rfl | simp only [ins_self, ins_ne D (show 1 ≠ 5 by decide), upd_self, e5, cond_true, cond_false, List.cons_append, List.nil_append, List.append_nil]) (fun x => rfl) (OpR.pure rfl)
        refine OpsS.cons' true ?_ (fun _ _ _ _ _ _ _ => rfl) ?_
        · intro D env9 hA
          rcases Bool.eq_false_or_eq_true (D 5) with e5 | e5
          · exact OpS.yes (o0 := [.var (blk p1) [.sl 4 (List.map e_scan_Field x7.1.fFields), .val (.int .i64 x7.1.fEnd)] 48, .var (blk p2) [.sl 1 (List.map byteD a0), .val (.int .i64 x7.2)] 121, .var (blk p8) [.sl 4 (List.map e_scan_Field x7.1.fFields), .val (.int .i64 x7.1.fEnd)] 48]) (o1 := fun x => [.var (blk p1) [.sl 4 (List.map e_scan_Field x7.1.fFields), .val (.int .i64 x7.1.fEnd)] 48, .var (blk p2) [.sl 1 (List.map byteD a0), .val (.int .i64 x7.2)] 121, .var (blk p8) [.sl 4 (List.map e_scan_Field x7.1.fFields), .val (.int .i64 x7.1.fEnd)] 48]) (d := fun x => .val (.pointer (some ⟨(blk p2), 0, none⟩))) (Want.plain rfl) (by first | rfl | simp only [e5, cond_true, cond_false, List.cons_append, List.nil_append, List.append_nil]) (fun x => by first | rfl | simp only [ins_self, ins_ne D (show 2 ≠ 5 by decide), upd_self, e5, cond_true, cond_false, List.cons_append, List.nil_append, List.append_nil]) (fun x => rfl) (OpR.pure rfl)
          · exact OpS.yes (o0 := [.var (blk p1) [.val (.slice none 0 0), .val (.int .i64 0)] 48, .var (blk p2) [.sl 1 (List.map byteD a0), .val (.int .i64 x7.2)] 121, .var (blk p8) [.sl 4 (List.map e_scan_Field x7.1.fFields), .val (.int .i64 x7.1.fEnd)] 48]) (o1 := fun x => [.var (blk p1) [.val (.slice none 0 0), .val (.int .i64 0)] 48, .var (blk p2) [.sl 1 (List.map byteD a0), .val (.int .i64 x7.2)] 121, .var (blk p8) [.sl 4 (List.map e_scan_Field x7.1.fFields), .val (.int .i64 x7.1.fEnd)] 48]) (d := fun x => .val (.pointer (some ⟨(blk p2), 0, none⟩))) (Want.plain rfl) (by first | rfl | simp only [e5, cond_true, cond_false, List.cons_append, List.nil_append, List.append_nil]) (fun x => by first | rfl | simp only [ins_self, ins_ne D (show 2 ≠ 5 by decide), upd_self, e5, cond_true, cond_false, List.cons_append, List.nil_append, List.append_nil]) (fun x => rfl) (OpR.pure rfl)
        refine OpsS.cons' true ?_ (fun _ _ _ _ _ _ _ => rfl) ?_
        · intro D env9 hA
          rcases Bool.eq_false_or_eq_true (D 5) with e5 | e5
          · exact OpS.yes (o0 := [.var (blk p1) [.sl 4 (List.map e_scan_Field x7.1.fFields), .val (.int .i64 x7.1.fEnd)] 48, .var (blk p2) [.sl 1 (List.map byteD a0), .val (.int .i64 x7.2)] 121, .var (blk p8) [.sl 4 (List.map e_scan_Field x7.1.fFields), .val (.int .i64 x7.1.fEnd)] 48]) (o1 := fun x => [.var (blk p1) [.sl 4 (List.map e_scan_Field x7.1.fFields), .val (.int .i64 x7.1.fEnd)] 48, .var (blk p2) [.sl 1 (List.map byteD a0), .val (.int .i64 x7.2)] 121, .var (blk p8) [.sl 4 (List.map e_scan_Field x7.1.fFields), .val (.int .i64 x7.1.fEnd)] 48]) (d := fun x => .val (.pointer (some ⟨(blk p2), 1, none⟩))) (Want.plain rfl) (by first | rfl | simp only [e5, cond_true, cond_false, List.cons_append, List.nil_append, List.append_nil]) (fun x => by first | rfl | simp only [ins_self, ins_ne D (show 3 ≠ 5 by decide), upd_self, e5, cond_true, cond_false, List.cons_append, List.nil_append, List.append_nil]) (fun x => rfl) (OpR.pure rfl)
          · exact OpS.yes (o0 := [.var (blk p1) [.val (.slice none 0 0), .val (.int .i64 0)] 48, .var (blk p2) [.sl 1 (List.map byteD a0), .val (.int .i64 x7.2)] 121, .var (blk p8) [.sl 4 (List.map e_scan_Field x7.1.fFields), .val (.int .i64 x7.1.fEnd)] 48]) (o1 := fun x => [.var (blk p1) [.val (.slice none 0 0), .val (.int .i64 0)] 48, .var (blk p2) [.sl 1 (List.map byteD a0), .val (.int .i64 x7.2)] 121, .var (blk p8) [.sl 4 (List.map e_scan_Field x7.1.fFields), .val (.int .i64 x7.1.fEnd)] 48]) (d := fun x => .val (.pointer (some ⟨(blk p2), 1, none⟩))) (Want.plain rfl) (by first | rfl | simp only [e5, cond_true, cond_false, List.cons_append, List.nil_append, List.append_nil]) (fun x => by first | rfl | simp only [ins_self, ins_ne D (show 3 ≠ 5 by decide), upd_self, e5, cond_true, cond_false, List.cons_append, List.nil_append, List.append_nil]) (fun x => rfl) (OpR.pure rfl)
        refine OpsS.cons' true ?_ (fun _ _ _ _ _ _ _ => rfl) ?_
        · intro D env9 hA
          rcases Bool.eq_false_or_eq_true (D 5) with e5 | e5
          · exact OpS.yes (o0 := [.var (blk p1) [.sl 4 (List.map e_scan_Field x7.1.fFields), .val (.int .i64 x7.1.fEnd)] 48, .var (blk p2) [.sl 1 (List.map byteD a0), .val (.int .i64 x7.2)] 121, .var (blk p8) [.sl 4 (List.map e_scan_Field x7.1.fFields), .val (.int .i64 x7.1.fEnd)] 48]) (o1 := fun x => [.var (blk p1) [.sl 4 (List.map e_scan_Field x7.1.fFields), .val (.int .i64 x7.1.fEnd)] 48, .var (blk p2) [.sl 1 (List.map byteD a0), .val (.int .i64 x7.2)] 121, .var (blk p8) [.sl 4 (List.map e_scan_Field x7.1.fFields), .val (.int .i64 x7.1.fEnd)] 48]) (d := fun x => .val (.int .i64 x7.2)) (Want.plain rfl) (by first | rfl | simp only [e5, cond_true, cond_false, List.cons_append, List.nil_append, List.append_nil]) (fun x => by first | rfl | simp only [ins_self, ins_ne D (show 4 ≠ 5 by decide), upd_self, e5, cond_true, cond_false, List.cons_append, List.nil_append, List.append_nil]) (fun x => rfl) (OpR.loadPtr 1 rfl rfl rfl rfl)
          · exact OpS.yes (o0 := [.var (blk p1) [.val (.slice none 0 0), .val (.int .i64 0)] 48, .var (blk p2) [.sl 1 (List.map byteD a0), .val (.int .i64 x7.2)] 121, .var (blk p8) [.sl 4 (List.map e_scan_Field x7.1.fFields), .val (.int .i64 x7.1.fEnd)] 48]) (o1 := fun x => [.var (blk p1) [.val (.slice none 0 0), .val (.int .i64 0)] 48, .var (blk p2) [.sl 1 (List.map byteD a0), .val (.int .i64 x7.2)] 121, .var (blk p8) [.sl 4 (List.map e_scan_Field x7.1.fFields), .val (.int .i64 x7.1.fEnd)] 48]) (d := fun x => .val (.int .i64 x7.2)) (Want.plain rfl) (by first | rfl | simp only [e5, cond_true, cond_false, List.cons_append, List.nil_append, List.append_nil]) (fun x => by first | rfl | simp only [ins_self, ins_ne D (show 4 ≠ 5 by decide), upd_self, e5, cond_true, cond_false, List.cons_append, List.nil_append, List.append_nil]) (fun x => rfl) (OpR.loadPtr 1 rfl rfl rfl rfl)
        refine OpsS.cons' true ?_ (fun _ _ _ _ _ _ _ => rfl) ?_
        · intro D env9 hA
          exact OpS.yes (o0 := [.var (blk p1) [.val (.slice none 0 0), .val (.int .i64 0)] 48, .var (blk p2) [.sl 1 (List.map byteD a0), .val (.int .i64 x7.2)] 121, .var (blk p8) [.sl 4 (List.map e_scan_Field x7.1.fFields), .val (.int .i64 x7.1.fEnd)] 48]) (o1 := fun x => [.var (blk p1) [.sl 4 (List.map e_scan_Field x7.1.fFields), .val (.int .i64 x7.1.fEnd)] 48, .var (blk p2) [.sl 1 (List.map byteD a0), .val (.int .i64 x7.2)] 121, .var (blk p8) [.sl 4 (List.map e_scan_Field x7.1.fFields), .val (.int .i64 x7.1.fEnd)] 48]) (d := fun x => .dead) (Want.plain rfl) (by first | rfl | simp only [hA.me, cond_true, cond_false, List.cons_append, List.nil_append, List.append_nil]) (fun x => by first | rfl | simp only [ins_self, upd_self, hA.me, cond_true, cond_false, List.cons_append, List.nil_append, List.append_nil]) (fun x => rfl) (OpR.store 0 rfl rfl rfl rfl rfl rfl rfl rfl)
        refine OpsS.cons' true ?_ (fun _ _ _ _ _ _ _ => rfl) ?_
        · intro D env9 hA
          have e5 : D 5 = true := hA.yes 5 _ rfl rfl
          exact OpS.yes (o0 := [.var (blk p1) [.sl 4 (List.map e_scan_Field x7.1.fFields), .val (.int .i64 x7.1.fEnd)] 48, .var (blk p2) [.sl 1 (List.map byteD a0), .val (.int .i64 x7.2)] 121, .var (blk p8) [.sl 4 (List.map e_scan_Field x7.1.fFields), .val (.int .i64 x7.1.fEnd)] 48]) (o1 := fun x => [.var (blk p1) [.sl 4 (List.map e_scan_Field x7.1.fFields), .val (.int .i64 x7.1.fEnd)] 48, .var (blk p2) [.sl 1 (List.map byteD a0), .val (.int .i64 x7.2)] 121, .var (blk p8) [.sl 4 (List.map e_scan_Field x7.1.fFields), .val (.int .i64 x7.1.fEnd)] 48]) (d := fun x => .val (.int .i64 x7.2)) (Want.plain rfl) (by first | rfl | simp only [e5, cond_true, cond_false, List.cons_append, List.nil_append, List.append_nil]) (fun x => by first | rfl | simp only [ins_self, ins_ne D (show 6 ≠ 5 by decide), upd_self, e5, cond_true, cond_false, List.cons_append, List.nil_append, List.append_nil]) (fun x => rfl) (OpR.pure rfl)
        exact trivial
      · intro env9
        show T X _ _ _
        refine T.ret ?_
        obtain rfl := Option.some.inj h0
        exact PostG.retP (ks := []) (Gst.trans (Gst.only [4, 5] rfl) (Gst.pick [0] rfl rfl)) undef (ResL.cons (ResV.var 0 rfl rfl rfl rfl) (ResL.cons (ResV.tmp rfl) ResL.nil)) rfl rfl rfl rfl
theorem fn30 : IsFn X 30 := ⟨Try.f30, Try.func30, by kernel_rfl, rfl⟩
noncomputable def scan_Value.l1 (a0 : List UInt8) (a1 : scan_Field) (s4 : Int × (List UInt8)) : Option (Lp (Int × (List UInt8)) (List UInt8)) :=
  if s4.1 < (a1.fParts.length : Int) then
    bnd (idx a1.fParts s4.1) fun x13 =>
    bnd (if x13.fAt ≥ 0 then
      if x13.fN ≥ 0 then
        if x13.fAt ≤ (a0.length : Int) then
          some (decide (x13.fN ≤ (w64 ((a0.length : Int) - x13.fAt))))
        else
          some false
      else
        some false
    else
      some false : Option Bool) fun t15 =>
    bnd (if t15 = true then
      bnd (cut a0 x13.fAt (w64 (x13.fAt + x13.fN))) fun x22 =>
      bnd (app 1 s4.2 x22) fun x23 =>
      some x23
    else
      some s4.2 : Option (List UInt8)) fun t19 =>
    some (Lp.next (w64 (s4.1 + 1), t19))
  else
    some (Lp.done s4.2)
noncomputable def scan_Value (a0 : List UInt8) (a1 : scan_Field) : Option (List UInt8) :=
  bnd (loop (scan_Value.l1 a0 a1) (0, []) : Option (List UInt8)) fun t1 =>
  some t1
set_option maxHeartbeats 4000000 in
theorem scan_Value_c {a0 : List UInt8} {a1 : scan_Field} {res : (List UInt8)} (h0 : scan_Value a0 a1 = some res) : CallF X 30 [.sl 1 (List.map byteD a0), .agg [.val (.int .i64 a1.fRaw.fAt), .val (.int .i64 a1.fRaw.fN), .val (.int .i64 a1.fKind), .sl 2 (List.map e_arena_Span a1.fParts)]] [] (fun x => .sl 1 (List.map byteD res)) (fun x => []) := by
  unfold scan_Value at h0
  refine CallF.mkG (X := X) Try.func30 rfl rfl Try.ntmps30 rfl rfl ?_
  refine T.seq ?_
  refine T.region ?_
  refine TL.op1 (OpR.boxImm rfl rfl) rfl ?_
  refine TL.op1 (OpR.pure rfl) rfl ?_
  refine TL.nil ?_
  show T X _ _ _
  refine T.seq ?_
  refine T.region ?_
  refine TL.op1 (OpR.pure rfl) rfl ?_
  refine TL.nil ?_
  show T X _ _ _
  refine T.seq ?_
  refine T.seq ?_
  refine T.region ?_
  refine TL.op1 (OpR.pure rfl) rfl ?_
  refine TL.op1 (OpR.pure rfl) rfl ?_
  refine TL.op1 (OpR.cast (OpR.pure rfl) (intE (lenM _ _))) rfl ?_
  refine TL.op1 (OpR.pure rfl) rfl ?_
  refine TL.nil ?_
  show T X _ _ _
  obtain ⟨t1, ht1, h0⟩ := bnd_some h0
  refine T.cutC (fun S' => ∃ y2 : Value, S' = ⟨[(5, .val y2), (4, .val (.slice none 0 0))], [.row y2 (List.map byteD t1) 1 5], 53⟩) (fun _ h => h) ?_ ?_
  · refine T.block ?_
    obtain ⟨n5, n10⟩ := loop_some ht1
    refine T.loop (fun n S' => ∃ S'', Gst S' S'' ∧ ∃ y3 : Value, ∃ s4 : Int × (List UInt8), S'' = ⟨[(11, .val (.int .i64 s4.1)), (10, .val (.int .i64 (a1.fParts.length : Int))), (9, .sl 2 (List.map e_arena_Span a1.fParts)), (5, .val y3), (4, .val (.slice none 0 0)), (0, .sl 1 (List.map byteD a0))], [.row y3 (List.map byteD s4.2) 1 5], 53⟩ ∧ iter (scan_Value.l1 a0 a1) n s4 = some t1) n5 ?_ ?_
    · exact ⟨_, Gst.trans (Gst.only [0, 4, 5, 9, 10, 11] rfl) (Gst.nilRow (ow := []) 1 5 rfl), (.slice none 0 0), (0, []), rfl, n10⟩
    rintro n5 _ ⟨_, g, y3, s4, rfl, i9⟩
    refine T.ghost g ?_
    obtain ⟨m6, q7, rfl, q8, i9⟩ := iter_succ i9
    unfold scan_Value.l1 at q8
    refine T.seq ?_
    refine T.region ?_
    refine TL.op1 (OpR.pure rfl) rfl ?_
    refine TL.nil ?_
    show T X _ _ _
    refine T.seq ?_
    rcases ite_some q8 with ⟨c12, q8⟩ | ⟨c12, q8⟩
    · refine T.condT rfl (decide_eq_true c12) ?_
      refine T.skip ?_
      show T X _ _ _
      refine T.seq ?_
      refine T.block ?_
      refine T.seq ?_
      refine T.region ?_
      obtain ⟨x13, hx13, q8⟩ := bnd_some q8
      refine TL.op1 (OpR.indexM e_arena_Span hx13 rfl rfl rfl rfl rfl) rfl ?_
      refine TL.op1 (OpR.pure rfl) rfl ?_
      refine TL.op (OpR.alloc rfl rfl (fun _ => rfl)) rfl (fun p14 => ?_)
      refine TL.op0 (OpR.store 1 rfl rfl rfl rfl rfl rfl rfl rfl) ?_
      refine TL.nil ?_
      show T X _ _ _
      refine T.seq ?_
      obtain ⟨t15, ht15, q8⟩ := bnd_some q8
      refine T.cutC (fun S' => S' = ⟨[(39, .val (.bool t15)), (11, .val (.int .i64 s4.1)), (10, .val (.int .i64 (a1.fParts.length : Int))), (9, .sl 2 (List.map e_arena_Span a1.fParts)), (7, .val (.pointer (some ⟨(blk p14), 0, none⟩))), (5, .val y3), (4, .val (.slice none 0 0)), (0, .sl 1 (List.map byteD a0))], [.row y3 (List.map byteD s4.2) 1 5, .var (blk p14) [.val (.int .i64 x13.fAt), .val (.int .i64 x13.fN)] 50], 53⟩) (fun _ h => h) ?_ ?_
      · refine T.region ?_
        refine TL.op1 (OpR.pure rfl) rfl ?_
        refine TL.op1 (OpR.loadPtr 1 rfl rfl rfl rfl) rfl ?_
        refine TL.op1 (OpR.pure rfl) rfl ?_
        refine TL.op1 (OpR.pure rfl) rfl ?_
        rcases ite_some ht15 with ⟨c16, ht15⟩ | ⟨c16, ht15⟩
        · refine TL.on rfl rfl rfl rfl (decide_eq_true c16) ?_
          refine TL.op1 (OpR.pure rfl) rfl ?_
          refine TL.on rfl rfl rfl rfl (decide_eq_true c16) ?_
          refine TL.op1 (OpR.loadPtr 1 rfl rfl rfl rfl) rfl ?_
          refine TL.on rfl rfl rfl rfl (decide_eq_true c16) ?_
          refine TL.op1 (OpR.pure rfl) rfl ?_
          refine TL.op1 (OpR.pickT rfl (decide_eq_true c16) rfl) rfl ?_
          refine TL.op1 (OpR.pure rfl) rfl ?_
          rcases ite_some ht15 with ⟨c17, ht15⟩ | ⟨c17, ht15⟩
          · refine TL.on rfl rfl rfl rfl (decide_eq_true c17) ?_
            refine TL.op1 (OpR.pure rfl) rfl ?_
            refine TL.on rfl rfl rfl rfl (decide_eq_true c17) ?_
            refine TL.op1 (OpR.loadPtr 1 rfl rfl rfl rfl) rfl ?_
            refine TL.on rfl rfl rfl rfl (decide_eq_true c17) ?_
            refine TL.op1 (OpR.pure rfl) rfl ?_
            refine TL.on rfl rfl rfl rfl (decide_eq_true c17) ?_
            refine TL.op1 (OpR.cast (OpR.pure rfl) (intE (lenM _ _))) rfl ?_
            refine TL.on rfl rfl rfl rfl (decide_eq_true c17) ?_
            refine TL.op1 (OpR.pure rfl) rfl ?_
            refine TL.op1 (OpR.pickT rfl (decide_eq_true c17) rfl) rfl ?_
            refine TL.op1 (OpR.pure rfl) rfl ?_
            rcases ite_some ht15 with ⟨c18, ht15⟩ | ⟨c18, ht15⟩
            · refine TL.on rfl rfl rfl rfl (decide_eq_true c18) ?_
              refine TL.op1 (OpR.pure rfl) rfl ?_
              refine TL.on rfl rfl rfl rfl (decide_eq_true c18) ?_
              refine TL.op1 (OpR.loadPtr 1 rfl rfl rfl rfl) rfl ?_
              refine TL.on rfl rfl rfl rfl (decide_eq_true c18) ?_
              refine TL.op1 (OpR.pure rfl) rfl ?_
              refine TL.on rfl rfl rfl rfl (decide_eq_true c18) ?_
              refine TL.op1 (OpR.cast (OpR.pure rfl) (intE (lenM _ _))) rfl ?_
              refine TL.on rfl rfl rfl rfl (decide_eq_true c18) ?_
              refine TL.op1 (OpR.pure rfl) rfl ?_
              refine TL.on rfl rfl rfl rfl (decide_eq_true c18) ?_
              refine TL.op1 (OpR.loadPtr 1 rfl rfl rfl rfl) rfl ?_
              refine TL.on rfl rfl rfl rfl (decide_eq_true c18) ?_
              refine TL.op1 (OpR.pure rfl) rfl ?_
              refine TL.on rfl rfl rfl rfl (decide_eq_true c18) ?_
              refine TL.op1 (OpR.pure rfl) rfl ?_
              refine TL.op1 (OpR.pickT rfl (decide_eq_true c18) rfl) rfl ?_
              refine TL.nil ?_
              obtain rfl := Option.some.inj ht15
              exact ⟨_, Gst.only [0, 4, 5, 7, 9, 10, 11, 39] rfl, rfl⟩
            · refine TL.off rfl rfl rfl rfl (decide_eq_false c18) rfl rfl ?_
              refine TL.off rfl rfl rfl rfl (decide_eq_false c18) rfl rfl ?_
              refine TL.off rfl rfl rfl rfl (decide_eq_false c18) rfl rfl ?_
              refine TL.off rfl rfl rfl rfl (decide_eq_false c18) rfl rfl ?_
              refine TL.off rfl rfl rfl rfl (decide_eq_false c18) rfl rfl ?_
              refine TL.off rfl rfl rfl rfl (decide_eq_false c18) rfl rfl ?_
              refine TL.off rfl rfl rfl rfl (decide_eq_false c18) rfl rfl ?_
              refine TL.off rfl rfl rfl rfl (decide_eq_false c18) rfl rfl ?_
              refine TL.op1 (OpR.pickF rfl (decide_eq_false c18) rfl) rfl ?_
              refine TL.nil ?_
              obtain rfl := Option.some.inj ht15
              exact ⟨_, Gst.only [0, 4, 5, 7, 9, 10, 11, 39] rfl, rfl⟩
          · refine TL.off rfl rfl rfl rfl (decide_eq_false c17) rfl rfl ?_
            refine TL.off rfl rfl rfl rfl (decide_eq_false c17) rfl rfl ?_
            refine TL.off rfl rfl rfl rfl (decide_eq_false c17) rfl rfl ?_
            refine TL.off rfl rfl rfl rfl (decide_eq_false c17) rfl rfl ?_
            refine TL.off rfl rfl rfl rfl (decide_eq_false c17) rfl rfl ?_
            refine TL.op1 (OpR.pickF rfl (decide_eq_false c17) rfl) rfl ?_
            refine TL.op1 (OpR.pure rfl) rfl ?_
            refine TL.off rfl rfl rfl rfl rfl rfl rfl ?_
            refine TL.off rfl rfl rfl rfl rfl rfl rfl ?_
            refine TL.off rfl rfl rfl rfl rfl rfl rfl ?_
            refine TL.off rfl rfl rfl rfl rfl rfl rfl ?_
            refine TL.off rfl rfl rfl rfl rfl rfl rfl ?_
            refine TL.off rfl rfl rfl rfl rfl rfl rfl ?_
            refine TL.off rfl rfl rfl rfl rfl rfl rfl ?_
            refine TL.off rfl rfl rfl rfl rfl rfl rfl ?_
            refine TL.op1 (OpR.pickF rfl rfl rfl) rfl ?_
            refine TL.nil ?_
            obtain rfl := Option.some.inj ht15
            exact ⟨_, Gst.only [0, 4, 5, 7, 9, 10, 11, 39] rfl, rfl⟩
        · refine TL.off rfl rfl rfl rfl (decide_eq_false c16) rfl rfl ?_
          refine TL.off rfl rfl rfl rfl (decide_eq_false c16) rfl rfl ?_
          refine TL.off rfl rfl rfl rfl (decide_eq_false c16) rfl rfl ?_
          refine TL.op1 (OpR.pickF rfl (decide_eq_false c16) rfl) rfl ?_
          refine TL.op1 (OpR.pure rfl) rfl ?_
          refine TL.off rfl rfl rfl rfl rfl rfl rfl ?_
          refine TL.off rfl rfl rfl rfl rfl rfl rfl ?_
          refine TL.off rfl rfl rfl rfl rfl rfl rfl ?_
          refine TL.off rfl rfl rfl rfl rfl rfl rfl ?_
          refine TL.off rfl rfl rfl rfl rfl rfl rfl ?_
          refine TL.op1 (OpR.pickF rfl rfl rfl) rfl ?_
          refine TL.op1 (OpR.pure rfl) rfl ?_
          refine TL.off rfl rfl rfl rfl rfl rfl rfl ?_
          refine TL.off rfl rfl rfl rfl rfl rfl rfl ?_
          refine TL.off rfl rfl rfl rfl rfl rfl rfl ?_
          refine TL.off rfl rfl rfl rfl rfl rfl rfl ?_
          refine TL.off rfl rfl rfl rfl rfl rfl rfl ?_
          refine TL.off rfl rfl rfl rfl rfl rfl rfl ?_
          refine TL.off rfl rfl rfl rfl rfl rfl rfl ?_
          refine TL.off rfl rfl rfl rfl rfl rfl rfl ?_
          refine TL.op1 (OpR.pickF rfl rfl rfl) rfl ?_
          refine TL.nil ?_
          obtain rfl := Option.some.inj ht15
          exact ⟨_, Gst.only [0, 4, 5, 7, 9, 10, 11, 39] rfl, rfl⟩
      · rintro _ rfl
        show T X _ _ _
        obtain ⟨t19, ht19, q8⟩ := bnd_some q8
        refine T.cutC (fun S' => ∃ y20 : Value, S' = ⟨[(11, .val (.int .i64 s4.1)), (10, .val (.int .i64 (a1.fParts.length : Int))), (9, .sl 2 (List.map e_arena_Span a1.fParts)), (5, .val y20), (4, .val (.slice none 0 0)), (0, .sl 1 (List.map byteD a0))], [.row y20 (List.map byteD t19) 1 5], 53⟩) (fun _ h => h) ?_ ?_
        · rcases ite_some ht19 with ⟨c21, ht19⟩ | ⟨c21, ht19⟩
          · refine T.condT rfl (c21) ?_
            refine T.region ?_
            refine TL.op1 (OpR.pure rfl) rfl ?_
            refine TL.op1 (OpR.pure rfl) rfl ?_
            refine TL.op1 (OpR.pure rfl) rfl ?_
            refine TL.op1 (OpR.loadPtr 1 rfl rfl rfl rfl) rfl ?_
            refine TL.op1 (OpR.pure rfl) rfl ?_
            refine TL.op1 (OpR.loadPtr 1 rfl rfl rfl rfl) rfl ?_
            refine TL.op1 (OpR.pure rfl) rfl ?_
            refine TL.op1 (OpR.loadPtr 1 rfl rfl rfl rfl) rfl ?_
            refine TL.op1 (OpR.pure rfl) rfl ?_
            obtain ⟨x22, hx22, ht19⟩ := bnd_some ht19
            refine TL.op1 (OpR.sliceM (sz := 1) byteD hx22 rfl rfl rfl rfl (BdM.some rfl) (BdM.some rfl) rfl) rfl ?_
            obtain ⟨x23, hx23, ht19⟩ := bnd_some ht19
            refine TL.op (OpR.appendM (m := x22) byteD 0 hx23 rfl rfl rfl rfl rfl rfl rfl rfl rfl (fun _ => rfl)) rfl (fun v24 => ?_)
            refine TL.op1 (OpR.pure rfl) rfl ?_
            refine TL.nil ?_
            obtain rfl := Option.some.inj ht19
            exact ⟨_, Gst.trans (Gst.only [0, 4, 5, 9, 10, 11] rfl) (Gst.pick [0] rfl rfl), v24, rfl⟩
          · refine T.condF rfl (eq_false_of_ne_true c21) ?_
            refine T.skip ?_
            obtain rfl := Option.some.inj ht19
            exact ⟨_, Gst.trans (Gst.only [0, 4, 5, 9, 10, 11] rfl) (Gst.pick [0] rfl rfl), y3, rfl⟩
        · rintro _ ⟨y20, rfl⟩
          show T X _ _ _
          refine T.region ?_
          refine TL.op1 (OpR.pure rfl) rfl ?_
          refine TL.op1 (OpR.pure rfl) rfl ?_
          refine TL.nil ?_
          obtain rfl := Option.some.inj q8
          exact ⟨m6, Nat.lt_succ_self _, _, Gst.only [0, 4, 5, 9, 10, 11] rfl, y20, (w64 (s4.1 + 1), t19), rfl, i9⟩
    · refine T.condF rfl (decide_eq_false c12) ?_
      refine T.exit ?_
      obtain rfl := Option.some.inj q8
      obtain rfl : _ = _ := i9
      exact ⟨_, Gst.only [4, 5] rfl, y3, rfl⟩
  · rintro _ ⟨y2, rfl⟩
    show T X _ _ _
    refine T.seq ?_
    refine T.region ?_
    refine TL.op1 (OpR.pure rfl) rfl ?_
    refine TL.op1 (OpR.pure rfl) rfl ?_
    refine TL.nil ?_
    show T X _ _ _
    refine T.ret ?_
    obtain rfl := Option.some.inj h0
    exact PostG.retP (ks := []) (Gst.trans (Gst.only [4] rfl) (Gst.trans (Gst.freezeRow 0 rfl rfl (ReS.cons (Re.base .all) ReS.nil) (ReO.same ReO.nil)) (Gst.pick [] rfl rfl))) undef (ResL.cons (ResV.tmp rfl) ResL.nil) rfl rfl rfl rfl
theorem fn21 : IsFn X 21 := ⟨Try.f21, Try.func21, by kernel_rfl, rfl⟩
noncomputable def quote_Read (a0 : List UInt8) : Option ((List UInt8) × Int) :=
  bnd (scan_One a0 0) fun x1 =>
  if (x1.1.fFields.length : Int) = 0 then
    some ([], 0)
  else
    bnd (idx x1.1.fFields 0) fun x4 =>
    bnd (scan_Value a0 x4) fun x7 =>
    some (x7, x4.fKind)
set_option maxHeartbeats 4000000 in
theorem quote_Read_c {a0 : List UInt8} {res : (List UInt8) × Int} (h0 : quote_Read a0 = some res) : CallF X 21 [.sl 1 (List.map byteD a0)] [] (fun x => .tup [.sl 1 (List.map byteD res.1), .val (.int .i64 res.2)]) (fun x => []) := by
  unfold quote_Read at h0
  refine CallF.mkG (X := X) Try.func21 rfl rfl Try.ntmps21 rfl rfl ?_
  refine T.seq ?_
  refine T.region ?_
  refine TL.op1 (OpR.pure rfl) rfl ?_
  refine TL.op1 (OpR.pure rfl) rfl ?_
  refine TL.nil ?_
  show T X _ _ _
  refine T.seq ?_
  refine T.region ?_
  refine TL.op1 (OpR.pure rfl) rfl ?_
  obtain ⟨x1, hx1, h0⟩ := bnd_some h0
  refine TL.op1 (OpR.call0 fn54 (scan_One_c hx1) rfl) rfl ?_
  refine TL.op1 (OpR.pure rfl) rfl ?_
  refine TL.op1 (OpR.pure rfl) rfl ?_
  refine TL.op1 (OpR.pure rfl) rfl ?_
  refine TL.op (OpR.alloc rfl rfl (fun _ => rfl)) rfl (fun p2 => ?_)
  refine TL.op0 (OpR.store 0 rfl rfl rfl rfl rfl rfl rfl rfl) ?_
  refine TL.op1 (OpR.pure rfl) rfl ?_
  refine TL.nil ?_
  show T X _ _ _
  refine T.seq ?_
  refine T.seq ?_
  refine T.region ?_
  refine TL.op1 (OpR.pure rfl) rfl ?_
  refine TL.op1 (OpR.loadPtr 0 rfl rfl rfl rfl) rfl ?_
  refine TL.op1 (OpR.cast (OpR.pure rfl) (intE (lenM _ _))) rfl ?_
  refine TL.op1 (OpR.pure rfl) rfl ?_
  refine TL.nil ?_
  show T X _ _ _
  rcases ite_some h0 with ⟨c3, h0⟩ | ⟨c3, h0⟩
  · refine T.condT rfl (beq_iff_eq.2 c3) ?_
    refine T.seq ?_
    refine T.region ?_
    refine TL.op1 (OpR.pure rfl) rfl ?_
    refine TL.op1 (OpR.pure rfl) rfl ?_
    refine TL.nil ?_
    show T X _ _ _
    refine T.ret ?_
    obtain rfl := Option.some.inj h0
    exact PostG.retP (ks := []) (Gst.trans (Gst.only [2, 3] rfl) (Gst.trans (Gst.denil (ReS.cons Re.refl (ReS.cons (Re.base .nil) ReS.nil)) (ReO.same ReO.nil)) (Gst.pick [] rfl rfl))) undef (ResL.cons (ResV.tmp rfl) (ResL.cons (ResV.tmp rfl) ResL.nil)) rfl rfl rfl rfl
  · refine T.condF rfl (beq_eq_false_iff_ne.2 c3) ?_
    refine T.skip ?_
    show T X _ _ _
    refine T.seq ?_
    refine T.region ?_
    refine TL.op1 (OpR.pure rfl) rfl ?_
    refine TL.op1 (OpR.loadPtr 0 rfl rfl rfl rfl) rfl ?_
    obtain ⟨x4, hx4, h0⟩ := bnd_some h0
    refine TL.op1 (OpR.indexM e_scan_Field hx4 rfl rfl rfl rfl rfl) rfl ?_
    refine TL.op1 (OpR.pure rfl) rfl ?_
    refine TL.op (OpR.alloc rfl rfl (fun _ => rfl)) rfl (fun p5 => ?_)
    refine TL.op0 (OpR.store 1 rfl rfl rfl rfl rfl rfl rfl rfl) ?_
    refine TL.nil ?_
    show T X _ _ _
    refine T.seq ?_
    obtain ⟨x7, hx7, h0⟩ := bnd_some h0
    refine T.drawQ drawsX [.sl 1 (List.map byteD a0), .agg [.val (.int .i64 x4.fRaw.fAt), .val (.int .i64 x4.fRaw.fN), .val (.int .i64 x4.fKind), .sl 2 (List.map e_arena_Span x4.fParts)], .sl 1 (List.map byteD x7), .val (.pointer (some ⟨(blk p5), 2, none⟩)), .val (.int .i64 x4.fKind), .sl 1 (List.map byteD x7), .val (.int .i64 x4.fKind)] [0, 2, 3, 4, 5, 6, 7, 8, 9, 10, 11, 12, 13, 14, 15, 16, 17, 18, 19, 20, 21, 22, 23, 24] (by decide +kernel) rfl ?_ rfl ?_
    · refine OpsQ.yes (Want.plain rfl) rfl (OpR.pure rfl) ?_
      refine OpsQ.yes (Want.plain rfl) rfl (OpR.loadPtr 1 rfl rfl rfl rfl) ?_
      refine OpsQ.yes (Want.plain rfl) rfl (OpR.call0 fn30 (scan_Value_c hx7) rfl) ?_
      refine OpsQ.yes (Want.plain rfl) rfl (OpR.pure rfl) ?_
      refine OpsQ.yes (Want.plain rfl) rfl (OpR.loadPtr 1 rfl rfl rfl rfl) ?_
      refine OpsQ.yes (Want.plain rfl) rfl (OpR.pure rfl) ?_
      refine OpsQ.yes (Want.plain rfl) rfl (OpR.pure rfl) ?_
      exact OpsQ.nil
    · show T X _ _ _
      refine T.ret ?_
      obtain rfl := Option.some.inj h0
      exact PostG.retP (ks := []) (Gst.trans (Gst.only [2, 3] rfl) (Gst.pick [] rfl rfl)) undef (ResL.cons (ResV.tmp rfl) (ResL.cons (ResV.tmp rfl) ResL.nil)) rfl rfl rfl rfl
theorem fn62 : IsFn X 62 := ⟨Try.f62, Try.func62, by kernel_rfl, rfl⟩
noncomputable def quote_step (a0 : Int) (a1 : UInt8) : Option Int :=
  bnd (quote_class a1) fun x1 =>
  bnd (if a0 = 2 then
    if x1 = 2 then
      some (Ex.ret 3)
    else
      some (Ex.ret 2)
  else
    if a0 = 4 then
      if x1 = 4 then
        some (Ex.ret 0)
      else
        some (Ex.ret 5)
    else
      if a0 = 0 then
        if x1 = 2 then
          some (Ex.ret 2)
        else
          if x1 = 0 then
            some (Ex.ret 1)
          else
            if x1 = 1 then
              some (Ex.ret 0)
            else
              if x1 = 3 then
                some (Ex.ret 4)
              else
                some (Ex.brk ())
      else
        if a0 = 1 then
          if x1 = 0 then
            some (Ex.ret 1)
          else
            if x1 = 1 then
              some (Ex.ret 0)
            else
              if x1 = 3 then
                some (Ex.ret 4)
              else
                bnd (if x1 = 2 then
                  some (a0 == 3)
                else
                  some false : Option Bool) fun t17 =>
                if t17 = true then
                  some (Ex.ret 2)
                else
                  some (Ex.brk ())
        else
          if a0 = 3 then
            if x1 = 1 then
              some (Ex.ret 0)
            else
              if x1 = 3 then
                some (Ex.ret 4)
              else
                bnd (if x1 = 2 then
                  some (a0 == 3)
                else
                  some false : Option Bool) fun t23 =>
                if t23 = true then
                  some (Ex.ret 2)
                else
                  some (Ex.brk ())
          else
            some (Ex.brk ()) : Option (Ex Unit Int)) fun t2 => match t2 with
    | .brk u3 =>
      some 5
    | .ret u3 => some u3
set_option maxHeartbeats 4000000 in
theorem quote_step_c {a0 : Int} {a1 : UInt8} {res : Int} (h0 : quote_step a0 a1 = some res) : CallF X 62 [.val (.int .i64 a0), .val (.int .u8 (a1.toNat : Int))] [] (fun x => .val (.int .i64 res)) (fun x => []) := by
  unfold quote_step at h0
  refine CallF.mkG (X := X) Try.func62 rfl rfl Try.ntmps62 rfl rfl ?_
  refine T.seq ?_
  refine T.region ?_
  refine TL.op1 (OpR.pure rfl) rfl ?_
  refine TL.nil ?_
  show T X _ _ _
  refine T.seq ?_
  refine T.region ?_
  refine TL.op1 (OpR.pure rfl) rfl ?_
  obtain ⟨x1, hx1, h0⟩ := bnd_some h0
  refine TL.op1 (OpR.call0 fn59 (quote_class_c hx1) rfl) rfl ?_
  refine TL.op1 (OpR.pure rfl) rfl ?_
  refine TL.nil ?_
  show T X _ _ _
  refine T.seq ?_
  refine T.seq ?_
  refine T.region ?_
  refine TL.op1 (OpR.pure rfl) rfl ?_
  refine TL.nil ?_
  show T X _ _ _
  obtain ⟨t2, ht2, h0⟩ := bnd_some h0
  refine T.cutC (fun S' => ∃ u3, t2 = Ex.brk u3 ∧ S' = ⟨[(4, .val (.int .i64 0))], [], 40⟩) (fun _ h => h) ?_ ?_
  · refine T.block ?_
    refine T.seq ?_
    refine T.block ?_
    refine T.seq ?_
    refine T.block ?_
    refine T.seq ?_
    refine T.block ?_
    refine T.seq ?_
    refine T.block ?_
    refine T.seq ?_
    refine T.block ?_
    refine T.seq ?_
    refine T.seq ?_
    refine T.seq ?_
    refine T.region ?_
    refine TL.op1 (OpR.pure rfl) rfl ?_
    refine TL.op1 (OpR.pure rfl) rfl ?_
    refine TL.nil ?_
    show T X _ _ _
    rcases ite_some ht2 with ⟨c4, ht2⟩ | ⟨c4, ht2⟩
    · refine T.condT rfl (beq_iff_eq.2 c4) ?_
      refine T.exit ?_
      show T X _ _ _
      refine T.seq ?_
      refine T.seq ?_
      refine T.seq ?_
      refine T.region ?_
      refine TL.op1 (OpR.pure rfl) rfl ?_
      refine TL.op1 (OpR.pure rfl) rfl ?_
      refine TL.nil ?_
      show T X _ _ _
      rcases ite_some ht2 with ⟨c5, ht2⟩ | ⟨c5, ht2⟩
      · refine T.condT rfl (beq_iff_eq.2 c5) ?_
        refine T.seq ?_
        refine T.region ?_
        refine TL.op1 (OpR.pure rfl) rfl ?_
        refine TL.nil ?_
        show T X _ _ _
        refine T.ret ?_
        obtain rfl := Option.some.inj ht2
        obtain rfl := Option.some.inj h0
        exact PostG.retP (ks := []) (Gst.only [4] rfl) undef (ResL.cons (ResV.tmp rfl) ResL.nil) rfl rfl rfl rfl
      · refine T.condF rfl (beq_eq_false_iff_ne.2 c5) ?_
        refine T.skip ?_
        show T X _ _ _
        refine T.seq ?_
        refine T.region ?_
        refine TL.op1 (OpR.pure rfl) rfl ?_
        refine TL.nil ?_
        show T X _ _ _
        refine T.ret ?_
        obtain rfl := Option.some.inj ht2
        obtain rfl := Option.some.inj h0
        exact PostG.retP (ks := []) (Gst.only [4] rfl) undef (ResL.cons (ResV.tmp rfl) ResL.nil) rfl rfl rfl rfl
    · refine T.condF rfl (beq_eq_false_iff_ne.2 c4) ?_
      refine T.skip ?_
      show T X _ _ _
      refine T.seq ?_
      refine T.seq ?_
      refine T.region ?_
      refine TL.op1 (OpR.pure rfl) rfl ?_
      refine TL.op1 (OpR.pure rfl) rfl ?_
      refine TL.nil ?_
      show T X _ _ _
      rcases ite_some ht2 with ⟨c6, ht2⟩ | ⟨c6, ht2⟩
      · refine T.condT rfl (beq_iff_eq.2 c6) ?_
        refine T.exit ?_
        show T X _ _ _
        refine T.seq ?_
        refine T.seq ?_
        refine T.seq ?_
        refine T.region ?_
        refine TL.op1 (OpR.pure rfl) rfl ?_
        refine TL.op1 (OpR.pure rfl) rfl ?_
        refine TL.nil ?_
        show T X _ _ _
        rcases ite_some ht2 with ⟨c7, ht2⟩ | ⟨c7, ht2⟩
        · refine T.condT rfl (beq_iff_eq.2 c7) ?_
          refine T.seq ?_
          refine T.region ?_
          refine TL.op1 (OpR.pure rfl) rfl ?_
          refine TL.nil ?_
          show T X _ _ _
          refine T.ret ?_
          obtain rfl := Option.some.inj ht2
          obtain rfl := Option.some.inj h0
          exact PostG.retP (ks := []) (Gst.only [4] rfl) undef (ResL.cons (ResV.tmp rfl) ResL.nil) rfl rfl rfl rfl
        · refine T.condF rfl (beq_eq_false_iff_ne.2 c7) ?_
          refine T.skip ?_
          show T X _ _ _
          refine T.seq ?_
          refine T.region ?_
          refine TL.op1 (OpR.pure rfl) rfl ?_
          refine TL.nil ?_
          show T X _ _ _
          refine T.ret ?_
          obtain rfl := Option.some.inj ht2
          obtain rfl := Option.some.inj h0
          exact PostG.retP (ks := []) (Gst.only [4] rfl) undef (ResL.cons (ResV.tmp rfl) ResL.nil) rfl rfl rfl rfl
      · refine T.condF rfl (beq_eq_false_iff_ne.2 c6) ?_
        refine T.skip ?_
        show T X _ _ _
        refine T.seq ?_
        refine T.seq ?_
        refine T.region ?_
        refine TL.op1 (OpR.pure rfl) rfl ?_
        refine TL.op1 (OpR.pure rfl) rfl ?_
        refine TL.nil ?_
        show T X _ _ _
        rcases ite_some ht2 with ⟨c8, ht2⟩ | ⟨c8, ht2⟩
        · refine T.condT rfl (beq_iff_eq.2 c8) ?_
          refine T.exit ?_
          show T X _ _ _
          refine T.seq ?_
          refine T.region ?_
          refine TL.op1 (OpR.pure rfl) rfl ?_
          refine TL.op1 (OpR.pure rfl) rfl ?_
          refine TL.nil ?_
          show T X _ _ _
          rcases ite_some ht2 with ⟨c9, ht2⟩ | ⟨c9, ht2⟩
          · refine T.condT rfl (beq_iff_eq.2 c9) ?_
            refine T.seq ?_
            refine T.region ?_
            refine TL.op1 (OpR.pure rfl) rfl ?_
            refine TL.nil ?_
            show T X _ _ _
            refine T.ret ?_
            obtain rfl := Option.some.inj ht2
            obtain rfl := Option.some.inj h0
            exact PostG.retP (ks := []) (Gst.only [4] rfl) undef (ResL.cons (ResV.tmp rfl) ResL.nil) rfl rfl rfl rfl
          · refine T.condF rfl (beq_eq_false_iff_ne.2 c9) ?_
            refine T.skip ?_
            show T X _ _ _
            refine T.seq ?_
            refine T.region ?_
            refine TL.op1 (OpR.pure rfl) rfl ?_
            refine TL.op1 (OpR.pure rfl) rfl ?_
            refine TL.nil ?_
            show T X _ _ _
            rcases ite_some ht2 with ⟨c10, ht2⟩ | ⟨c10, ht2⟩
            · refine T.condT rfl (beq_iff_eq.2 c10) ?_
              refine T.seq ?_
              refine T.region ?_
              refine TL.op1 (OpR.pure rfl) rfl ?_
              refine TL.nil ?_
              show T X _ _ _
              refine T.ret ?_
              obtain rfl := Option.some.inj ht2
              obtain rfl := Option.some.inj h0
              exact PostG.retP (ks := []) (Gst.only [4] rfl) undef (ResL.cons (ResV.tmp rfl) ResL.nil) rfl rfl rfl rfl
            · refine T.condF rfl (beq_eq_false_iff_ne.2 c10) ?_
              refine T.skip ?_
              show T X _ _ _
              refine T.seq ?_
              refine T.block ?_
              refine T.seq ?_
              refine T.region ?_
              refine TL.op1 (OpR.pure rfl) rfl ?_
              refine TL.op1 (OpR.pure rfl) rfl ?_
              refine TL.op1 (OpR.pure rfl) rfl ?_
              refine TL.nil ?_
              show T X _ _ _
              rcases ite_some ht2 with ⟨c11, ht2⟩ | ⟨c11, ht2⟩
              · refine T.condT rfl (beq_iff_eq.2 c11) ?_
                refine T.seq ?_
                refine T.region ?_
                refine TL.op1 (OpR.pure rfl) rfl ?_
                refine TL.nil ?_
                show T X _ _ _
                refine T.ret ?_
                obtain rfl := Option.some.inj ht2
                obtain rfl := Option.some.inj h0
                exact PostG.retP (ks := []) (Gst.only [4] rfl) undef (ResL.cons (ResV.tmp rfl) ResL.nil) rfl rfl rfl rfl
              · refine T.condF rfl (beq_eq_false_iff_ne.2 c11) ?_
                refine T.seq ?_
                refine T.region ?_
                refine TL.op1 (OpR.pure rfl) rfl ?_
                refine TL.op1 (OpR.pure rfl) rfl ?_
                refine TL.op1 (OpR.pure rfl) rfl ?_
                refine TL.nil ?_
                show T X _ _ _
                rcases ite_some ht2 with ⟨c12, ht2⟩ | ⟨c12, ht2⟩
                · refine T.condT rfl (beq_iff_eq.2 c12) ?_
                  refine T.seq ?_
                  refine T.region ?_
                  refine TL.op1 (OpR.pure rfl) rfl ?_
                  refine TL.nil ?_
                  show T X _ _ _
                  refine T.ret ?_
                  obtain rfl := Option.some.inj ht2
                  obtain rfl := Option.some.inj h0
                  exact PostG.retP (ks := []) (Gst.only [4] rfl) undef (ResL.cons (ResV.tmp rfl) ResL.nil) rfl rfl rfl rfl
                · refine T.condF rfl (beq_eq_false_iff_ne.2 c12) ?_
                  refine T.seq ?_
                  refine T.region ?_
                  refine TL.op1 (OpR.pure rfl) rfl ?_
                  refine TL.op1 (OpR.pure rfl) rfl ?_
                  refine TL.op1 (OpR.pure rfl) rfl ?_
                  refine TL.off rfl rfl rfl rfl (beq_eq_false_iff_ne.2 c9) rfl rfl ?_
                  refine TL.off rfl rfl rfl rfl (beq_eq_false_iff_ne.2 c9) rfl rfl ?_
                  refine TL.op1 (OpR.pickF rfl (beq_eq_false_iff_ne.2 c9) rfl) rfl ?_
                  refine TL.op1 (OpR.pure rfl) rfl ?_
                  refine TL.nil ?_
                  show T X _ _ _
                  refine T.condF rfl rfl ?_
                  refine T.skip ?_
                  show T X _ _ _
                  refine T.exit ?_
                  obtain rfl := Option.some.inj ht2
                  exact ⟨_, Gst.only [4] rfl, _, rfl, rfl⟩
        · refine T.condF rfl (beq_eq_false_iff_ne.2 c8) ?_
          refine T.skip ?_
          show T X _ _ _
          refine T.seq ?_
          refine T.seq ?_
          refine T.region ?_
          refine TL.op1 (OpR.pure rfl) rfl ?_
          refine TL.op1 (OpR.pure rfl) rfl ?_
          refine TL.nil ?_
          show T X _ _ _
          rcases ite_some ht2 with ⟨c13, ht2⟩ | ⟨c13, ht2⟩
          · refine T.condT rfl (beq_iff_eq.2 c13) ?_
            refine T.exit ?_
            show T X _ _ _
            refine T.seq ?_
            refine T.region ?_
            refine TL.op1 (OpR.pure rfl) rfl ?_
            refine TL.op1 (OpR.pure rfl) rfl ?_
            refine TL.nil ?_
            show T X _ _ _
            rcases ite_some ht2 with ⟨c14, ht2⟩ | ⟨c14, ht2⟩
            · refine T.condT rfl (beq_iff_eq.2 c14) ?_
              refine T.seq ?_
              refine T.region ?_
              refine TL.op1 (OpR.pure rfl) rfl ?_
              refine TL.nil ?_
              show T X _ _ _
              refine T.ret ?_
              obtain rfl := Option.some.inj ht2
              obtain rfl := Option.some.inj h0
              exact PostG.retP (ks := []) (Gst.only [4] rfl) undef (ResL.cons (ResV.tmp rfl) ResL.nil) rfl rfl rfl rfl
            · refine T.condF rfl (beq_eq_false_iff_ne.2 c14) ?_
              refine T.skip ?_
              show T X _ _ _
              refine T.seq ?_
              refine T.block ?_
              refine T.seq ?_
              refine T.region ?_
              refine TL.op1 (OpR.pure rfl) rfl ?_
              refine TL.op1 (OpR.pure rfl) rfl ?_
              refine TL.op1 (OpR.pure rfl) rfl ?_
              refine TL.nil ?_
              show T X _ _ _
              rcases ite_some ht2 with ⟨c15, ht2⟩ | ⟨c15, ht2⟩
              · refine T.condT rfl (beq_iff_eq.2 c15) ?_
                refine T.seq ?_
                refine T.region ?_
                refine TL.op1 (OpR.pure rfl) rfl ?_
                refine TL.nil ?_
                show T X _ _ _
                refine T.ret ?_
                obtain rfl := Option.some.inj ht2
                obtain rfl := Option.some.inj h0
                exact PostG.retP (ks := []) (Gst.only [4] rfl) undef (ResL.cons (ResV.tmp rfl) ResL.nil) rfl rfl rfl rfl
              · refine T.condF rfl (beq_eq_false_iff_ne.2 c15) ?_
                refine T.seq ?_
                refine T.region ?_
                refine TL.op1 (OpR.pure rfl) rfl ?_
                refine TL.op1 (OpR.pure rfl) rfl ?_
                refine TL.op1 (OpR.pure rfl) rfl ?_
                refine TL.nil ?_
                show T X _ _ _
                rcases ite_some ht2 with ⟨c16, ht2⟩ | ⟨c16, ht2⟩
                · refine T.condT rfl (beq_iff_eq.2 c16) ?_
                  refine T.seq ?_
                  refine T.region ?_
                  refine TL.op1 (OpR.pure rfl) rfl ?_
                  refine TL.nil ?_
                  show T X _ _ _
                  refine T.ret ?_
                  obtain rfl := Option.some.inj ht2
                  obtain rfl := Option.some.inj h0
                  exact PostG.retP (ks := []) (Gst.only [4] rfl) undef (ResL.cons (ResV.tmp rfl) ResL.nil) rfl rfl rfl rfl
                · refine T.condF rfl (beq_eq_false_iff_ne.2 c16) ?_
                  refine T.seq ?_
                  obtain ⟨t17, ht17, ht2⟩ := bnd_some ht2
                  refine T.cutC (fun S' => S' = ⟨[(33, .val (.bool t17)), (4, .val (.int .i64 0))], [], 40⟩) (fun _ h => h) ?_ ?_
                  · refine T.region ?_
                    refine TL.op1 (OpR.pure rfl) rfl ?_
                    refine TL.op1 (OpR.pure rfl) rfl ?_
                    refine TL.op1 (OpR.pure rfl) rfl ?_
                    rcases ite_some ht17 with ⟨c18, ht17⟩ | ⟨c18, ht17⟩
                    · refine TL.on rfl rfl rfl rfl (beq_iff_eq.2 c18) ?_
                      refine TL.op1 (OpR.pure rfl) rfl ?_
                      refine TL.on rfl rfl rfl rfl (beq_iff_eq.2 c18) ?_
                      refine TL.op1 (OpR.pure rfl) rfl ?_
                      refine TL.op1 (OpR.pickT rfl (beq_iff_eq.2 c18) rfl) rfl ?_
                      refine TL.op1 (OpR.pure rfl) rfl ?_
                      refine TL.nil ?_
                      obtain rfl := Option.some.inj ht17
                      exact ⟨_, Gst.only [4, 33] rfl, rfl⟩
                    · refine TL.off rfl rfl rfl rfl (beq_eq_false_iff_ne.2 c18) rfl rfl ?_
                      refine TL.off rfl rfl rfl rfl (beq_eq_false_iff_ne.2 c18) rfl rfl ?_
                      refine TL.op1 (OpR.pickF rfl (beq_eq_false_iff_ne.2 c18) rfl) rfl ?_
                      refine TL.op1 (OpR.pure rfl) rfl ?_
                      refine TL.nil ?_
                      obtain rfl := Option.some.inj ht17
                      exact ⟨_, Gst.only [4, 33] rfl, rfl⟩
                  · rintro _ rfl
                    show T X _ _ _
                    rcases ite_some ht2 with ⟨c19, ht2⟩ | ⟨c19, ht2⟩
                    · refine T.condT rfl (c19) ?_
                      refine T.seq ?_
                      refine T.region ?_
                      refine TL.op1 (OpR.pure rfl) rfl ?_
                      refine TL.nil ?_
                      show T X _ _ _
                      refine T.ret ?_
                      obtain rfl := Option.some.inj ht2
                      obtain rfl := Option.some.inj h0
                      exact PostG.retP (ks := []) (Gst.only [4] rfl) undef (ResL.cons (ResV.tmp rfl) ResL.nil) rfl rfl rfl rfl
                    · refine T.condF rfl (eq_false_of_ne_true c19) ?_
                      refine T.skip ?_
                      show T X _ _ _
                      refine T.exit ?_
                      obtain rfl := Option.some.inj ht2
                      exact ⟨_, Gst.only [4] rfl, _, rfl, rfl⟩
          · refine T.condF rfl (beq_eq_false_iff_ne.2 c13) ?_
            refine T.skip ?_
            show T X _ _ _
            refine T.seq ?_
            refine T.region ?_
            refine TL.op1 (OpR.pure rfl) rfl ?_
            refine TL.op1 (OpR.pure rfl) rfl ?_
            refine TL.nil ?_
            show T X _ _ _
            rcases ite_some ht2 with ⟨c20, ht2⟩ | ⟨c20, ht2⟩
            · refine T.condT rfl (beq_iff_eq.2 c20) ?_
              refine T.exit ?_
              show T X _ _ _
              refine T.seq ?_
              refine T.block ?_
              refine T.seq ?_
              refine T.region ?_
              refine TL.op1 (OpR.pure rfl) rfl ?_
              refine TL.op1 (OpR.pure rfl) rfl ?_
              refine TL.op1 (OpR.pure rfl) rfl ?_
              refine TL.nil ?_
              show T X _ _ _
              rcases ite_some ht2 with ⟨c21, ht2⟩ | ⟨c21, ht2⟩
              · refine T.condT rfl (beq_iff_eq.2 c21) ?_
                refine T.seq ?_
                refine T.region ?_
                refine TL.op1 (OpR.pure rfl) rfl ?_
                refine TL.nil ?_
                show T X _ _ _
                refine T.ret ?_
                obtain rfl := Option.some.inj ht2
                obtain rfl := Option.some.inj h0
                exact PostG.retP (ks := []) (Gst.only [4] rfl) undef (ResL.cons (ResV.tmp rfl) ResL.nil) rfl rfl rfl rfl
              · refine T.condF rfl (beq_eq_false_iff_ne.2 c21) ?_
                refine T.seq ?_
                refine T.region ?_
                refine TL.op1 (OpR.pure rfl) rfl ?_
                refine TL.op1 (OpR.pure rfl) rfl ?_
                refine TL.op1 (OpR.pure rfl) rfl ?_
                refine TL.nil ?_
                show T X _ _ _
                rcases ite_some ht2 with ⟨c22, ht2⟩ | ⟨c22, ht2⟩
                · refine T.condT rfl (beq_iff_eq.2 c22) ?_
                  refine T.seq ?_
                  refine T.region ?_
                  refine TL.op1 (OpR.pure rfl) rfl ?_
                  refine TL.nil ?_
                  show T X _ _ _
                  refine T.ret ?_
                  obtain rfl := Option.some.inj ht2
                  obtain rfl := Option.some.inj h0
                  exact PostG.retP (ks := []) (Gst.only [4] rfl) undef (ResL.cons (ResV.tmp rfl) ResL.nil) rfl rfl rfl rfl
                · refine T.condF rfl (beq_eq_false_iff_ne.2 c22) ?_
                  refine T.seq ?_
                  obtain ⟨t23, ht23, ht2⟩ := bnd_some ht2
                  refine T.cutC (fun S' => S' = ⟨[(33, .val (.bool t23)), (4, .val (.int .i64 0))], [], 40⟩) (fun _ h => h) ?_ ?_
                  · refine T.region ?_
                    refine TL.op1 (OpR.pure rfl) rfl ?_
                    refine TL.op1 (OpR.pure rfl) rfl ?_
                    refine TL.op1 (OpR.pure rfl) rfl ?_
                    rcases ite_some ht23 with ⟨c24, ht23⟩ | ⟨c24, ht23⟩
                    · refine TL.on rfl rfl rfl rfl (beq_iff_eq.2 c24) ?_
                      refine TL.op1 (OpR.pure rfl) rfl ?_
                      refine TL.on rfl rfl rfl rfl (beq_iff_eq.2 c24) ?_
                      refine TL.op1 (OpR.pure rfl) rfl ?_
                      refine TL.op1 (OpR.pickT rfl (beq_iff_eq.2 c24) rfl) rfl ?_
                      refine TL.op1 (OpR.pure rfl) rfl ?_
                      refine TL.nil ?_
                      obtain rfl := Option.some.inj ht23
                      exact ⟨_, Gst.only [4, 33] rfl, rfl⟩
                    · refine TL.off rfl rfl rfl rfl (beq_eq_false_iff_ne.2 c24) rfl rfl ?_
                      refine TL.off rfl rfl rfl rfl (beq_eq_false_iff_ne.2 c24) rfl rfl ?_
                      refine TL.op1 (OpR.pickF rfl (beq_eq_false_iff_ne.2 c24) rfl) rfl ?_
                      refine TL.op1 (OpR.pure rfl) rfl ?_
                      refine TL.nil ?_
                      obtain rfl := Option.some.inj ht23
                      exact ⟨_, Gst.only [4, 33] rfl, rfl⟩
                  · rintro _ rfl
                    show T X _ _ _
                    rcases ite_some ht2 with ⟨c25, ht2⟩ | ⟨c25, ht2⟩
                    · refine T.condT rfl (c25) ?_
                      refine T.seq ?_
                      refine T.region ?_
                      refine TL.op1 (OpR.pure rfl) rfl ?_
                      refine TL.nil ?_
                      show T X _ _ _
                      refine T.ret ?_
                      obtain rfl := Option.some.inj ht2
                      obtain rfl := Option.some.inj h0
                      exact PostG.retP (ks := []) (Gst.only [4] rfl) undef (ResL.cons (ResV.tmp rfl) ResL.nil) rfl rfl rfl rfl
                    · refine T.condF rfl (eq_false_of_ne_true c25) ?_
                      refine T.skip ?_
                      show T X _ _ _
                      refine T.exit ?_
                      obtain rfl := Option.some.inj ht2
                      exact ⟨_, Gst.only [4] rfl, _, rfl, rfl⟩
            · refine T.condF rfl (beq_eq_false_iff_ne.2 c20) ?_
              refine T.skip ?_
              show T X _ _ _
              refine T.exit ?_
              obtain rfl := Option.some.inj ht2
              exact ⟨_, Gst.only [4] rfl, _, rfl, rfl⟩
  · rintro _ ⟨u3, rfl, rfl⟩
    show T X _ _ _
    refine T.seq ?_
    refine T.region ?_
    refine TL.op1 (OpR.pure rfl) rfl ?_
    refine TL.nil ?_
    show T X _ _ _
    refine T.ret ?_
    obtain rfl := Option.some.inj h0
    exact PostG.retP (ks := []) (Gst.only [4] rfl) undef (ResL.cons (ResV.tmp rfl) ResL.nil) rfl rfl rfl rfl
theorem fn25 : IsFn X 25 := ⟨Try.f25, Try.func25, by kernel_rfl, rfl⟩
noncomputable def quote_Right.l1 (a0 : List UInt8) (s2 : Int × Int) : Option (Lp (Int × Int) Int) :=
  if s2.2 < (a0.length : Int) then
    bnd (idx a0 s2.2) fun x11 =>
    bnd (quote_step s2.1 x11) fun x12 =>
    some (Lp.next (x12, w64 (s2.2 + 1)))
  else
    some (Lp.done s2.1)
noncomputable def quote_Right (a0 : List UInt8) : Option Bool :=
  bnd (loop (quote_Right.l1 a0) (0, 0) : Option Int) fun t1 =>
  bnd (idx ([true, true, false, true, false, false] : List Bool) t1) fun x14 =>
  some x14
set_option maxHeartbeats 4000000 in
theorem quote_Right_c {a0 : List UInt8} {res : Bool} (h0 : quote_Right a0 = some res) : CallF X 25 [.sl 1 (List.map byteD a0)] [] (fun x => .val (.bool res)) (fun x => []) := by
  unfold quote_Right at h0
  refine CallF.mkG (X := X) Try.func25 rfl rfl Try.ntmps25 rfl rfl ?_
  refine T.seq ?_
  refine T.region ?_
  refine TL.op1 (OpR.pure rfl) rfl ?_
  refine TL.nil ?_
  show T X _ _ _
  refine T.seq ?_
  refine T.region ?_
  refine TL.op1 (OpR.pure rfl) rfl ?_
  refine TL.nil ?_
  show T X _ _ _
  refine T.seq ?_
  refine T.seq ?_
  refine T.region ?_
  refine TL.op1 (OpR.pure rfl) rfl ?_
  refine TL.op1 (OpR.cast (OpR.pure rfl) (intE (lenM _ _))) rfl ?_
  refine TL.op1 (OpR.pure rfl) rfl ?_
  refine TL.nil ?_
  show T X _ _ _
  obtain ⟨t1, ht1, h0⟩ := bnd_some h0
  refine T.cutC (fun S' => S' = ⟨[(3, .val (.int .i64 t1)), (2, .val (.bool false))], [], 21⟩) (fun _ h => h) ?_ ?_
  · refine T.block ?_
    obtain ⟨n3, n8⟩ := loop_some ht1
    refine T.loop (fun n S' => ∃ S'', Gst S' S'' ∧ ∃ s2 : Int × Int, S'' = ⟨[(9, .val (.int .i64 s2.2)), (8, .val (.int .i64 (a0.length : Int))), (7, .sl 1 (List.map byteD a0)), (3, .val (.int .i64 s2.1)), (2, .val (.bool false))], [], 21⟩ ∧ iter (quote_Right.l1 a0) n s2 = some t1) n3 ?_ ?_
    · exact ⟨_, Gst.only [2, 3, 7, 8, 9] rfl, (0, 0), rfl, n8⟩
    rintro n3 _ ⟨_, g, s2, rfl, i7⟩
    refine T.ghost g ?_
    obtain ⟨m4, q5, rfl, q6, i7⟩ := iter_succ i7
    unfold quote_Right.l1 at q6
    refine T.seq ?_
    refine T.region ?_
    refine TL.op1 (OpR.pure rfl) rfl ?_
    refine TL.nil ?_
    show T X _ _ _
    refine T.seq ?_
    rcases ite_some q6 with ⟨c10, q6⟩ | ⟨c10, q6⟩
    · refine T.condT rfl (decide_eq_true c10) ?_
      refine T.skip ?_
      show T X _ _ _
      refine T.seq ?_
      refine T.block ?_
      refine T.seq ?_
      refine T.region ?_
      obtain ⟨x11, hx11, q6⟩ := bnd_some q6
      refine TL.op1 (OpR.indexM byteD hx11 rfl rfl rfl rfl rfl) rfl ?_
      refine TL.op1 (OpR.pure rfl) rfl ?_
      refine TL.op1 (OpR.pure rfl) rfl ?_
      refine TL.nil ?_
      show T X _ _ _
      refine T.region ?_
      refine TL.op1 (OpR.pure rfl) rfl ?_
      refine TL.op1 (OpR.pure rfl) rfl ?_
      obtain ⟨x12, hx12, q6⟩ := bnd_some q6
      refine TL.op1 (OpR.call0 fn62 (quote_step_c hx12) rfl) rfl ?_
      refine TL.op1 (OpR.pure rfl) rfl ?_
      refine TL.nil ?_
      show T X _ _ _
      refine T.region ?_
      refine TL.op1 (OpR.pure rfl) rfl ?_
      refine TL.op1 (OpR.pure rfl) rfl ?_
      refine TL.nil ?_
      obtain rfl := Option.some.inj q6
      exact ⟨m4, Nat.lt_succ_self _, _, Gst.only [2, 3, 7, 8, 9] rfl, (x12, w64 (s2.2 + 1)), rfl, i7⟩
    · refine T.condF rfl (decide_eq_false c10) ?_
      refine T.exit ?_
      obtain rfl := Option.some.inj q6
      obtain rfl : _ = _ := i7
      exact ⟨_, Gst.only [2, 3] rfl, rfl⟩
  · rintro _ rfl
    show T X _ _ _
    refine T.seq ?_
    refine T.region ?_
    refine TL.op1 (OpR.buildArr rfl rfl rfl rfl rfl rfl) rfl ?_
    refine TL.op (OpR.alloc rfl rfl (fun _ => rfl)) rfl (fun p13 => ?_)
    refine TL.op0 (OpR.store 0 rfl rfl rfl rfl rfl rfl rfl rfl) ?_
    refine TL.nil ?_
    show T X _ _ _
    refine T.seq ?_
    refine T.region ?_
    refine TL.op1 (OpR.pure rfl) rfl ?_
    obtain ⟨x14, hx14, h0⟩ := bnd_some h0
    refine TL.op1 (OpR.indexVarM (l := ([true, true, false, true, false, false] : List Bool)) hx14 rfl rfl rfl rfl rfl rfl rfl) rfl ?_
    refine TL.op1 (OpR.arrLoadM (off := 0) (sz := 1) (j := t1) (rest := []) eB 0 hx14 rfl rfl rfl (fun _ => rfl) rfl rfl) rfl ?_
    refine TL.op1 (OpR.pure rfl) rfl ?_
    refine TL.nil ?_
    show T X _ _ _
    refine T.ret ?_
    obtain rfl := Option.some.inj h0
    exact PostG.retP (ks := []) (Gst.trans (Gst.only [2] rfl) (Gst.pick [] rfl rfl)) undef (ResL.cons (ResV.tmp rfl) ResL.nil) rfl rfl rfl rfl
theorem fn20 : IsFn X 20 := ⟨Try.f20, Try.func20, by kernel_rfl, rfl⟩
noncomputable def law06_awake : Option Bool :=
  bnd (quote_Read [34, 120, 34, 121, 44, 122]) fun x2 =>
  bnd (bnd (quote_Put [97, 34, 98]) fun x5 =>
  if x5 = [34, 97, 34, 34, 98, 34] then
    if x2.1 = [120, 121] then
      if x2.2 = 3 then
        bnd (quote_Right [97, 44, 98, 13, 10, 99]) fun x10 =>
        if x10 = true then
          bnd (quote_Right [97, 10, 98]) fun x13 =>
          some (!x13)
        else
          some false
      else
        some false
    else
      some false
  else
    some false : Option Bool) fun t3 =>
  some t3
set_option maxHeartbeats 4000000 in
theorem law06_awake_c {res : Bool} (h0 : law06_awake = some res) : CallF X 20 [] [] (fun x => .val (.bool res)) (fun x => []) := by
  unfold law06_awake at h0
  refine CallF.mkG (X := X) Try.func20 rfl rfl Try.ntmps20 rfl rfl ?_
  refine T.seq ?_
  refine T.region ?_
  refine TL.op1 (OpR.pure rfl) rfl ?_
  refine TL.nil ?_
  show T X _ _ _
  refine T.seq ?_
  refine T.region ?_
  refine TL.op (OpR.litRow rfl rfl rfl rfl rfl rfl rfl rfl (fun _ => rfl)) rfl (fun v1 => ?_)
  refine TL.op1 (OpR.markRow 0 rfl rfl rfl rfl rfl rfl rfl rfl) rfl ?_
  obtain ⟨x2, hx2, h0⟩ := bnd_some h0
  refine TL.op1 (OpR.call0 fn21 (quote_Read_c hx2) rfl) rfl ?_
  refine TL.op1 (OpR.pure rfl) rfl ?_
  refine TL.op1 (OpR.pure rfl) rfl ?_
  refine TL.op1 (OpR.pure rfl) rfl ?_
  refine TL.op1 (OpR.pure rfl) rfl ?_
  refine TL.op1 (OpR.pure rfl) rfl ?_
  refine TL.nil ?_
  show T X _ _ _
  refine T.seq ?_
  obtain ⟨t3, ht3, h0⟩ := bnd_some h0
  refine T.cutC (fun S' => S' = ⟨[(0, .val (.bool t3))], [], 34⟩) (fun _ h => h) ?_ ?_
  · refine T.region ?_
    refine TL.op (OpR.litRow rfl rfl rfl rfl rfl rfl rfl rfl (fun _ => rfl)) rfl (fun v4 => ?_)
    refine TL.op1 (OpR.markRow 1 rfl rfl rfl rfl rfl rfl rfl rfl) rfl ?_
    obtain ⟨x5, hx5, ht3⟩ := bnd_some ht3
    refine TL.op1 (OpR.call0 fn18 (quote_Put_c hx5) rfl) rfl ?_
    refine TL.op1 (OpR.toStr (bs := x5) rfl rfl rfl rfl rfl rfl rfl) rfl ?_
    refine TL.op1 (OpR.cast (OpR.pure rfl) (boolE (strEq _ _))) rfl ?_
    refine TL.op1 (OpR.pure rfl) rfl ?_
    rcases ite_some ht3 with ⟨c6, ht3⟩ | ⟨c6, ht3⟩
    · refine TL.on rfl rfl rfl rfl (beq_iff_eq.2 c6) ?_
      refine TL.op1 (OpR.pure rfl) rfl ?_
      refine TL.on rfl rfl rfl rfl (beq_iff_eq.2 c6) ?_
      refine TL.op1 (OpR.toStr (bs := x2.1) rfl rfl rfl rfl rfl rfl rfl) rfl ?_
      refine TL.on rfl rfl rfl rfl (beq_iff_eq.2 c6) ?_
      refine TL.op1 (OpR.cast (OpR.pure rfl) (boolE (strEq _ _))) rfl ?_
      refine TL.op1 (OpR.pickT rfl (beq_iff_eq.2 c6) rfl) rfl ?_
      refine TL.op1 (OpR.pure rfl) rfl ?_
      rcases ite_some ht3 with ⟨c7, ht3⟩ | ⟨c7, ht3⟩
      · refine TL.on rfl rfl rfl rfl (beq_iff_eq.2 c7) ?_
        refine TL.op1 (OpR.pure rfl) rfl ?_
        refine TL.on rfl rfl rfl rfl (beq_iff_eq.2 c7) ?_
        refine TL.op1 (OpR.pure rfl) rfl ?_
        refine TL.op1 (OpR.pickT rfl (beq_iff_eq.2 c7) rfl) rfl ?_
        refine TL.op1 (OpR.pure rfl) rfl ?_
        rcases ite_some ht3 with ⟨c8, ht3⟩ | ⟨c8, ht3⟩
        · refine TL.on rfl rfl rfl rfl (beq_iff_eq.2 c8) ?_
          refine TL.op (OpR.litRow rfl rfl rfl rfl rfl rfl rfl rfl (fun _ => rfl)) rfl (fun v9 => ?_)
          refine TL.on rfl rfl rfl rfl (beq_iff_eq.2 c8) ?_
          refine TL.op1 (OpR.markRow 2 rfl rfl rfl rfl rfl rfl rfl rfl) rfl ?_
          refine TL.on rfl rfl rfl rfl (beq_iff_eq.2 c8) ?_
          obtain ⟨x10, hx10, ht3⟩ := bnd_some ht3
          refine TL.op1 (OpR.call0 fn25 (quote_Right_c hx10) rfl) rfl ?_
          refine TL.op1 (OpR.pickT rfl (beq_iff_eq.2 c8) rfl) rfl ?_
          refine TL.op1 (OpR.pure rfl) rfl ?_
          rcases ite_some ht3 with ⟨c11, ht3⟩ | ⟨c11, ht3⟩
          · refine TL.on rfl rfl rfl rfl (c11) ?_
            refine TL.op (OpR.litRow rfl rfl rfl rfl rfl rfl rfl rfl (fun _ => rfl)) rfl (fun v12 => ?_)
            refine TL.on rfl rfl rfl rfl (c11) ?_
            refine TL.op1 (OpR.markRow 3 rfl rfl rfl rfl rfl rfl rfl rfl) rfl ?_
            refine TL.on rfl rfl rfl rfl (c11) ?_
            obtain ⟨x13, hx13, ht3⟩ := bnd_some ht3
            refine TL.op1 (OpR.call0 fn25 (quote_Right_c hx13) rfl) rfl ?_
            refine TL.on rfl rfl rfl rfl (c11) ?_
            refine TL.op1 (OpR.pure rfl) rfl ?_
            refine TL.op1 (OpR.pickT rfl (c11) rfl) rfl ?_
            refine TL.op1 (OpR.pure rfl) rfl ?_
            refine TL.nil ?_
            obtain rfl := Option.some.inj ht3
            exact ⟨_, Gst.trans (Gst.only [0] rfl) (Gst.pick [] rfl rfl), rfl⟩
          · refine TL.off rfl rfl rfl rfl (eq_false_of_ne_true c11) rfl rfl ?_
            refine TL.off rfl rfl rfl rfl (eq_false_of_ne_true c11) rfl rfl ?_
            refine TL.off rfl rfl rfl rfl (eq_false_of_ne_true c11) rfl rfl ?_
            refine TL.off rfl rfl rfl rfl (eq_false_of_ne_true c11) rfl rfl ?_
            refine TL.op1 (OpR.pickF rfl (eq_false_of_ne_true c11) rfl) rfl ?_
            refine TL.op1 (OpR.pure rfl) rfl ?_
            refine TL.nil ?_
            obtain rfl := Option.some.inj ht3
            exact ⟨_, Gst.trans (Gst.only [0] rfl) (Gst.pick [] rfl rfl), rfl⟩
        · refine TL.off rfl rfl rfl rfl (beq_eq_false_iff_ne.2 c8) rfl rfl ?_
          refine TL.off rfl rfl rfl rfl (beq_eq_false_iff_ne.2 c8) rfl rfl ?_
          refine TL.off rfl rfl rfl rfl (beq_eq_false_iff_ne.2 c8) rfl rfl ?_
          refine TL.op1 (OpR.pickF rfl (beq_eq_false_iff_ne.2 c8) rfl) rfl ?_
          refine TL.op1 (OpR.pure rfl) rfl ?_
          refine TL.off rfl rfl rfl rfl rfl rfl rfl ?_
          refine TL.off rfl rfl rfl rfl rfl rfl rfl ?_
          refine TL.off rfl rfl rfl rfl rfl rfl rfl ?_
          refine TL.off rfl rfl rfl rfl rfl rfl rfl ?_
          refine TL.op1 (OpR.pickF rfl rfl rfl) rfl ?_
          refine TL.op1 (OpR.pure rfl) rfl ?_
          refine TL.nil ?_
          obtain rfl := Option.some.inj ht3
          exact ⟨_, Gst.trans (Gst.only [0] rfl) (Gst.pick [] rfl rfl), rfl⟩
      · refine TL.off rfl rfl rfl rfl (beq_eq_false_iff_ne.2 c7) rfl rfl ?_
        refine TL.off rfl rfl rfl rfl (beq_eq_false_iff_ne.2 c7) rfl rfl ?_
        refine TL.op1 (OpR.pickF rfl (beq_eq_false_iff_ne.2 c7) rfl) rfl ?_
        refine TL.op1 (OpR.pure rfl) rfl ?_
        refine TL.off rfl rfl rfl rfl rfl rfl rfl ?_
        refine TL.off rfl rfl rfl rfl rfl rfl rfl ?_
        refine TL.off rfl rfl rfl rfl rfl rfl rfl ?_
        refine TL.op1 (OpR.pickF rfl rfl rfl) rfl ?_
        refine TL.op1 (OpR.pure rfl) rfl ?_
        refine TL.off rfl rfl rfl rfl rfl rfl rfl ?_
        refine TL.off rfl rfl rfl rfl rfl rfl rfl ?_
        refine TL.off rfl rfl rfl rfl rfl rfl rfl ?_
        refine TL.off rfl rfl rfl rfl rfl rfl rfl ?_
        refine TL.op1 (OpR.pickF rfl rfl rfl) rfl ?_
        refine TL.op1 (OpR.pure rfl) rfl ?_
        refine TL.nil ?_
        obtain rfl := Option.some.inj ht3
        exact ⟨_, Gst.trans (Gst.only [0] rfl) (Gst.pick [] rfl rfl), rfl⟩
    · refine TL.off rfl rfl rfl rfl (beq_eq_false_iff_ne.2 c6) rfl rfl ?_
      refine TL.off rfl rfl rfl rfl (beq_eq_false_iff_ne.2 c6) rfl rfl ?_
      refine TL.off rfl rfl rfl rfl (beq_eq_false_iff_ne.2 c6) rfl rfl ?_
      refine TL.op1 (OpR.pickF rfl (beq_eq_false_iff_ne.2 c6) rfl) rfl ?_
      refine TL.op1 (OpR.pure rfl) rfl ?_
      refine TL.off rfl rfl rfl rfl rfl rfl rfl ?_
      refine TL.off rfl rfl rfl rfl rfl rfl rfl ?_
      refine TL.op1 (OpR.pickF rfl rfl rfl) rfl ?_
      refine TL.op1 (OpR.pure rfl) rfl ?_
      refine TL.off rfl rfl rfl rfl rfl rfl rfl ?_
      refine TL.off rfl rfl rfl rfl rfl rfl rfl ?_
      refine TL.off rfl rfl rfl rfl rfl rfl rfl ?_
      refine TL.op1 (OpR.pickF rfl rfl rfl) rfl ?_
      refine TL.op1 (OpR.pure rfl) rfl ?_
      refine TL.off rfl rfl rfl rfl rfl rfl rfl ?_
      refine TL.off rfl rfl rfl rfl rfl rfl rfl ?_
      refine TL.off rfl rfl rfl rfl rfl rfl rfl ?_
      refine TL.off rfl rfl rfl rfl rfl rfl rfl ?_
      refine TL.op1 (OpR.pickF rfl rfl rfl) rfl ?_
      refine TL.op1 (OpR.pure rfl) rfl ?_
      refine TL.nil ?_
      obtain rfl := Option.some.inj ht3
      exact ⟨_, Gst.trans (Gst.only [0] rfl) (Gst.pick [] rfl rfl), rfl⟩
  · rintro _ rfl
    show T X _ _ _
    refine T.ret ?_
    obtain rfl := Option.some.inj h0
    exact PostG.retP (ks := []) (Gst.only [0] rfl) undef (ResL.cons (ResV.tmp rfl) ResL.nil) rfl rfl rfl rfl
theorem fn3 : IsFn X 3 := ⟨Try.f3, Try.func3, by kernel_rfl, rfl⟩
noncomputable def law06_QuotePuts (a0 : List UInt8) : Option Bool :=
  bnd (law06_cut a0 400) fun x1 =>
  bnd (ref06_Put x1) fun x2 =>
  bnd (bnd (quote_Needs x1) fun x4 =>
  bnd (ref06_Needs x1) fun x5 =>
  if (x4 == x5) = true then
    bnd (quote_Put x1) fun x7 =>
    if x7 = x2 then
      bnd (quote_Width x1) fun x9 =>
      if x9 = (x2.length : Int) then
        bnd (law06_awake) fun x11 =>
        some x11
      else
        some false
    else
      some false
  else
    some false : Option Bool) fun t3 =>
  some t3
set_option maxHeartbeats 4000000 in
theorem law06_QuotePuts_c {a0 : List UInt8} {res : Bool} (h0 : law06_QuotePuts a0 = some res) : CallF X 3 [.val (.string (bs a0))] [] (fun x => .val (.bool res)) (fun x => []) := by
  unfold law06_QuotePuts at h0
  refine CallF.mkG (X := X) Try.func3 rfl rfl Try.ntmps3 rfl rfl ?_
  refine T.seq ?_
  refine T.region ?_
  refine TL.op1 (OpR.pure rfl) rfl ?_
  refine TL.nil ?_
  show T X _ _ _
  refine T.seq ?_
  refine T.region ?_
  refine TL.op1 (OpR.pure rfl) rfl ?_
  obtain ⟨x1, hx1, h0⟩ := bnd_some h0
  refine TL.op1 (OpR.call0 fn14 (law06_cut_c hx1) rfl) rfl ?_
  refine TL.op1 (OpR.pure rfl) rfl ?_
  refine TL.nil ?_
  show T X _ _ _
  refine T.seq ?_
  refine T.region ?_
  refine TL.op1 (OpR.pure rfl) rfl ?_
  obtain ⟨x2, hx2, h0⟩ := bnd_some h0
  refine TL.op1 (OpR.call0 fn15 (ref06_Put_c hx2) rfl) rfl ?_
  refine TL.op1 (OpR.pure rfl) rfl ?_
  refine TL.nil ?_
  show T X _ _ _
  refine T.seq ?_
  obtain ⟨t3, ht3, h0⟩ := bnd_some h0
  refine T.cutC (fun S' => S' = ⟨[(2, .val (.bool t3))], [], 33⟩) (fun _ h => h) ?_ ?_
  · refine T.region ?_
    refine TL.op1 (OpR.pure rfl) rfl ?_
    refine TL.op1 (OpR.toBytesM rfl rfl rfl rfl rfl rfl rfl) rfl ?_
    obtain ⟨x4, hx4, ht3⟩ := bnd_some ht3
    refine TL.op1 (OpR.call0 fn16 (quote_Needs_c hx4) rfl) rfl ?_
    refine TL.op1 (OpR.pure rfl) rfl ?_
    obtain ⟨x5, hx5, ht3⟩ := bnd_some ht3
    refine TL.op1 (OpR.call0 fn17 (ref06_Needs_c hx5) rfl) rfl ?_
    refine TL.op1 (OpR.eqBool rfl rfl rfl rfl) rfl ?_
    refine TL.op1 (OpR.pure rfl) rfl ?_
    rcases ite_some ht3 with ⟨c6, ht3⟩ | ⟨c6, ht3⟩
    · refine TL.on rfl rfl rfl rfl (c6) ?_
      refine TL.op1 (OpR.pure rfl) rfl ?_
      refine TL.on rfl rfl rfl rfl (c6) ?_
      refine TL.op1 (OpR.toBytesM rfl rfl rfl rfl rfl rfl rfl) rfl ?_
      refine TL.on rfl rfl rfl rfl (c6) ?_
      obtain ⟨x7, hx7, ht3⟩ := bnd_some ht3
      refine TL.op1 (OpR.call0 fn18 (quote_Put_c hx7) rfl) rfl ?_
      refine TL.on rfl rfl rfl rfl (c6) ?_
      refine TL.op1 (OpR.toStr (bs := x7) rfl rfl rfl rfl rfl rfl rfl) rfl ?_
      refine TL.on rfl rfl rfl rfl (c6) ?_
      refine TL.op1 (OpR.pure rfl) rfl ?_
      refine TL.on rfl rfl rfl rfl (c6) ?_
      refine TL.op1 (OpR.cast (OpR.pure rfl) (boolE (strEq _ _))) rfl ?_
      refine TL.op1 (OpR.pickT rfl (c6) rfl) rfl ?_
      refine TL.op1 (OpR.pure rfl) rfl ?_
      rcases ite_some ht3 with ⟨c8, ht3⟩ | ⟨c8, ht3⟩
      · refine TL.on rfl rfl rfl rfl (beq_iff_eq.2 c8) ?_
        refine TL.op1 (OpR.pure rfl) rfl ?_
        refine TL.on rfl rfl rfl rfl (beq_iff_eq.2 c8) ?_
        refine TL.op1 (OpR.toBytesM rfl rfl rfl rfl rfl rfl rfl) rfl ?_
        refine TL.on rfl rfl rfl rfl (beq_iff_eq.2 c8) ?_
        obtain ⟨x9, hx9, ht3⟩ := bnd_some ht3
        refine TL.op1 (OpR.call0 fn19 (quote_Width_c hx9) rfl) rfl ?_
        refine TL.on rfl rfl rfl rfl (beq_iff_eq.2 c8) ?_
        refine TL.op1 (OpR.pure rfl) rfl ?_
        refine TL.on rfl rfl rfl rfl (beq_iff_eq.2 c8) ?_
        refine TL.op1 (OpR.cast (OpR.pure rfl) (intE (lenS _))) rfl ?_
        refine TL.on rfl rfl rfl rfl (beq_iff_eq.2 c8) ?_
        refine TL.op1 (OpR.pure rfl) rfl ?_
        refine TL.op1 (OpR.pickT rfl (beq_iff_eq.2 c8) rfl) rfl ?_
        refine TL.op1 (OpR.pure rfl) rfl ?_
        rcases ite_some ht3 with ⟨c10, ht3⟩ | ⟨c10, ht3⟩
        · refine TL.on rfl rfl rfl rfl (beq_iff_eq.2 c10) ?_
          obtain ⟨x11, hx11, ht3⟩ := bnd_some ht3
          refine TL.op1 (OpR.call0 fn20 (law06_awake_c hx11) rfl) rfl ?_
          refine TL.op1 (OpR.pickT rfl (beq_iff_eq.2 c10) rfl) rfl ?_
          refine TL.op1 (OpR.pure rfl) rfl ?_
          refine TL.nil ?_
          obtain rfl := Option.some.inj ht3
          exact ⟨_, Gst.only [2] rfl, rfl⟩
        · refine TL.off rfl rfl rfl rfl (beq_eq_false_iff_ne.2 c10) rfl rfl ?_
          refine TL.op1 (OpR.pickF rfl (beq_eq_false_iff_ne.2 c10) rfl) rfl ?_
          refine TL.op1 (OpR.pure rfl) rfl ?_
          refine TL.nil ?_
          obtain rfl := Option.some.inj ht3
          exact ⟨_, Gst.only [2] rfl, rfl⟩
      · refine TL.off rfl rfl rfl rfl (beq_eq_false_iff_ne.2 c8) rfl rfl ?_
        refine TL.off rfl rfl rfl rfl (beq_eq_false_iff_ne.2 c8) rfl rfl ?_
        refine TL.off rfl rfl rfl rfl (beq_eq_false_iff_ne.2 c8) rfl rfl ?_
        refine TL.off rfl rfl rfl rfl (beq_eq_false_iff_ne.2 c8) rfl rfl ?_
        refine TL.off rfl rfl rfl rfl (beq_eq_false_iff_ne.2 c8) rfl rfl ?_
        refine TL.off rfl rfl rfl rfl (beq_eq_false_iff_ne.2 c8) rfl rfl ?_
        refine TL.op1 (OpR.pickF rfl (beq_eq_false_iff_ne.2 c8) rfl) rfl ?_
        refine TL.op1 (OpR.pure rfl) rfl ?_
        refine TL.off rfl rfl rfl rfl rfl rfl rfl ?_
        refine TL.op1 (OpR.pickF rfl rfl rfl) rfl ?_
        refine TL.op1 (OpR.pure rfl) rfl ?_
        refine TL.nil ?_
        obtain rfl := Option.some.inj ht3
        exact ⟨_, Gst.only [2] rfl, rfl⟩
    · refine TL.off rfl rfl rfl rfl (eq_false_of_ne_true c6) rfl rfl ?_
      refine TL.off rfl rfl rfl rfl (eq_false_of_ne_true c6) rfl rfl ?_
      refine TL.off rfl rfl rfl rfl (eq_false_of_ne_true c6) rfl rfl ?_
      refine TL.off rfl rfl rfl rfl (eq_false_of_ne_true c6) rfl rfl ?_
      refine TL.off rfl rfl rfl rfl (eq_false_of_ne_true c6) rfl rfl ?_
      refine TL.off rfl rfl rfl rfl (eq_false_of_ne_true c6) rfl rfl ?_
      refine TL.op1 (OpR.pickF rfl (eq_false_of_ne_true c6) rfl) rfl ?_
      refine TL.op1 (OpR.pure rfl) rfl ?_
      refine TL.off rfl rfl rfl rfl rfl rfl rfl ?_
      refine TL.off rfl rfl rfl rfl rfl rfl rfl ?_
      refine TL.off rfl rfl rfl rfl rfl rfl rfl ?_
      refine TL.off rfl rfl rfl rfl rfl rfl rfl ?_
      refine TL.off rfl rfl rfl rfl rfl rfl rfl ?_
      refine TL.off rfl rfl rfl rfl rfl rfl rfl ?_
      refine TL.op1 (OpR.pickF rfl rfl rfl) rfl ?_
      refine TL.op1 (OpR.pure rfl) rfl ?_
      refine TL.off rfl rfl rfl rfl rfl rfl rfl ?_
      refine TL.op1 (OpR.pickF rfl rfl rfl) rfl ?_
      refine TL.op1 (OpR.pure rfl) rfl ?_
      refine TL.nil ?_
      obtain rfl := Option.some.inj ht3
      exact ⟨_, Gst.only [2] rfl, rfl⟩
  · rintro _ rfl
    show T X _ _ _
    refine T.ret ?_
    obtain rfl := Option.some.inj h0
    exact PostG.retP (ks := []) (Gst.only [2] rfl) undef (ResL.cons (ResV.tmp rfl) ResL.nil) rfl rfl rfl rfl
theorem fn87 : IsFn X 87 := ⟨Try.f87, Try.func87, by kernel_rfl, rfl⟩
noncomputable def ref05_quote (a0 : List UInt8) (a1 : Int) : Option Bool :=
  bnd (if a1 < (a0.length : Int) then
    bnd (idx a0 a1) fun x3 =>
    some ((x3.toNat : Int) == 34)
  else
    some false : Option Bool) fun t1 =>
  some t1
set_option maxHeartbeats 4000000 in
theorem ref05_quote_c {a0 : List UInt8} {a1 : Int} {res : Bool} (h0 : ref05_quote a0 a1 = some res) : CallF X 87 [.val (.string (bs a0)), .val (.int .i64 a1)] [] (fun x => .val (.bool res)) (fun x => []) := by
  unfold ref05_quote at h0
  refine CallF.mkG (X := X) Try.func87 rfl rfl Try.ntmps87 rfl rfl ?_
  refine T.seq ?_
  refine T.region ?_
  refine TL.op1 (OpR.pure rfl) rfl ?_
  refine TL.nil ?_
  show T X _ _ _
  refine T.seq ?_
  obtain ⟨t1, ht1, h0⟩ := bnd_some h0
  refine T.cutC (fun S' => S' = ⟨[(4, .val (.bool t1))], [], 15⟩) (fun _ h => h) ?_ ?_
  · refine T.region ?_
    refine TL.op1 (OpR.pure rfl) rfl ?_
    refine TL.op1 (OpR.pure rfl) rfl ?_
    refine TL.op1 (OpR.cast (OpR.pure rfl) (intE (lenS _))) rfl ?_
    refine TL.op1 (OpR.pure rfl) rfl ?_
    refine TL.op1 (OpR.pure rfl) rfl ?_
    rcases ite_some ht1 with ⟨c2, ht1⟩ | ⟨c2, ht1⟩
    · refine TL.on rfl rfl rfl rfl (decide_eq_true c2) ?_
      refine TL.op1 (OpR.pure rfl) rfl ?_
      refine TL.on rfl rfl rfl rfl (decide_eq_true c2) ?_
      refine TL.op1 (OpR.pure rfl) rfl ?_
      refine TL.on rfl rfl rfl rfl (decide_eq_true c2) ?_
      obtain ⟨x3, hx3, ht1⟩ := bnd_some ht1
      refine TL.op1 (OpR.indexS hx3 rfl rfl rfl rfl) rfl ?_
      refine TL.on rfl rfl rfl rfl (decide_eq_true c2) ?_
      refine TL.op1 (OpR.pure rfl) rfl ?_
      refine TL.op1 (OpR.pickT rfl (decide_eq_true c2) rfl) rfl ?_
      refine TL.op1 (OpR.pure rfl) rfl ?_
      refine TL.nil ?_
      obtain rfl := Option.some.inj ht1
      exact ⟨_, Gst.only [4] rfl, rfl⟩
    · refine TL.off rfl rfl rfl rfl (decide_eq_false c2) rfl rfl ?_
      refine TL.off rfl rfl rfl rfl (decide_eq_false c2) rfl rfl ?_
      refine TL.off rfl rfl rfl rfl (decide_eq_false c2) rfl rfl ?_
      refine TL.off rfl rfl rfl rfl (decide_eq_false c2) rfl rfl ?_
      refine TL.op1 (OpR.pickF rfl (decide_eq_false c2) rfl) rfl ?_
      refine TL.op1 (OpR.pure rfl) rfl ?_
      refine TL.nil ?_
      obtain rfl := Option.some.inj ht1
      exact ⟨_, Gst.only [4] rfl, rfl⟩
  · rintro _ rfl
    show T X _ _ _
    refine T.ret ?_
    obtain rfl := Option.some.inj h0
    exact PostG.retP (ks := []) (Gst.only [4] rfl) undef (ResL.cons (ResV.tmp rfl) ResL.nil) rfl rfl rfl rfl
theorem fn97 : IsFn X 97 := ⟨Try.f97, Try.func97, by kernel_rfl, rfl⟩
noncomputable def ref05_mark (a0 : List UInt8) (a1 : Int) : Option Bool :=
  bnd (if a1 ≥ (a0.length : Int) then
    some true
  else
    bnd (idx a0 a1) fun x3 =>
    if (x3.toNat : Int) = 44 then
      some true
    else
      if (x3.toNat : Int) = 13 then
        some true
      else
        some ((x3.toNat : Int) == 10) : Option Bool) fun t1 =>
  some t1
set_option maxHeartbeats 4000000 in
theorem ref05_mark_c {a0 : List UInt8} {a1 : Int} {res : Bool} (h0 : ref05_mark a0 a1 = some res) : CallF X 97 [.val (.string (bs a0)), .val (.int .i64 a1)] [] (fun x => .val (.bool res)) (fun x => []) := by
  unfold ref05_mark at h0
  refine CallF.mkG (X := X) Try.func97 rfl rfl Try.ntmps97 rfl rfl ?_
  refine T.seq ?_
  refine T.region ?_
  refine TL.op1 (OpR.pure rfl) rfl ?_
  refine TL.nil ?_
  show T X _ _ _
  refine T.seq ?_
  obtain ⟨t1, ht1, h0⟩ := bnd_some h0
  refine T.cutC (fun S' => S' = ⟨[(4, .val (.bool t1))], [], 27⟩) (fun _ h => h) ?_ ?_
  · refine T.region ?_
    refine TL.op1 (OpR.pure rfl) rfl ?_
    refine TL.op1 (OpR.pure rfl) rfl ?_
    refine TL.op1 (OpR.cast (OpR.pure rfl) (intE (lenS _))) rfl ?_
    refine TL.op1 (OpR.pure rfl) rfl ?_
    refine TL.op1 (OpR.pure rfl) rfl ?_
    rcases ite_some ht1 with ⟨c2, ht1⟩ | ⟨c2, ht1⟩
    · refine TL.off rfl rfl rfl rfl (decide_eq_true c2) rfl rfl ?_
      refine TL.off rfl rfl rfl rfl (decide_eq_true c2) rfl rfl ?_
      refine TL.off rfl rfl rfl rfl (decide_eq_true c2) rfl rfl ?_
      refine TL.off rfl rfl rfl rfl (decide_eq_true c2) rfl rfl ?_
      refine TL.op1 (OpR.pickT rfl (decide_eq_true c2) rfl) rfl ?_
      refine TL.op1 (OpR.pure rfl) rfl ?_
      refine TL.off rfl rfl rfl rfl rfl rfl rfl ?_
      refine TL.off rfl rfl rfl rfl rfl rfl rfl ?_
      refine TL.off rfl rfl rfl rfl rfl rfl rfl ?_
      refine TL.off rfl rfl rfl rfl rfl rfl rfl ?_
      refine TL.op1 (OpR.pickT rfl rfl rfl) rfl ?_
      refine TL.op1 (OpR.pure rfl) rfl ?_
      refine TL.off rfl rfl rfl rfl rfl rfl rfl ?_
      refine TL.off rfl rfl rfl rfl rfl rfl rfl ?_
      refine TL.off rfl rfl rfl rfl rfl rfl rfl ?_
      refine TL.off rfl rfl rfl rfl rfl rfl rfl ?_
      refine TL.op1 (OpR.pickT rfl rfl rfl) rfl ?_
      refine TL.op1 (OpR.pure rfl) rfl ?_
      refine TL.nil ?_
      obtain rfl := Option.some.inj ht1
      exact ⟨_, Gst.only [4] rfl, rfl⟩
    · refine TL.on rfl rfl rfl rfl (decide_eq_false c2) ?_
      refine TL.op1 (OpR.pure rfl) rfl ?_
      refine TL.on rfl rfl rfl rfl (decide_eq_false c2) ?_
      refine TL.op1 (OpR.pure rfl) rfl ?_
      refine TL.on rfl rfl rfl rfl (decide_eq_false c2) ?_
      obtain ⟨x3, hx3, ht1⟩ := bnd_some ht1
      refine TL.op1 (OpR.indexS hx3 rfl rfl rfl rfl) rfl ?_
      refine TL.on rfl rfl rfl rfl (decide_eq_false c2) ?_
      refine TL.op1 (OpR.pure rfl) rfl ?_
      refine TL.op1 (OpR.pickF rfl (decide_eq_false c2) rfl) rfl ?_
      refine TL.op1 (OpR.pure rfl) rfl ?_
      rcases ite_some ht1 with ⟨c4, ht1⟩ | ⟨c4, ht1⟩
      · refine TL.off rfl rfl rfl rfl (beq_iff_eq.2 c4) rfl rfl ?_
        refine TL.off rfl rfl rfl rfl (beq_iff_eq.2 c4) rfl rfl ?_
        refine TL.off rfl rfl rfl rfl (beq_iff_eq.2 c4) rfl rfl ?_
        refine TL.off rfl rfl rfl rfl (beq_iff_eq.2 c4) rfl rfl ?_
        refine TL.op1 (OpR.pickT rfl (beq_iff_eq.2 c4) rfl) rfl ?_
        refine TL.op1 (OpR.pure rfl) rfl ?_
        refine TL.off rfl rfl rfl rfl rfl rfl rfl ?_
        refine TL.off rfl rfl rfl rfl rfl rfl rfl ?_
        refine TL.off rfl rfl rfl rfl rfl rfl rfl ?_
        refine TL.off rfl rfl rfl rfl rfl rfl rfl ?_
        refine TL.op1 (OpR.pickT rfl rfl rfl) rfl ?_
        refine TL.op1 (OpR.pure rfl) rfl ?_
        refine TL.nil ?_
        obtain rfl := Option.some.inj ht1
        exact ⟨_, Gst.only [4] rfl, rfl⟩
      · refine TL.on rfl rfl rfl rfl (beq_eq_false_iff_ne.2 c4) ?_
        refine TL.op1 (OpR.pure rfl) rfl ?_
        refine TL.on rfl rfl rfl rfl (beq_eq_false_iff_ne.2 c4) ?_
        refine TL.op1 (OpR.pure rfl) rfl ?_
        refine TL.on rfl rfl rfl rfl (beq_eq_false_iff_ne.2 c4) ?_
        refine TL.op1 (OpR.indexS hx3 rfl rfl rfl rfl) rfl ?_
        refine TL.on rfl rfl rfl rfl (beq_eq_false_iff_ne.2 c4) ?_
        refine TL.op1 (OpR.pure rfl) rfl ?_
        refine TL.op1 (OpR.pickF rfl (beq_eq_false_iff_ne.2 c4) rfl) rfl ?_
        refine TL.op1 (OpR.pure rfl) rfl ?_
        rcases ite_some ht1 with ⟨c5, ht1⟩ | ⟨c5, ht1⟩
        · refine TL.off rfl rfl rfl rfl (beq_iff_eq.2 c5) rfl rfl ?_
          refine TL.off rfl rfl rfl rfl (beq_iff_eq.2 c5) rfl rfl ?_
          refine TL.off rfl rfl rfl rfl (beq_iff_eq.2 c5) rfl rfl ?_
          refine TL.off rfl rfl rfl rfl (beq_iff_eq.2 c5) rfl rfl ?_
          refine TL.op1 (OpR.pickT rfl (beq_iff_eq.2 c5) rfl) rfl ?_
          refine TL.op1 (OpR.pure rfl) rfl ?_
          refine TL.nil ?_
          obtain rfl := Option.some.inj ht1
          exact ⟨_, Gst.only [4] rfl, rfl⟩
        · refine TL.on rfl rfl rfl rfl (beq_eq_false_iff_ne.2 c5) ?_
          refine TL.op1 (OpR.pure rfl) rfl ?_
          refine TL.on rfl rfl rfl rfl (beq_eq_false_iff_ne.2 c5) ?_
          refine TL.op1 (OpR.pure rfl) rfl ?_
          refine TL.on rfl rfl rfl rfl (beq_eq_false_iff_ne.2 c5) ?_
          refine TL.op1 (OpR.indexS hx3 rfl rfl rfl rfl) rfl ?_
          refine TL.on rfl rfl rfl rfl (beq_eq_false_iff_ne.2 c5) ?_
          refine TL.op1 (OpR.pure rfl) rfl ?_
          refine TL.op1 (OpR.pickF rfl (beq_eq_false_iff_ne.2 c5) rfl) rfl ?_
          refine TL.op1 (OpR.pure rfl) rfl ?_
          refine TL.nil ?_
          obtain rfl := Option.some.inj ht1
          exact ⟨_, Gst.only [4] rfl, rfl⟩
  · rintro _ rfl
    show T X _ _ _
    refine T.ret ?_
    obtain rfl := Option.some.inj h0
    exact PostG.retP (ks := []) (Gst.only [4] rfl) undef (ResL.cons (ResV.tmp rfl) ResL.nil) rfl rfl rfl rfl
theorem fn88 : IsFn X 88 := ⟨Try.f88, Try.func88, by kernel_rfl, rfl⟩
noncomputable def ref05_till.l1 (a0 : List UInt8) (s2 : Int) : Option (Lp Int Int) :=
  bnd (ref05_mark a0 s2) fun x10 =>
  if x10 = true then
    some (Lp.done s2)
  else
    some (Lp.next (w64 (s2 + 1)))
noncomputable def ref05_till (a0 : List UInt8) (a1 : Int) : Option Int :=
  bnd (loop (ref05_till.l1 a0) a1 : Option Int) fun t1 =>
  some t1
set_option maxHeartbeats 4000000 in
theorem ref05_till_c {a0 : List UInt8} {a1 : Int} {res : Int} (h0 : ref05_till a0 a1 = some res) : CallF X 88 [.val (.string (bs a0)), .val (.int .i64 a1)] [] (fun x => .val (.int .i64 res)) (fun x => []) := by
  unfold ref05_till at h0
  refine CallF.mkG (X := X) Try.func88 rfl rfl Try.ntmps88 rfl rfl ?_
  refine T.seq ?_
  refine T.region ?_
  refine TL.op1 (OpR.pure rfl) rfl ?_
  refine TL.nil ?_
  show T X _ _ _
  refine T.seq ?_
  obtain ⟨t1, ht1, h0⟩ := bnd_some h0
  refine T.cutC (fun S' => S' = ⟨[(4, .val (.int .i64 0)), (1, .val (.int .i64 t1))], [], 12⟩) (fun _ h => h) ?_ ?_
  · refine T.block ?_
    obtain ⟨n3, n8⟩ := loop_some ht1
    refine T.loop (fun n S' => ∃ S'', Gst S' S'' ∧ ∃ s2 : Int, S'' = ⟨[(4, .val (.int .i64 0)), (1, .val (.int .i64 s2)), (0, .val (.string (bs a0)))], [], 12⟩ ∧ iter (ref05_till.l1 a0) n s2 = some t1) n3 ?_ ?_
    · exact ⟨_, Gst.only [0, 1, 4] rfl, a1, rfl, n8⟩
    rintro n3 _ ⟨_, g, s2, rfl, i7⟩
    refine T.ghost g ?_
    obtain ⟨m4, q5, rfl, q6, i7⟩ := iter_succ i7
    unfold ref05_till.l1 at q6
    refine T.seq ?_
    refine T.seq ?_
    refine T.region ?_
    refine TL.op1 (OpR.pure rfl) rfl ?_
    refine TL.op1 (OpR.pure rfl) rfl ?_
    obtain ⟨x10, hx10, q6⟩ := bnd_some q6
    refine TL.op1 (OpR.call0 fn97 (ref05_mark_c hx10) rfl) rfl ?_
    refine TL.op1 (OpR.pure rfl) rfl ?_
    refine TL.nil ?_
    show T X _ _ _
    rcases ite_some q6 with ⟨c11, q6⟩ | ⟨c11, q6⟩
    · refine T.condF rfl (not_t (c11)) ?_
      refine T.exit ?_
      obtain rfl := Option.some.inj q6
      obtain rfl : _ = _ := i7
      exact ⟨_, Gst.only [1, 4] rfl, rfl⟩
    · refine T.condT rfl (not_f (eq_false_of_ne_true c11)) ?_
      refine T.skip ?_
      show T X _ _ _
      refine T.block ?_
      refine T.region ?_
      refine TL.op1 (OpR.pure rfl) rfl ?_
      refine TL.op1 (OpR.pure rfl) rfl ?_
      refine TL.op1 (OpR.pure rfl) rfl ?_
      refine TL.nil ?_
      obtain rfl := Option.some.inj q6
      exact ⟨m4, Nat.lt_succ_self _, _, Gst.only [0, 1, 4] rfl, w64 (s2 + 1), rfl, i7⟩
  · rintro _ rfl
    show T X _ _ _
    refine T.seq ?_
    refine T.region ?_
    refine TL.op1 (OpR.pure rfl) rfl ?_
    refine TL.op1 (OpR.pure rfl) rfl ?_
    refine TL.nil ?_
    show T X _ _ _
    refine T.ret ?_
    obtain rfl := Option.some.inj h0
    exact PostG.retP (ks := []) (Gst.only [4] rfl) undef (ResL.cons (ResV.tmp rfl) ResL.nil) rfl rfl rfl rfl
theorem fn89 : IsFn X 89 := ⟨Try.f89, Try.func89, by kernel_rfl, rfl⟩
noncomputable def ref05_places_2.l1 (a1 : Int) (s4 : Int × (List Int)) : Option (Lp (Int × (List Int)) (List Int)) :=
  if s4.1 < a1 then
    bnd (app 8 s4.2 [s4.1]) fun x13 =>
    some (Lp.next (w64 (s4.1 + 1), x13))
  else
    some (Lp.done s4.2)
noncomputable def ref05_places_2 (a0 : Int) (a1 : Int) (a2 : List Int) : Option (List Int) :=
  bnd (loop (ref05_places_2.l1 a1) (a0, a2) : Option (List Int)) fun t1 =>
  some t1
set_option maxHeartbeats 4000000 in
theorem ref05_places_2_c {a0 : Int} {a1 : Int} {a2 : List Int} {v0 : Value} {res : (List Int)} (h0 : ref05_places_2 a0 a1 a2 = some res) : CallF X 89 [.val v0, .val (.int .i64 a0), .val (.int .i64 a1)] [.row v0 (List.map (eI .i64) a2) 1 3] (fun x => .val (vn x 0)) (fun x => [.row (vn x 0) (List.map (eI .i64) res) 1 3]) := by
  unfold ref05_places_2 at h0
  refine CallF.mkG (X := X) Try.func89 rfl rfl Try.ntmps89 rfl rfl ?_
  refine T.seq ?_
  refine T.region ?_
  refine TL.op1 (OpR.pure rfl) rfl ?_
  refine TL.nil ?_
  show T X _ _ _
  refine T.seq ?_
  refine T.seq ?_
  refine T.region ?_
  refine TL.op1 (OpR.pure rfl) rfl ?_
  refine TL.op1 (OpR.pure rfl) rfl ?_
  refine TL.nil ?_
  show T X _ _ _
  obtain ⟨t1, ht1, h0⟩ := bnd_some h0
  refine T.cutC (fun S' => ∃ y2 : Value, S' = ⟨[(6, .val (.slice none 0 0)), (0, .val y2)], [.row y2 (List.map (eI .i64) t1) 1 3], 19⟩) (fun _ h => h) ?_ ?_
  · refine T.block ?_
    obtain ⟨n5, n10⟩ := loop_some ht1
    refine T.loop (fun n S' => ∃ S'', Gst S' S'' ∧ ∃ y3 : Value, ∃ s4 : Int × (List Int), S'' = ⟨[(7, .val (.int .i64 s4.1)), (6, .val (.slice none 0 0)), (2, .val (.int .i64 a1)), (0, .val y3)], [.row y3 (List.map (eI .i64) s4.2) 1 3], 19⟩ ∧ iter (ref05_places_2.l1 a1) n s4 = some t1) n5 ?_ ?_
    · exact ⟨_, Gst.only [0, 2, 6, 7] rfl, v0, (a0, a2), rfl, n10⟩
    rintro n5 _ ⟨_, g, y3, s4, rfl, i9⟩
    refine T.ghost g ?_
    obtain ⟨m6, q7, rfl, q8, i9⟩ := iter_succ i9
    unfold ref05_places_2.l1 at q8
    refine T.seq ?_
    refine T.seq ?_
    refine T.region ?_
    refine TL.op1 (OpR.pure rfl) rfl ?_
    refine TL.op1 (OpR.pure rfl) rfl ?_
    refine TL.op1 (OpR.pure rfl) rfl ?_
    refine TL.nil ?_
    show T X _ _ _
    rcases ite_some q8 with ⟨c12, q8⟩ | ⟨c12, q8⟩
    · refine T.condT rfl (decide_eq_true c12) ?_
      refine T.skip ?_
      show T X _ _ _
      refine T.seq ?_
      refine T.block ?_
      refine T.region ?_
      refine TL.op1 (OpR.pure rfl) rfl ?_
      refine TL.op1 (OpR.pure rfl) rfl ?_
      refine TL.op1 (OpR.lit rfl rfl rfl rfl rfl rfl rfl) rfl ?_
      obtain ⟨x13, hx13, q8⟩ := bnd_some q8
      refine TL.op (OpR.appendM (m := [s4.1]) (eI .i64) 0 hx13 rfl rfl rfl rfl rfl rfl rfl rfl rfl (fun _ => rfl)) rfl (fun v14 => ?_)
      refine TL.op1 (OpR.pure rfl) rfl ?_
      refine TL.nil ?_
      show T X _ _ _
      refine T.region ?_
      refine TL.op1 (OpR.pure rfl) rfl ?_
      refine TL.op1 (OpR.pure rfl) rfl ?_
      refine TL.op1 (OpR.pure rfl) rfl ?_
      refine TL.nil ?_
      obtain rfl := Option.some.inj q8
      exact ⟨m6, Nat.lt_succ_self _, _, Gst.only [0, 2, 6, 7] rfl, v14, (w64 (s4.1 + 1), x13), rfl, i9⟩
    · refine T.condF rfl (decide_eq_false c12) ?_
      refine T.exit ?_
      obtain rfl := Option.some.inj q8
      obtain rfl : _ = _ := i9
      exact ⟨_, Gst.only [0, 6] rfl, y3, rfl⟩
  · rintro _ ⟨y2, rfl⟩
    show T X _ _ _
    refine T.seq ?_
    refine T.region ?_
    refine TL.op1 (OpR.pure rfl) rfl ?_
    refine TL.op1 (OpR.pure rfl) rfl ?_
    refine TL.nil ?_
    show T X _ _ _
    refine T.ret ?_
    obtain rfl := Option.some.inj h0
    exact PostG.retP (ks := [0]) (Gst.only [6] rfl) (.tuple #[y2]) (ResL.cons (ResV.tmp rfl) ResL.nil) rfl rfl rfl rfl
noncomputable def ref05_places.l1 (a1 : Int) (s4 : Int × (List Int)) : Option (Lp (Int × (List Int)) (List Int)) :=
  if s4.1 < a1 then
    bnd (app 8 s4.2 [s4.1]) fun x13 =>
    some (Lp.next (w64 (s4.1 + 1), x13))
  else
    some (Lp.done s4.2)
noncomputable def ref05_places (a0 : Int) (a1 : Int) : Option (List Int) :=
  bnd (loop (ref05_places.l1 a1) (a0, []) : Option (List Int)) fun t1 =>
  some t1
set_option maxHeartbeats 4000000 in
theorem ref05_places_c {a0 : Int} {a1 : Int} {res : (List Int)} (h0 : ref05_places a0 a1 = some res) : CallF X 89 [.val (.slice none 0 0), .val (.int .i64 a0), .val (.int .i64 a1)] [] (fun x => .sl 1 (List.map (eI .i64) res)) (fun x => []) := by
  unfold ref05_places at h0
  refine CallF.mkG (X := X) Try.func89 rfl rfl Try.ntmps89 rfl rfl ?_
  refine T.seq ?_
  refine T.region ?_
  refine TL.op1 (OpR.pure rfl) rfl ?_
  refine TL.nil ?_
  show T X _ _ _
  refine T.seq ?_
  refine T.seq ?_
  refine T.region ?_
  refine TL.op1 (OpR.pure rfl) rfl ?_
  refine TL.op1 (OpR.pure rfl) rfl ?_
  refine TL.nil ?_
  show T X _ _ _
  obtain ⟨t1, ht1, h0⟩ := bnd_some h0
  refine T.cutC (fun S' => ∃ y2 : Value, S' = ⟨[(6, .val (.slice none 0 0)), (0, .val y2)], [.row y2 (List.map (eI .i64) t1) 1 3], 19⟩) (fun _ h => h) ?_ ?_
  · refine T.block ?_
    obtain ⟨n5, n10⟩ := loop_some ht1
    refine T.loop (fun n S' => ∃ S'', Gst S' S'' ∧ ∃ y3 : Value, ∃ s4 : Int × (List Int), S'' = ⟨[(7, .val (.int .i64 s4.1)), (6, .val (.slice none 0 0)), (2, .val (.int .i64 a1)), (0, .val y3)], [.row y3 (List.map (eI .i64) s4.2) 1 3], 19⟩ ∧ iter (ref05_places.l1 a1) n s4 = some t1) n5 ?_ ?_
    · exact ⟨_, Gst.trans (Gst.only [0, 2, 6, 7] rfl) (Gst.nilRow (ow := []) 1 3 rfl), (.slice none 0 0), (a0, []), rfl, n10⟩
    rintro n5 _ ⟨_, g, y3, s4, rfl, i9⟩
    refine T.ghost g ?_
    obtain ⟨m6, q7, rfl, q8, i9⟩ := iter_succ i9
    unfold ref05_places.l1 at q8
    refine T.seq ?_
    refine T.seq ?_
    refine T.region ?_
    refine TL.op1 (OpR.pure rfl) rfl ?_
    refine TL.op1 (OpR.pure rfl) rfl ?_
    refine TL.op1 (OpR.pure rfl) rfl ?_
    refine TL.nil ?_
    show T X _ _ _
    rcases ite_some q8 with ⟨c12, q8⟩ | ⟨c12, q8⟩
    · refine T.condT rfl (decide_eq_true c12) ?_
      refine T.skip ?_
      show T X _ _ _
      refine T.seq ?_
      refine T.block ?_
      refine T.region ?_
      refine TL.op1 (OpR.pure rfl) rfl ?_
      refine TL.op1 (OpR.pure rfl) rfl ?_
      refine TL.op1 (OpR.lit rfl rfl rfl rfl rfl rfl rfl) rfl ?_
      obtain ⟨x13, hx13, q8⟩ := bnd_some q8
      refine TL.op (OpR.appendM (m := [s4.1]) (eI .i64) 0 hx13 rfl rfl rfl rfl rfl rfl rfl rfl rfl (fun _ => rfl)) rfl (fun v14 => ?_)
      refine TL.op1 (OpR.pure rfl) rfl ?_
      refine TL.nil ?_
      show T X _ _ _
      refine T.region ?_
      refine TL.op1 (OpR.pure rfl) rfl ?_
      refine TL.op1 (OpR.pure rfl) rfl ?_
      refine TL.op1 (OpR.pure rfl) rfl ?_
      refine TL.nil ?_
      obtain rfl := Option.some.inj q8
      exact ⟨m6, Nat.lt_succ_self _, _, Gst.only [0, 2, 6, 7] rfl, v14, (w64 (s4.1 + 1), x13), rfl, i9⟩
    · refine T.condF rfl (decide_eq_false c12) ?_
      refine T.exit ?_
      obtain rfl := Option.some.inj q8
      obtain rfl : _ = _ := i9
      exact ⟨_, Gst.only [0, 6] rfl, y3, rfl⟩
  · rintro _ ⟨y2, rfl⟩
    show T X _ _ _
    refine T.seq ?_
    refine T.region ?_
    refine TL.op1 (OpR.pure rfl) rfl ?_
    refine TL.op1 (OpR.pure rfl) rfl ?_
    refine TL.nil ?_
    show T X _ _ _
    refine T.ret ?_
    obtain rfl := Option.some.inj h0
    exact PostG.retP (ks := []) (Gst.trans (Gst.only [6] rfl) (Gst.trans (Gst.freezeRow 0 rfl rfl (ReS.cons (Re.base .all) ReS.nil) (ReO.same ReO.nil)) (Gst.pick [] rfl rfl))) undef (ResL.cons (ResV.tmp rfl) ResL.nil) rfl rfl rfl rfl
theorem fn80 : IsFn X 80 := ⟨Try.f80, Try.func80, by kernel_rfl, rfl⟩
noncomputable def ref05_field.l1 (a0 : List UInt8) (s8 : Int × (List Int)) : Option (Lp (Int × (List Int)) (Int × (List Int))) :=
  bnd (if s8.1 < (a0.length : Int) then
    bnd (ref05_quote a0 s8.1) fun x18 =>
    if x18 = true then
      bnd (ref05_quote a0 (w64 (s8.1 + 1))) fun x20 =>
      some x20
    else
      some true
  else
    some false : Option Bool) fun t16 =>
  if t16 = true then
    bnd (app 8 s8.2 [s8.1]) fun x22 =>
    bnd (ref05_quote a0 s8.1) fun x24 =>
    bnd (if x24 = true then
      some (w64 (s8.1 + 1))
    else
      some s8.1 : Option Int) fun t25 =>
    some (Lp.next (w64 (t25 + 1), x22))
  else
    some (Lp.done (s8.1, s8.2))
noncomputable def ref05_field.l2 (a0 : List UInt8) (x33 : Int) (s36 : Int × Int) : Option (Lp (Int × Int) Int) :=
  if s36.1 < x33 then
    bnd (ref05_quote a0 s36.1) fun x45 =>
    bnd (if x45 = true then
      some 2
    else
      some s36.2 : Option Int) fun t46 =>
    some (Lp.next (w64 (s36.1 + 1), t46))
  else
    some (Lp.done s36.2)
noncomputable def ref05_field (a0 : List UInt8) (a1 : Int) : Option ref05_Field :=
  bnd (ref05_quote a0 a1) fun x3 =>
  if x3 = true then
    bnd (loop (ref05_field.l1 a0) (w64 (a1 + 1), []) : Option (Int × (List Int))) fun t5 =>
    if t5.1 ≥ (a0.length : Int) then
      some (⟨(⟨a1, w64 ((a0.length : Int) - a1)⟩ : ref03_Span), 4, t5.2⟩ : ref05_Field)
    else
      bnd (ref05_till a0 (w64 (t5.1 + 1))) fun x28 =>
      bnd (if x28 > (w64 (t5.1 + 1)) then
        some 3
      else
        some 1 : Option Int) fun t29 =>
      bnd (ref05_places_2 (w64 (t5.1 + 1)) x28 t5.2) fun x31 =>
      some (⟨(⟨a1, w64 (x28 - a1)⟩ : ref03_Span), t29, x31⟩ : ref05_Field)
  else
    bnd (ref05_till a0 a1) fun x33 =>
    bnd (ref05_places a1 x33) fun x34 =>
    bnd (loop (ref05_field.l2 a0 x33) (a1, 0) : Option Int) fun t35 =>
    some (⟨(⟨a1, w64 (x33 - a1)⟩ : ref03_Span), t35, x34⟩ : ref05_Field)
set_option maxHeartbeats 4000000 in
theorem ref05_field_c {a0 : List UInt8} {a1 : Int} {res : ref05_Field} (h0 : ref05_field a0 a1 = some res) : CallF X 80 [.val (.string (bs a0)), .val (.int .i64 a1)] [] (fun x => .agg [.val (.int .i64 res.fRaw.fAt), .val (.int .i64 res.fRaw.fN), .val (.int .i64 res.fKind), .sl 1 (List.map (eI .i64) res.fBytes)]) (fun x => []) := by
  unfold ref05_field at h0
  refine CallF.mkG (X := X) Try.func80 rfl rfl Try.ntmps80 rfl rfl ?_
  refine T.seq ?_
  refine T.region ?_
  refine TL.op (OpR.alloc rfl rfl (fun _ => rfl)) rfl (fun p1 => ?_)
  refine TL.nil ?_
  show T X _ _ _
  refine T.seq ?_
  refine T.region ?_
  refine TL.op1 (OpR.build rfl rfl rfl rfl rfl) rfl ?_
  refine TL.op (OpR.alloc rfl rfl (fun _ => rfl)) rfl (fun p2 => ?_)
  refine TL.op0 (OpR.store 1 rfl rfl rfl rfl rfl rfl rfl rfl) ?_
  refine TL.nil ?_
  show T X _ _ _
  refine T.seq ?_
  refine T.seq ?_
  refine T.region ?_
  refine TL.op1 (OpR.pure rfl) rfl ?_
  refine TL.op1 (OpR.pure rfl) rfl ?_
  obtain ⟨x3, hx3, h0⟩ := bnd_some h0
  refine TL.op1 (OpR.call0 fn87 (ref05_quote_c hx3) rfl) rfl ?_
  refine TL.op1 (OpR.pure rfl) rfl ?_
  refine TL.nil ?_
  show T X _ _ _
  rcases ite_some h0 with ⟨c4, h0⟩ | ⟨c4, h0⟩
  · refine T.condF rfl (not_t (c4)) ?_
    refine T.skip ?_
    show T X _ _ _
    refine T.seq ?_
    refine T.region ?_
    refine TL.op1 (OpR.pure rfl) rfl ?_
    refine TL.op1 (OpR.pure rfl) rfl ?_
    refine TL.op1 (OpR.pure rfl) rfl ?_
    refine TL.nil ?_
    show T X _ _ _
    refine T.seq ?_
    obtain ⟨t5, ht5, h0⟩ := bnd_some h0
    refine T.cutC (fun S' => ∃ y6 : Value, S' = ⟨[(8, .val (.int .i64 t5.1)), (5, .val (.pointer (some ⟨(blk p2), 0, none⟩))), (4, .val (.pointer (some ⟨(blk p1), 0, none⟩))), (1, .val (.int .i64 a1)), (0, .val (.string (bs a0)))], [.var (blk p1) [.val (.int .i64 0), .val (.int .i64 0), .val (.int .i64 0), .val (.slice none 0 0)] 100, .var (blk p2) [.val (.int .i64 0), .val (.int .i64 0), .val (.int .i64 0), .val y6] 100, .row y6 (List.map (eI .i64) t5.2) 1 3], 107⟩) (fun _ h => h) ?_ ?_
    · refine T.block ?_
      obtain ⟨n9, n14⟩ := loop_some ht5
      refine T.loop (fun n S' => ∃ S'', Gst S' S'' ∧ ∃ y7 : Value, ∃ s8 : Int × (List Int), S'' = ⟨[(8, .val (.int .i64 s8.1)), (5, .val (.pointer (some ⟨(blk p2), 0, none⟩))), (4, .val (.pointer (some ⟨(blk p1), 0, none⟩))), (1, .val (.int .i64 a1)), (0, .val (.string (bs a0)))], [.var (blk p1) [.val (.int .i64 0), .val (.int .i64 0), .val (.int .i64 0), .val (.slice none 0 0)] 100, .var (blk p2) [.val (.int .i64 0), .val (.int .i64 0), .val (.int .i64 0), .val y7] 100, .row y7 (List.map (eI .i64) s8.2) 1 3], 107⟩ ∧ iter (ref05_field.l1 a0) n s8 = some t5) n9 ?_ ?_
      · exact ⟨_, Gst.trans (Gst.only [0, 1, 4, 5, 8] rfl) (Gst.nilRow (ow := [.var (blk p1) [.val (.int .i64 0), .val (.int .i64 0), .val (.int .i64 0), .val (.slice none 0 0)] 100, .var (blk p2) [.val (.int .i64 0), .val (.int .i64 0), .val (.int .i64 0), .val (.slice none 0 0)] 100]) 1 3 rfl), (.slice none 0 0), (w64 (a1 + 1), []), rfl, n14⟩
      rintro n9 _ ⟨_, g, y7, s8, rfl, i13⟩
      refine T.ghost g ?_
      obtain ⟨m10, q11, rfl, q12, i13⟩ := iter_succ i13
      unfold ref05_field.l1 at q12
      refine T.seq ?_
      refine T.seq ?_
      obtain ⟨t16, ht16, q12⟩ := bnd_some q12
      refine T.cutC (fun S' => S' = ⟨[(56, .val (.bool t16)), (8, .val (.int .i64 s8.1)), (5, .val (.pointer (some ⟨(blk p2), 0, none⟩))), (4, .val (.pointer (some ⟨(blk p1), 0, none⟩))), (1, .val (.int .i64 a1)), (0, .val (.string (bs a0)))], [.var (blk p1) [.val (.int .i64 0), .val (.int .i64 0), .val (.int .i64 0), .val (.slice none 0 0)] 100, .var (blk p2) [.val (.int .i64 0), .val (.int .i64 0), .val (.int .i64 0), .val y7] 100, .row y7 (List.map (eI .i64) s8.2) 1 3], 107⟩) (fun _ h => h) ?_ ?_
      · refine T.region ?_
        refine TL.op1 (OpR.pure rfl) rfl ?_
        refine TL.op1 (OpR.pure rfl) rfl ?_
        refine TL.op1 (OpR.cast (OpR.pure rfl) (intE (lenS _))) rfl ?_
        refine TL.op1 (OpR.pure rfl) rfl ?_
        refine TL.op1 (OpR.pure rfl) rfl ?_
        rcases ite_some ht16 with ⟨c17, ht16⟩ | ⟨c17, ht16⟩
        · refine TL.on rfl rfl rfl rfl (decide_eq_true c17) ?_
          refine TL.op1 (OpR.pure rfl) rfl ?_
          refine TL.on rfl rfl rfl rfl (decide_eq_true c17) ?_
          refine TL.op1 (OpR.pure rfl) rfl ?_
          refine TL.on rfl rfl rfl rfl (decide_eq_true c17) ?_
          obtain ⟨x18, hx18, ht16⟩ := bnd_some ht16
          refine TL.op1 (OpR.call0 fn87 (ref05_quote_c hx18) rfl) rfl ?_
          refine TL.on rfl rfl rfl rfl (decide_eq_true c17) ?_
          refine TL.op1 (OpR.pure rfl) rfl ?_
          refine TL.on rfl rfl rfl rfl (decide_eq_true c17) ?_
          refine TL.op1 (OpR.pure rfl) rfl ?_
          rcases ite_some ht16 with ⟨c19, ht16⟩ | ⟨c19, ht16⟩
          · refine TL.on rfl rfl rfl rfl (not_t (c19)) ?_
            refine TL.op1 (OpR.pure rfl) rfl ?_
            refine TL.on rfl rfl rfl rfl (not_t (c19)) ?_
            refine TL.op1 (OpR.pure rfl) rfl ?_
            refine TL.on rfl rfl rfl rfl (not_t (c19)) ?_
            refine TL.op1 (OpR.pure rfl) rfl ?_
            refine TL.on rfl rfl rfl rfl (not_t (c19)) ?_
            obtain ⟨x20, hx20, ht16⟩ := bnd_some ht16
            refine TL.op1 (OpR.call0 fn87 (ref05_quote_c hx20) rfl) rfl ?_
            refine TL.on rfl rfl rfl rfl (decide_eq_true c17) ?_
            refine TL.op1 (OpR.pickF rfl (not_t (c19)) rfl) rfl ?_
            refine TL.op1 (OpR.pickT rfl (decide_eq_true c17) rfl) rfl ?_
            refine TL.nil ?_
            obtain rfl := Option.some.inj ht16
            exact ⟨_, Gst.only [0, 1, 4, 5, 8, 56] rfl, rfl⟩
          · refine TL.off rfl rfl rfl rfl (not_f (eq_false_of_ne_true c19)) rfl rfl ?_
            refine TL.off rfl rfl rfl rfl (not_f (eq_false_of_ne_true c19)) rfl rfl ?_
            refine TL.off rfl rfl rfl rfl (not_f (eq_false_of_ne_true c19)) rfl rfl ?_
            refine TL.off rfl rfl rfl rfl (not_f (eq_false_of_ne_true c19)) rfl rfl ?_
            refine TL.on rfl rfl rfl rfl (decide_eq_true c17) ?_
            refine TL.op1 (OpR.pickT rfl (not_f (eq_false_of_ne_true c19)) rfl) rfl ?_
            refine TL.op1 (OpR.pickT rfl (decide_eq_true c17) rfl) rfl ?_
            refine TL.nil ?_
            obtain rfl := Option.some.inj ht16
            exact ⟨_, Gst.only [0, 1, 4, 5, 8, 56] rfl, rfl⟩
        · refine TL.off rfl rfl rfl rfl (decide_eq_false c17) rfl rfl ?_
          refine TL.off rfl rfl rfl rfl (decide_eq_false c17) rfl rfl ?_
          refine TL.off rfl rfl rfl rfl (decide_eq_false c17) rfl rfl ?_
          refine TL.off rfl rfl rfl rfl (decide_eq_false c17) rfl rfl ?_
          refine TL.off rfl rfl rfl rfl (decide_eq_false c17) rfl rfl ?_
          refine TL.offU rfl rfl rfl rfl rfl rfl ?_
          refine TL.offU rfl rfl rfl rfl rfl rfl ?_
          refine TL.offU rfl rfl rfl rfl rfl rfl ?_
          refine TL.offU rfl rfl rfl rfl rfl rfl ?_
          refine TL.off rfl rfl rfl rfl (decide_eq_false c17) rfl rfl ?_
          refine TL.op1 (OpR.pickF rfl (decide_eq_false c17) rfl) rfl ?_
          refine TL.nil ?_
          obtain rfl := Option.some.inj ht16
          exact ⟨_, Gst.only [0, 1, 4, 5, 8, 56] rfl, rfl⟩
      · rintro _ rfl
        show T X _ _ _
        rcases ite_some q12 with ⟨c21, q12⟩ | ⟨c21, q12⟩
        · refine T.condT rfl (c21) ?_
          refine T.skip ?_
          show T X _ _ _
          refine T.block ?_
          refine T.seq ?_
          refine T.region ?_
          refine TL.op1 (OpR.pure rfl) rfl ?_
          refine TL.op1 (OpR.loadPtr 1 rfl rfl rfl rfl) rfl ?_
          refine TL.op1 (OpR.pure rfl) rfl ?_
          refine TL.op1 (OpR.lit rfl rfl rfl rfl rfl rfl rfl) rfl ?_
          obtain ⟨x22, hx22, q12⟩ := bnd_some q12
          refine TL.op (OpR.appendM (m := [s8.1]) (eI .i64) 2 hx22 rfl rfl rfl rfl rfl rfl rfl rfl rfl (fun _ => rfl)) rfl (fun v23 => ?_)
          refine TL.op1 (OpR.pure rfl) rfl ?_
          refine TL.op0 (OpR.store 1 rfl rfl rfl rfl rfl rfl rfl rfl) ?_
          refine TL.nil ?_
          show T X _ _ _
          refine T.seq ?_
          refine T.seq ?_
          refine T.region ?_
          refine TL.op1 (OpR.pure rfl) rfl ?_
          refine TL.op1 (OpR.pure rfl) rfl ?_
          obtain ⟨x24, hx24, q12⟩ := bnd_some q12
          refine TL.op1 (OpR.call0 fn87 (ref05_quote_c hx24) rfl) rfl ?_
          refine TL.nil ?_
          show T X _ _ _
          obtain ⟨t25, ht25, q12⟩ := bnd_some q12
          refine T.cutC (fun S' => S' = ⟨[(8, .val (.int .i64 t25)), (5, .val (.pointer (some ⟨(blk p2), 0, none⟩))), (4, .val (.pointer (some ⟨(blk p1), 0, none⟩))), (1, .val (.int .i64 a1)), (0, .val (.string (bs a0)))], [.var (blk p1) [.val (.int .i64 0), .val (.int .i64 0), .val (.int .i64 0), .val (.slice none 0 0)] 100, .var (blk p2) [.val (.int .i64 0), .val (.int .i64 0), .val (.int .i64 0), .val v23] 100, .row v23 (List.map (eI .i64) x22) 1 3], 107⟩) (fun _ h => h) ?_ ?_
          · rcases ite_some ht25 with ⟨c26, ht25⟩ | ⟨c26, ht25⟩
            · refine T.condT rfl (c26) ?_
              refine T.region ?_
              refine TL.op1 (OpR.pure rfl) rfl ?_
              refine TL.op1 (OpR.pure rfl) rfl ?_
              refine TL.op1 (OpR.pure rfl) rfl ?_
              refine TL.nil ?_
              obtain rfl := Option.some.inj ht25
              exact ⟨_, Gst.only [0, 1, 4, 5, 8] rfl, rfl⟩
            · refine T.condF rfl (eq_false_of_ne_true c26) ?_
              refine T.skip ?_
              obtain rfl := Option.some.inj ht25
              exact ⟨_, Gst.only [0, 1, 4, 5, 8] rfl, rfl⟩
          · rintro _ rfl
            show T X _ _ _
            refine T.region ?_
            refine TL.op1 (OpR.pure rfl) rfl ?_
            refine TL.op1 (OpR.pure rfl) rfl ?_
            refine TL.op1 (OpR.pure rfl) rfl ?_
            refine TL.nil ?_
            obtain rfl := Option.some.inj q12
            exact ⟨m10, Nat.lt_succ_self _, _, Gst.only [0, 1, 4, 5, 8] rfl, v23, (w64 (t25 + 1), x22), rfl, i13⟩
        · refine T.condF rfl (eq_false_of_ne_true c21) ?_
          refine T.exit ?_
          obtain rfl := Option.some.inj q12
          obtain rfl : _ = _ := i13
          exact ⟨_, Gst.only [0, 1, 4, 5, 8] rfl, y7, rfl⟩
    · rintro _ ⟨y6, rfl⟩
      show T X _ _ _
      refine T.seq ?_
      refine T.seq ?_
      refine T.region ?_
      refine TL.op1 (OpR.pure rfl) rfl ?_
      refine TL.op1 (OpR.pure rfl) rfl ?_
      refine TL.op1 (OpR.cast (OpR.pure rfl) (intE (lenS _))) rfl ?_
      refine TL.op1 (OpR.pure rfl) rfl ?_
      refine TL.nil ?_
      show T X _ _ _
      rcases ite_some h0 with ⟨c27, h0⟩ | ⟨c27, h0⟩
      · refine T.condT rfl (decide_eq_true c27) ?_
        refine T.seq ?_
        refine T.region ?_
        refine TL.op1 (OpR.pure rfl) rfl ?_
        refine TL.op0 (OpR.store 1 rfl rfl rfl rfl rfl rfl rfl rfl) ?_
        refine TL.nil ?_
        show T X _ _ _
        refine T.seq ?_
        refine T.region ?_
        refine TL.op1 (OpR.pure rfl) rfl ?_
        refine TL.op1 (OpR.pure rfl) rfl ?_
        refine TL.op1 (OpR.cast (OpR.pure rfl) (intE (lenS _))) rfl ?_
        refine TL.op1 (OpR.pure rfl) rfl ?_
        refine TL.op1 (OpR.pure rfl) rfl ?_
        refine TL.op1 (OpR.build rfl rfl rfl rfl rfl) rfl ?_
        refine TL.op1 (OpR.pure rfl) rfl ?_
        refine TL.op0 (OpR.store 1 rfl rfl rfl rfl rfl rfl rfl rfl) ?_
        refine TL.nil ?_
        show T X _ _ _
        refine T.seq ?_
        refine T.region ?_
        refine TL.op1 (OpR.loadPtr 1 rfl rfl rfl rfl) rfl ?_
        refine TL.op0 (OpR.store 0 rfl rfl rfl rfl rfl rfl rfl rfl) ?_
        refine TL.nil ?_
        show T X _ _ _
        refine T.ret ?_
        obtain rfl := Option.some.inj h0
        exact PostG.retP (ks := []) (Gst.trans (Gst.only [4] rfl) (Gst.trans (Gst.freezeRow 2 rfl rfl (ReS.cons Re.refl ReS.nil) (ReO.var (ReL.cons Re.refl (ReL.cons Re.refl (ReL.cons Re.refl (ReL.cons (Re.base .all) ReL.nil)))) (ReO.var (ReL.cons Re.refl (ReL.cons Re.refl (ReL.cons Re.refl (ReL.cons (Re.base .all) ReL.nil)))) (ReO.same ReO.nil)))) (Gst.pick [0] rfl rfl))) undef (ResL.cons (ResV.var 0 rfl rfl rfl rfl) ResL.nil) rfl rfl rfl rfl
      · refine T.condF rfl (decide_eq_false c27) ?_
        refine T.skip ?_
        show T X _ _ _
        refine T.seq ?_
        refine T.region ?_
        refine TL.op1 (OpR.pure rfl) rfl ?_
        refine TL.op1 (OpR.pure rfl) rfl ?_
        refine TL.op1 (OpR.pure rfl) rfl ?_
        obtain ⟨x28, hx28, h0⟩ := bnd_some h0
        refine TL.op1 (OpR.call0 fn88 (ref05_till_c hx28) rfl) rfl ?_
        refine TL.op1 (OpR.pure rfl) rfl ?_
        refine TL.nil ?_
        show T X _ _ _
        refine T.seq ?_
        refine T.region ?_
        refine TL.op1 (OpR.pure rfl) rfl ?_
        refine TL.op0 (OpR.store 1 rfl rfl rfl rfl rfl rfl rfl rfl) ?_
        refine TL.nil ?_
        show T X _ _ _
        refine T.seq ?_
        refine T.seq ?_
        refine T.region ?_
        refine TL.op1 (OpR.pure rfl) rfl ?_
        refine TL.op1 (OpR.pure rfl) rfl ?_
        refine TL.op1 (OpR.pure rfl) rfl ?_
        refine TL.op1 (OpR.pure rfl) rfl ?_
        refine TL.nil ?_
        show T X _ _ _
        obtain ⟨t29, ht29, h0⟩ := bnd_some h0
        refine T.cutC (fun S' => S' = ⟨[(9, .val (.int .i64 x28)), (8, .val (.int .i64 t5.1)), (5, .val (.pointer (some ⟨(blk p2), 0, none⟩))), (4, .val (.pointer (some ⟨(blk p1), 0, none⟩))), (1, .val (.int .i64 a1))], [.var (blk p1) [.val (.int .i64 0), .val (.int .i64 0), .val (.int .i64 0), .val (.slice none 0 0)] 100, .var (blk p2) [.val (.int .i64 0), .val (.int .i64 0), .val (.int .i64 t29), .val y6] 100, .row y6 (List.map (eI .i64) t5.2) 1 3], 107⟩) (fun _ h => h) ?_ ?_
        · rcases ite_some ht29 with ⟨c30, ht29⟩ | ⟨c30, ht29⟩
          · refine T.condT rfl (decide_eq_true c30) ?_
            refine T.region ?_
            refine TL.op1 (OpR.pure rfl) rfl ?_
            refine TL.op0 (OpR.store 1 rfl rfl rfl rfl rfl rfl rfl rfl) ?_
            refine TL.nil ?_
            obtain rfl := Option.some.inj ht29
            exact ⟨_, Gst.only [1, 4, 5, 8, 9] rfl, rfl⟩
          · refine T.condF rfl (decide_eq_false c30) ?_
            refine T.skip ?_
            obtain rfl := Option.some.inj ht29
            exact ⟨_, Gst.only [1, 4, 5, 8, 9] rfl, rfl⟩
        · rintro _ rfl
          show T X _ _ _
          refine T.seq ?_
          refine T.region ?_
          refine TL.op1 (OpR.pure rfl) rfl ?_
          refine TL.op1 (OpR.loadPtr 1 rfl rfl rfl rfl) rfl ?_
          refine TL.op1 (OpR.pure rfl) rfl ?_
          refine TL.op1 (OpR.pure rfl) rfl ?_
          refine TL.op1 (OpR.pure rfl) rfl ?_
          obtain ⟨x31, hx31, h0⟩ := bnd_some h0
          refine TL.op (OpR.call [2] fn89 (ref05_places_2_c hx31) rfl rfl rfl (fun _ => rfl)) rfl (fun w32 => ?_)
          refine TL.op1 (OpR.pure rfl) rfl ?_
          refine TL.op0 (OpR.store 1 rfl rfl rfl rfl rfl rfl rfl rfl) ?_
          refine TL.nil ?_
          show T X _ _ _
          refine T.seq ?_
          refine T.region ?_
          refine TL.op1 (OpR.pure rfl) rfl ?_
          refine TL.op1 (OpR.pure rfl) rfl ?_
          refine TL.op1 (OpR.pure rfl) rfl ?_
          refine TL.op1 (OpR.pure rfl) rfl ?_
          refine TL.op1 (OpR.build rfl rfl rfl rfl rfl) rfl ?_
          refine TL.op1 (OpR.pure rfl) rfl ?_
          refine TL.op0 (OpR.store 1 rfl rfl rfl rfl rfl rfl rfl rfl) ?_
          refine TL.nil ?_
          show T X _ _ _
          refine T.seq ?_
          refine T.region ?_
          refine TL.op1 (OpR.loadPtr 1 rfl rfl rfl rfl) rfl ?_
          refine TL.op0 (OpR.store 0 rfl rfl rfl rfl rfl rfl rfl rfl) ?_
          refine TL.nil ?_
          show T X _ _ _
          refine T.ret ?_
          obtain rfl := Option.some.inj h0
          exact PostG.retP (ks := []) (Gst.trans (Gst.only [4] rfl) (Gst.trans (Gst.freezeRow 2 rfl rfl (ReS.cons Re.refl ReS.nil) (ReO.var (ReL.cons Re.refl (ReL.cons Re.refl (ReL.cons Re.refl (ReL.cons (Re.base .all) ReL.nil)))) (ReO.var (ReL.cons Re.refl (ReL.cons Re.refl (ReL.cons Re.refl (ReL.cons (Re.base .all) ReL.nil)))) (ReO.same ReO.nil)))) (Gst.pick [0] rfl rfl))) undef (ResL.cons (ResV.var 0 rfl rfl rfl rfl) ResL.nil) rfl rfl rfl rfl
  · refine T.condT rfl (not_f (eq_false_of_ne_true c4)) ?_
    refine T.seq ?_
    refine T.region ?_
    refine TL.op1 (OpR.pure rfl) rfl ?_
    refine TL.op1 (OpR.pure rfl) rfl ?_
    obtain ⟨x33, hx33, h0⟩ := bnd_some h0
    refine TL.op1 (OpR.call0 fn88 (ref05_till_c hx33) rfl) rfl ?_
    refine TL.op1 (OpR.pure rfl) rfl ?_
    refine TL.nil ?_
    show T X _ _ _
    refine T.seq ?_
    refine T.region ?_
    refine TL.op1 (OpR.pure rfl) rfl ?_
    refine TL.op1 (OpR.pure rfl) rfl ?_
    refine TL.op1 (OpR.pure rfl) rfl ?_
    refine TL.op1 (OpR.pure rfl) rfl ?_
    refine TL.op1 (OpR.build rfl rfl rfl rfl rfl) rfl ?_
    refine TL.op1 (OpR.pure rfl) rfl ?_
    refine TL.op0 (OpR.store 1 rfl rfl rfl rfl rfl rfl rfl rfl) ?_
    refine TL.nil ?_
    show T X _ _ _
    refine T.seq ?_
    refine T.region ?_
    refine TL.op1 (OpR.pure rfl) rfl ?_
    refine TL.op1 (OpR.pure rfl) rfl ?_
    obtain ⟨x34, hx34, h0⟩ := bnd_some h0
    refine TL.op1 (OpR.call0 fn89 (ref05_places_c hx34) rfl) rfl ?_
    refine TL.op1 (OpR.pure rfl) rfl ?_
    refine TL.op0 (OpR.store 1 rfl rfl rfl rfl rfl rfl rfl rfl) ?_
    refine TL.nil ?_
    show T X _ _ _
    refine T.seq ?_
    refine T.seq ?_
    refine T.region ?_
    refine TL.op1 (OpR.pure rfl) rfl ?_
    refine TL.op1 (OpR.pure rfl) rfl ?_
    refine TL.nil ?_
    show T X _ _ _
    obtain ⟨t35, ht35, h0⟩ := bnd_some h0
    refine T.cutC (fun S' => S' = ⟨[(5, .val (.pointer (some ⟨(blk p2), 0, none⟩))), (4, .val (.pointer (some ⟨(blk p1), 0, none⟩))), (1, .val (.int .i64 a1)), (0, .val (.string (bs a0)))], [.var (blk p1) [.val (.int .i64 0), .val (.int .i64 0), .val (.int .i64 0), .val (.slice none 0 0)] 100, .var (blk p2) [.val (.int .i64 a1), .val (.int .i64 (w64 (x33 - a1))), .val (.int .i64 t35), .sl 1 (List.map (eI .i64) x34)] 100], 107⟩) (fun _ h => h) ?_ ?_
    · refine T.block ?_
      obtain ⟨n37, n42⟩ := loop_some ht35
      refine T.loop (fun n S' => ∃ S'', Gst S' S'' ∧ ∃ s36 : Int × Int, S'' = ⟨[(7, .val (.int .i64 s36.1)), (6, .val (.int .i64 x33)), (5, .val (.pointer (some ⟨(blk p2), 0, none⟩))), (4, .val (.pointer (some ⟨(blk p1), 0, none⟩))), (1, .val (.int .i64 a1)), (0, .val (.string (bs a0)))], [.var (blk p1) [.val (.int .i64 0), .val (.int .i64 0), .val (.int .i64 0), .val (.slice none 0 0)] 100, .var (blk p2) [.val (.int .i64 a1), .val (.int .i64 (w64 (x33 - a1))), .val (.int .i64 s36.2), .sl 1 (List.map (eI .i64) x34)] 100], 107⟩ ∧ iter (ref05_field.l2 a0 x33) n s36 = some t35) n37 ?_ ?_
      · exact ⟨_, Gst.only [0, 1, 4, 5, 6, 7] rfl, (a1, 0), rfl, n42⟩
      rintro n37 _ ⟨_, g, s36, rfl, i41⟩
      refine T.ghost g ?_
      obtain ⟨m38, q39, rfl, q40, i41⟩ := iter_succ i41
      unfold ref05_field.l2 at q40
      refine T.seq ?_
      refine T.seq ?_
      refine T.region ?_
      refine TL.op1 (OpR.pure rfl) rfl ?_
      refine TL.op1 (OpR.pure rfl) rfl ?_
      refine TL.op1 (OpR.pure rfl) rfl ?_
      refine TL.nil ?_
      show T X _ _ _
      rcases ite_some q40 with ⟨c44, q40⟩ | ⟨c44, q40⟩
      · refine T.condT rfl (decide_eq_true c44) ?_
        refine T.skip ?_
        show T X _ _ _
        refine T.seq ?_
        refine T.block ?_
        refine T.seq ?_
        refine T.region ?_
        refine TL.op1 (OpR.pure rfl) rfl ?_
        refine TL.op1 (OpR.pure rfl) rfl ?_
        obtain ⟨x45, hx45, q40⟩ := bnd_some q40
        refine TL.op1 (OpR.call0 fn87 (ref05_quote_c hx45) rfl) rfl ?_
        refine TL.nil ?_
        show T X _ _ _
        obtain ⟨t46, ht46, q40⟩ := bnd_some q40
        refine T.cutC (fun S' => S' = ⟨[(7, .val (.int .i64 s36.1)), (6, .val (.int .i64 x33)), (5, .val (.pointer (some ⟨(blk p2), 0, none⟩))), (4, .val (.pointer (some ⟨(blk p1), 0, none⟩))), (1, .val (.int .i64 a1)), (0, .val (.string (bs a0)))], [.var (blk p1) [.val (.int .i64 0), .val (.int .i64 0), .val (.int .i64 0), .val (.slice none 0 0)] 100, .var (blk p2) [.val (.int .i64 a1), .val (.int .i64 (w64 (x33 - a1))), .val (.int .i64 t46), .sl 1 (List.map (eI .i64) x34)] 100], 107⟩) (fun _ h => h) ?_ ?_
        · rcases ite_some ht46 with ⟨c47, ht46⟩ | ⟨c47, ht46⟩
          · refine T.condT rfl (c47) ?_
            refine T.region ?_
            refine TL.op1 (OpR.pure rfl) rfl ?_
            refine TL.op0 (OpR.store 1 rfl rfl rfl rfl rfl rfl rfl rfl) ?_
            refine TL.nil ?_
            obtain rfl := Option.some.inj ht46
            exact ⟨_, Gst.only [0, 1, 4, 5, 6, 7] rfl, rfl⟩
          · refine T.condF rfl (eq_false_of_ne_true c47) ?_
            refine T.skip ?_
            obtain rfl := Option.some.inj ht46
            exact ⟨_, Gst.only [0, 1, 4, 5, 6, 7] rfl, rfl⟩
        · rintro _ rfl
          show T X _ _ _
          refine T.region ?_
          refine TL.op1 (OpR.pure rfl) rfl ?_
          refine TL.op1 (OpR.pure rfl) rfl ?_
          refine TL.op1 (OpR.pure rfl) rfl ?_
          refine TL.nil ?_
          obtain rfl := Option.some.inj q40
          exact ⟨m38, Nat.lt_succ_self _, _, Gst.only [0, 1, 4, 5, 6, 7] rfl, (w64 (s36.1 + 1), t46), rfl, i41⟩
      · refine T.condF rfl (decide_eq_false c44) ?_
        refine T.exit ?_
        obtain rfl := Option.some.inj q40
        obtain rfl : _ = _ := i41
        exact ⟨_, Gst.only [0, 1, 4, 5] rfl, rfl⟩
    · rintro _ rfl
      show T X _ _ _
      refine T.seq ?_
      refine T.region ?_
      refine TL.op1 (OpR.loadPtr 1 rfl rfl rfl rfl) rfl ?_
      refine TL.op0 (OpR.store 0 rfl rfl rfl rfl rfl rfl rfl rfl) ?_
      refine TL.nil ?_
      show T X _ _ _
      refine T.ret ?_
      obtain rfl := Option.some.inj h0
      exact PostG.retP (ks := []) (Gst.trans (Gst.only [4] rfl) (Gst.pick [0] rfl rfl)) undef (ResL.cons (ResV.var 0 rfl rfl rfl rfl) ResL.nil) rfl rfl rfl rfl
theorem fn61 : IsFn X 61 := ⟨Try.f61, Try.func61, by kernel_rfl, rfl⟩
noncomputable def ref05_One.l1 (a0 : List UInt8) (s9 : Int × (List ref05_Field)) : Option (Lp (Int × (List ref05_Field)) (Int × (List ref05_Field))) :=
  bnd (ref05_field a0 s9.1) fun x17 =>
  bnd (app 48 s9.2 [x17]) fun x19 =>
  bnd (if (w64 (x17.fRaw.fAt + x17.fRaw.fN)) ≥ (a0.length : Int) then
    some true
  else
    bnd (idx a0 (w64 (x17.fRaw.fAt + x17.fRaw.fN))) fun x23 =>
    some (!((x23.toNat : Int) == 44)) : Option Bool) fun t21 =>
  if t21 = true then
    some (Lp.done (w64 (x17.fRaw.fAt + x17.fRaw.fN), x19))
  else
    some (Lp.next (w64 ((w64 (x17.fRaw.fAt + x17.fRaw.fN)) + 1), x19))
noncomputable def ref05_One (a0 : List UInt8) (a1 : Int) : Option (ref05_Row × Int) :=
  bnd (if a1 < 0 then
    some true
  else
    some (decide (a1 ≥ (a0.length : Int))) : Option Bool) fun t3 =>
  if t3 = true then
    some ((⟨[], 0⟩ : ref05_Row), a1)
  else
    bnd (loop (ref05_One.l1 a0) (a1, []) : Option (Int × (List ref05_Field))) fun t6 =>
    bnd (if t6.1 < (a0.length : Int) then
      bnd (idx a0 t6.1) fun x27 =>
      some ((x27.toNat : Int) == 10)
    else
      some false : Option Bool) fun t25 =>
    if t25 = true then
      some ((⟨t6.2, 1⟩ : ref05_Row), w64 (t6.1 + 1))
    else
      bnd (if (w64 (t6.1 + 1)) < (a0.length : Int) then
        bnd (idx a0 t6.1) fun x31 =>
        if (x31.toNat : Int) = 13 then
          bnd (idx a0 (w64 (t6.1 + 1))) fun x33 =>
          some ((x33.toNat : Int) == 10)
        else
          some false
      else
        some false : Option Bool) fun t29 =>
      if t29 = true then
        some ((⟨t6.2, 2⟩ : ref05_Row), w64 (t6.1 + 2))
      else
        if t6.1 < (a0.length : Int) then
          some ((⟨t6.2, 3⟩ : ref05_Row), w64 (t6.1 + 1))
        else
          some ((⟨t6.2, 0⟩ : ref05_Row), t6.1)
set_option maxHeartbeats 4000000 in
theorem ref05_One_c {a0 : List UInt8} {a1 : Int} {res : ref05_Row × Int} (h0 : ref05_One a0 a1 = some res) : CallF X 61 [.val (.string (bs a0)), .val (.int .i64 a1)] [] (fun x => .tup [.agg [.sl 4 (List.map e_ref05_Field res.1.fFields), .val (.int .i64 res.1.fEnd)], .val (.int .i64 res.2)]) (fun x => []) := by
  unfold ref05_One at h0
  refine CallF.mkG (X := X) Try.func61 rfl rfl Try.ntmps61 rfl rfl ?_
  refine T.seq ?_
  refine T.region ?_
  refine TL.op (OpR.alloc rfl rfl (fun _ => rfl)) rfl (fun p1 => ?_)
  refine TL.op1 (OpR.pure rfl) rfl ?_
  refine TL.nil ?_
  show T X _ _ _
  refine T.seq ?_
  refine T.region ?_
  refine TL.op1 (OpR.build rfl rfl rfl rfl rfl) rfl ?_
  refine TL.op (OpR.alloc rfl rfl (fun _ => rfl)) rfl (fun p2 => ?_)
  refine TL.op0 (OpR.store 1 rfl rfl rfl rfl rfl rfl rfl rfl) ?_
  refine TL.nil ?_
  show T X _ _ _
  refine T.seq ?_
  refine T.seq ?_
  obtain ⟨t3, ht3, h0⟩ := bnd_some h0
  refine T.cutC (fun S' => S' = ⟨[(16, .val (.bool t3)), (6, .val (.pointer (some ⟨(blk p2), 0, none⟩))), (5, .val (.int .i64 0)), (4, .val (.pointer (some ⟨(blk p1), 0, none⟩))), (1, .val (.int .i64 a1)), (0, .val (.string (bs a0)))], [.var (blk p1) [.val (.slice none 0 0), .val (.int .i64 0)] 97, .var (blk p2) [.val (.slice none 0 0), .val (.int .i64 0)] 97], 93⟩) (fun _ h => h) ?_ ?_
  · refine T.region ?_
    refine TL.op1 (OpR.pure rfl) rfl ?_
    refine TL.op1 (OpR.pure rfl) rfl ?_
    refine TL.op1 (OpR.pure rfl) rfl ?_
    rcases ite_some ht3 with ⟨c4, ht3⟩ | ⟨c4, ht3⟩
    · refine TL.off rfl rfl rfl rfl (decide_eq_true c4) rfl rfl ?_
      refine TL.off rfl rfl rfl rfl (decide_eq_true c4) rfl rfl ?_
      refine TL.off rfl rfl rfl rfl (decide_eq_true c4) rfl rfl ?_
      refine TL.off rfl rfl rfl rfl (decide_eq_true c4) rfl rfl ?_
      refine TL.op1 (OpR.pickT rfl (decide_eq_true c4) rfl) rfl ?_
      refine TL.nil ?_
      obtain rfl := Option.some.inj ht3
      exact ⟨_, Gst.only [0, 1, 4, 5, 6, 16] rfl, rfl⟩
    · refine TL.on rfl rfl rfl rfl (decide_eq_false c4) ?_
      refine TL.op1 (OpR.pure rfl) rfl ?_
      refine TL.on rfl rfl rfl rfl (decide_eq_false c4) ?_
      refine TL.op1 (OpR.pure rfl) rfl ?_
      refine TL.on rfl rfl rfl rfl (decide_eq_false c4) ?_
      refine TL.op1 (OpR.cast (OpR.pure rfl) (intE (lenS _))) rfl ?_
      refine TL.on rfl rfl rfl rfl (decide_eq_false c4) ?_
      refine TL.op1 (OpR.pure rfl) rfl ?_
      refine TL.op1 (OpR.pickF rfl (decide_eq_false c4) rfl) rfl ?_
      refine TL.nil ?_
      obtain rfl := Option.some.inj ht3
      exact ⟨_, Gst.only [0, 1, 4, 5, 6, 16] rfl, rfl⟩
  · rintro _ rfl
    show T X _ _ _
    rcases ite_some h0 with ⟨c5, h0⟩ | ⟨c5, h0⟩
    · refine T.condT rfl (c5) ?_
      refine T.seq ?_
      refine T.region ?_
      refine TL.op1 (OpR.loadPtr 1 rfl rfl rfl rfl) rfl ?_
      refine TL.op1 (OpR.pure rfl) rfl ?_
      refine TL.op0 (OpR.store 0 rfl rfl rfl rfl rfl rfl rfl rfl) ?_
      refine TL.op1 (OpR.pure rfl) rfl ?_
      refine TL.nil ?_
      show T X _ _ _
      refine T.ret ?_
      obtain rfl := Option.some.inj h0
      exact PostG.retP (ks := []) (Gst.trans (Gst.only [4, 5] rfl) (Gst.trans (Gst.denil (ReS.cons Re.refl (ReS.cons Re.refl ReS.nil)) (ReO.var (ReL.cons (Re.base .nil) (ReL.cons Re.refl ReL.nil)) (ReO.same ReO.nil))) (Gst.pick [0] rfl rfl))) undef (ResL.cons (ResV.var 0 rfl rfl rfl rfl) (ResL.cons (ResV.tmp rfl) ResL.nil)) rfl rfl rfl rfl
    · refine T.condF rfl (eq_false_of_ne_true c5) ?_
      refine T.skip ?_
      show T X _ _ _
      refine T.seq ?_
      obtain ⟨t6, ht6, h0⟩ := bnd_some h0
      refine T.cutC (fun S' => ∃ y7 : Value, S' = ⟨[(6, .val (.pointer (some ⟨(blk p2), 0, none⟩))), (5, .val (.int .i64 0)), (4, .val (.pointer (some ⟨(blk p1), 0, none⟩))), (1, .val (.int .i64 t6.1)), (0, .val (.string (bs a0)))], [.var (blk p1) [.val (.slice none 0 0), .val (.int .i64 0)] 97, .var (blk p2) [.val y7, .val (.int .i64 0)] 97, .row y7 (List.map e_ref05_Field t6.2) 4 100], 93⟩) (fun _ h => h) ?_ ?_
      · refine T.block ?_
        obtain ⟨n10, n15⟩ := loop_some ht6
        refine T.loop (fun n S' => ∃ S'', Gst S' S'' ∧ ∃ y8 : Value, ∃ s9 : Int × (List ref05_Field), S'' = ⟨[(6, .val (.pointer (some ⟨(blk p2), 0, none⟩))), (5, .val (.int .i64 0)), (4, .val (.pointer (some ⟨(blk p1), 0, none⟩))), (1, .val (.int .i64 s9.1)), (0, .val (.string (bs a0)))], [.var (blk p1) [.val (.slice none 0 0), .val (.int .i64 0)] 97, .var (blk p2) [.val y8, .val (.int .i64 0)] 97, .row y8 (List.map e_ref05_Field s9.2) 4 100], 93⟩ ∧ iter (ref05_One.l1 a0) n s9 = some t6) n10 ?_ ?_
        · exact ⟨_, Gst.trans (Gst.only [0, 1, 4, 5, 6] rfl) (Gst.nilRow (ow := [.var (blk p1) [.val (.slice none 0 0), .val (.int .i64 0)] 97, .var (blk p2) [.val (.slice none 0 0), .val (.int .i64 0)] 97]) 4 100 rfl), (.slice none 0 0), (a1, []), rfl, n15⟩
        rintro n10 _ ⟨_, g, y8, s9, rfl, i14⟩
        refine T.ghost g ?_
        obtain ⟨m11, q12, rfl, q13, i14⟩ := iter_succ i14
        unfold ref05_One.l1 at q13
        refine T.block ?_
        refine T.seq ?_
        refine T.region ?_
        refine TL.op1 (OpR.pure rfl) rfl ?_
        refine TL.op1 (OpR.pure rfl) rfl ?_
        obtain ⟨x17, hx17, q13⟩ := bnd_some q13
        refine TL.op1 (OpR.call0 fn80 (ref05_field_c hx17) rfl) rfl ?_
        refine TL.op (OpR.alloc rfl rfl (fun _ => rfl)) rfl (fun p18 => ?_)
        refine TL.op0 (OpR.store 3 rfl rfl rfl rfl rfl rfl rfl rfl) ?_
        refine TL.nil ?_
        show T X _ _ _
        refine T.seq ?_
        refine T.region ?_
        refine TL.op1 (OpR.pure rfl) rfl ?_
        refine TL.op1 (OpR.loadPtr 1 rfl rfl rfl rfl) rfl ?_
        refine TL.op1 (OpR.loadPtr 3 rfl rfl rfl rfl) rfl ?_
        refine TL.op1 (OpR.lit rfl rfl rfl rfl rfl rfl rfl) rfl ?_
        obtain ⟨x19, hx19, q13⟩ := bnd_some q13
        refine TL.op (OpR.appendM (m := [x17]) e_ref05_Field 2 hx19 rfl rfl rfl rfl rfl rfl rfl rfl rfl (fun _ => rfl)) rfl (fun v20 => ?_)
        refine TL.op1 (OpR.pure rfl) rfl ?_
        refine TL.op0 (OpR.store 1 rfl rfl rfl rfl rfl rfl rfl rfl) ?_
        refine TL.nil ?_
        show T X _ _ _
        refine T.seq ?_
        refine T.region ?_
        refine TL.op1 (OpR.pure rfl) rfl ?_
        refine TL.op1 (OpR.pure rfl) rfl ?_
        refine TL.op1 (OpR.loadPtr 3 rfl rfl rfl rfl) rfl ?_
        refine TL.op1 (OpR.pure rfl) rfl ?_
        refine TL.op1 (OpR.pure rfl) rfl ?_
        refine TL.op1 (OpR.loadPtr 3 rfl rfl rfl rfl) rfl ?_
        refine TL.op1 (OpR.pure rfl) rfl ?_
        refine TL.op1 (OpR.pure rfl) rfl ?_
        refine TL.nil ?_
        show T X _ _ _
        refine T.seq ?_
        refine T.seq ?_
        obtain ⟨t21, ht21, q13⟩ := bnd_some q13
        refine T.cutC (fun S' => S' = ⟨[(44, .val (.bool t21)), (6, .val (.pointer (some ⟨(blk p2), 0, none⟩))), (5, .val (.int .i64 0)), (4, .val (.pointer (some ⟨(blk p1), 0, none⟩))), (1, .val (.int .i64 (w64 (x17.fRaw.fAt + x17.fRaw.fN)))), (0, .val (.string (bs a0)))], [.var (blk p1) [.val (.slice none 0 0), .val (.int .i64 0)] 97, .var (blk p2) [.val v20, .val (.int .i64 0)] 97, .row v20 (List.map e_ref05_Field x19) 4 100], 93⟩) (fun _ h => h) ?_ ?_
        · refine T.region ?_
          refine TL.op1 (OpR.pure rfl) rfl ?_
          refine TL.op1 (OpR.pure rfl) rfl ?_
          refine TL.op1 (OpR.cast (OpR.pure rfl) (intE (lenS _))) rfl ?_
          refine TL.op1 (OpR.pure rfl) rfl ?_
          refine TL.op1 (OpR.pure rfl) rfl ?_
          rcases ite_some ht21 with ⟨c22, ht21⟩ | ⟨c22, ht21⟩
          · refine TL.off rfl rfl rfl rfl (decide_eq_true c22) rfl rfl ?_
            refine TL.off rfl rfl rfl rfl (decide_eq_true c22) rfl rfl ?_
            refine TL.off rfl rfl rfl rfl (decide_eq_true c22) rfl rfl ?_
            refine TL.off rfl rfl rfl rfl (decide_eq_true c22) rfl rfl ?_
            refine TL.op1 (OpR.pickT rfl (decide_eq_true c22) rfl) rfl ?_
            refine TL.nil ?_
            obtain rfl := Option.some.inj ht21
            exact ⟨_, Gst.trans (Gst.only [0, 1, 4, 5, 6, 44] rfl) (Gst.pick [0, 1, 2] rfl rfl), rfl⟩
          · refine TL.on rfl rfl rfl rfl (decide_eq_false c22) ?_
            refine TL.op1 (OpR.pure rfl) rfl ?_
            refine TL.on rfl rfl rfl rfl (decide_eq_false c22) ?_
            refine TL.op1 (OpR.pure rfl) rfl ?_
            refine TL.on rfl rfl rfl rfl (decide_eq_false c22) ?_
            obtain ⟨x23, hx23, ht21⟩ := bnd_some ht21
            refine TL.op1 (OpR.indexS hx23 rfl rfl rfl rfl) rfl ?_
            refine TL.on rfl rfl rfl rfl (decide_eq_false c22) ?_
            refine TL.op1 (OpR.pure rfl) rfl ?_
            refine TL.op1 (OpR.pickF rfl (decide_eq_false c22) rfl) rfl ?_
            refine TL.nil ?_
            obtain rfl := Option.some.inj ht21
            exact ⟨_, Gst.trans (Gst.only [0, 1, 4, 5, 6, 44] rfl) (Gst.pick [0, 1, 2] rfl rfl), rfl⟩
        · rintro _ rfl
          show T X _ _ _
          rcases ite_some q13 with ⟨c24, q13⟩ | ⟨c24, q13⟩
          · refine T.condT rfl (c24) ?_
            refine T.exit ?_
            obtain rfl := Option.some.inj q13
            obtain rfl : _ = _ := i14
            exact ⟨_, Gst.only [0, 1, 4, 5, 6] rfl, v20, rfl⟩
          · refine T.condF rfl (eq_false_of_ne_true c24) ?_
            refine T.skip ?_
            show T X _ _ _
            refine T.region ?_
            refine TL.op1 (OpR.pure rfl) rfl ?_
            refine TL.op1 (OpR.pure rfl) rfl ?_
            refine TL.op1 (OpR.pure rfl) rfl ?_
            refine TL.nil ?_
            obtain rfl := Option.some.inj q13
            exact ⟨m11, Nat.lt_succ_self _, _, Gst.only [0, 1, 4, 5, 6] rfl, v20, (w64 ((w64 (x17.fRaw.fAt + x17.fRaw.fN)) + 1), x19), rfl, i14⟩
      · rintro _ ⟨y7, rfl⟩
        show T X _ _ _
        refine T.seq ?_
        refine T.seq ?_
        obtain ⟨t25, ht25, h0⟩ := bnd_some h0
        refine T.cutC (fun S' => S' = ⟨[(56, .val (.bool t25)), (6, .val (.pointer (some ⟨(blk p2), 0, none⟩))), (5, .val (.int .i64 0)), (4, .val (.pointer (some ⟨(blk p1), 0, none⟩))), (1, .val (.int .i64 t6.1)), (0, .val (.string (bs a0)))], [.var (blk p1) [.val (.slice none 0 0), .val (.int .i64 0)] 97, .var (blk p2) [.val y7, .val (.int .i64 0)] 97, .row y7 (List.map e_ref05_Field t6.2) 4 100], 93⟩) (fun _ h => h) ?_ ?_
        · refine T.region ?_
          refine TL.op1 (OpR.pure rfl) rfl ?_
          refine TL.op1 (OpR.pure rfl) rfl ?_
          refine TL.op1 (OpR.cast (OpR.pure rfl) (intE (lenS _))) rfl ?_
          refine TL.op1 (OpR.pure rfl) rfl ?_
          refine TL.op1 (OpR.pure rfl) rfl ?_
          rcases ite_some ht25 with ⟨c26, ht25⟩ | ⟨c26, ht25⟩
          · refine TL.on rfl rfl rfl rfl (decide_eq_true c26) ?_
            refine TL.op1 (OpR.pure rfl) rfl ?_
            refine TL.on rfl rfl rfl rfl (decide_eq_true c26) ?_
            refine TL.op1 (OpR.pure rfl) rfl ?_
            refine TL.on rfl rfl rfl rfl (decide_eq_true c26) ?_
            obtain ⟨x27, hx27, ht25⟩ := bnd_some ht25
            refine TL.op1 (OpR.indexS hx27 rfl rfl rfl rfl) rfl ?_
            refine TL.on rfl rfl rfl rfl (decide_eq_true c26) ?_
            refine TL.op1 (OpR.pure rfl) rfl ?_
            refine TL.op1 (OpR.pickT rfl (decide_eq_true c26) rfl) rfl ?_
            refine TL.nil ?_
            obtain rfl := Option.some.inj ht25
            exact ⟨_, Gst.only [0, 1, 4, 5, 6, 56] rfl, rfl⟩
          · refine TL.off rfl rfl rfl rfl (decide_eq_false c26) rfl rfl ?_
            refine TL.off rfl rfl rfl rfl (decide_eq_false c26) rfl rfl ?_
            refine TL.off rfl rfl rfl rfl (decide_eq_false c26) rfl rfl ?_
            refine TL.off rfl rfl rfl rfl (decide_eq_false c26) rfl rfl ?_
            refine TL.op1 (OpR.pickF rfl (decide_eq_false c26) rfl) rfl ?_
            refine TL.nil ?_
            obtain rfl := Option.some.inj ht25
            exact ⟨_, Gst.only [0, 1, 4, 5, 6, 56] rfl, rfl⟩
        · rintro _ rfl
          show T X _ _ _
          rcases ite_some h0 with ⟨c28, h0⟩ | ⟨c28, h0⟩
          · refine T.condT rfl (c28) ?_
            refine T.seq ?_
            refine T.region ?_
            refine TL.op1 (OpR.pure rfl) rfl ?_
            refine TL.op0 (OpR.store 1 rfl rfl rfl rfl rfl rfl rfl rfl) ?_
            refine TL.nil ?_
            show T X _ _ _
            refine T.seq ?_
            refine T.region ?_
            refine TL.op1 (OpR.loadPtr 1 rfl rfl rfl rfl) rfl ?_
            refine TL.op1 (OpR.pure rfl) rfl ?_
            refine TL.op1 (OpR.pure rfl) rfl ?_
            refine TL.op0 (OpR.store 0 rfl rfl rfl rfl rfl rfl rfl rfl) ?_
            refine TL.op1 (OpR.pure rfl) rfl ?_
            refine TL.nil ?_
            show T X _ _ _
            refine T.ret ?_
            obtain rfl := Option.some.inj h0
            exact PostG.retP (ks := []) (Gst.trans (Gst.only [4, 5] rfl) (Gst.trans (Gst.freezeRow 2 rfl rfl (ReS.cons Re.refl (ReS.cons Re.refl ReS.nil)) (ReO.var (ReL.cons (Re.base .all) (ReL.cons Re.refl ReL.nil)) (ReO.var (ReL.cons (Re.base .all) (ReL.cons Re.refl ReL.nil)) (ReO.same ReO.nil)))) (Gst.pick [0] rfl rfl))) undef (ResL.cons (ResV.var 0 rfl rfl rfl rfl) (ResL.cons (ResV.tmp rfl) ResL.nil)) rfl rfl rfl rfl
          · refine T.condF rfl (eq_false_of_ne_true c28) ?_
            refine T.skip ?_
            show T X _ _ _
            refine T.seq ?_
            refine T.seq ?_
            obtain ⟨t29, ht29, h0⟩ := bnd_some h0
            refine T.cutC (fun S' => S' = ⟨[(78, .val (.bool t29)), (6, .val (.pointer (some ⟨(blk p2), 0, none⟩))), (5, .val (.int .i64 0)), (4, .val (.pointer (some ⟨(blk p1), 0, none⟩))), (1, .val (.int .i64 t6.1)), (0, .val (.string (bs a0)))], [.var (blk p1) [.val (.slice none 0 0), .val (.int .i64 0)] 97, .var (blk p2) [.val y7, .val (.int .i64 0)] 97, .row y7 (List.map e_ref05_Field t6.2) 4 100], 93⟩) (fun _ h => h) ?_ ?_
            · refine T.region ?_
              refine TL.op1 (OpR.pure rfl) rfl ?_
              refine TL.op1 (OpR.pure rfl) rfl ?_
              refine TL.op1 (OpR.pure rfl) rfl ?_
              refine TL.op1 (OpR.cast (OpR.pure rfl) (intE (lenS _))) rfl ?_
              refine TL.op1 (OpR.pure rfl) rfl ?_
              refine TL.op1 (OpR.pure rfl) rfl ?_
              rcases ite_some ht29 with ⟨c30, ht29⟩ | ⟨c30, ht29⟩
              · refine TL.on rfl rfl rfl rfl (decide_eq_true c30) ?_
                refine TL.op1 (OpR.pure rfl) rfl ?_
                refine TL.on rfl rfl rfl rfl (decide_eq_true c30) ?_
                refine TL.op1 (OpR.pure rfl) rfl ?_
                refine TL.on rfl rfl rfl rfl (decide_eq_true c30) ?_
                obtain ⟨x31, hx31, ht29⟩ := bnd_some ht29
                refine TL.op1 (OpR.indexS hx31 rfl rfl rfl rfl) rfl ?_
                refine TL.on rfl rfl rfl rfl (decide_eq_true c30) ?_
                refine TL.op1 (OpR.pure rfl) rfl ?_
                refine TL.op1 (OpR.pickT rfl (decide_eq_true c30) rfl) rfl ?_
                refine TL.op1 (OpR.pure rfl) rfl ?_
                rcases ite_some ht29 with ⟨c32, ht29⟩ | ⟨c32, ht29⟩
                · refine TL.on rfl rfl rfl rfl (beq_iff_eq.2 c32) ?_
                  refine TL.op1 (OpR.pure rfl) rfl ?_
                  refine TL.on rfl rfl rfl rfl (beq_iff_eq.2 c32) ?_
                  refine TL.op1 (OpR.pure rfl) rfl ?_
                  refine TL.on rfl rfl rfl rfl (beq_iff_eq.2 c32) ?_
                  refine TL.op1 (OpR.pure rfl) rfl ?_
                  refine TL.on rfl rfl rfl rfl (beq_iff_eq.2 c32) ?_
                  obtain ⟨x33, hx33, ht29⟩ := bnd_some ht29
                  refine TL.op1 (OpR.indexS hx33 rfl rfl rfl rfl) rfl ?_
                  refine TL.on rfl rfl rfl rfl (beq_iff_eq.2 c32) ?_
                  refine TL.op1 (OpR.pure rfl) rfl ?_
                  refine TL.op1 (OpR.pickT rfl (beq_iff_eq.2 c32) rfl) rfl ?_
                  refine TL.nil ?_
                  obtain rfl := Option.some.inj ht29
                  exact ⟨_, Gst.only [0, 1, 4, 5, 6, 78] rfl, rfl⟩
                · refine TL.off rfl rfl rfl rfl (beq_eq_false_iff_ne.2 c32) rfl rfl ?_
                  refine TL.off rfl rfl rfl rfl (beq_eq_false_iff_ne.2 c32) rfl rfl ?_
                  refine TL.off rfl rfl rfl rfl (beq_eq_false_iff_ne.2 c32) rfl rfl ?_
                  refine TL.off rfl rfl rfl rfl (beq_eq_false_iff_ne.2 c32) rfl rfl ?_
                  refine TL.off rfl rfl rfl rfl (beq_eq_false_iff_ne.2 c32) rfl rfl ?_
                  refine TL.op1 (OpR.pickF rfl (beq_eq_false_iff_ne.2 c32) rfl) rfl ?_
                  refine TL.nil ?_
                  obtain rfl := Option.some.inj ht29
                  exact ⟨_, Gst.only [0, 1, 4, 5, 6, 78] rfl, rfl⟩
              · refine TL.off rfl rfl rfl rfl (decide_eq_false c30) rfl rfl ?_
                refine TL.off rfl rfl rfl rfl (decide_eq_false c30) rfl rfl ?_
                refine TL.off rfl rfl rfl rfl (decide_eq_false c30) rfl rfl ?_
                refine TL.off rfl rfl rfl rfl (decide_eq_false c30) rfl rfl ?_
                refine TL.op1 (OpR.pickF rfl (decide_eq_false c30) rfl) rfl ?_
                refine TL.op1 (OpR.pure rfl) rfl ?_
                refine TL.off rfl rfl rfl rfl rfl rfl rfl ?_
                refine TL.off rfl rfl rfl rfl rfl rfl rfl ?_
                refine TL.off rfl rfl rfl rfl rfl rfl rfl ?_
                refine TL.off rfl rfl rfl rfl rfl rfl rfl ?_
                refine TL.off rfl rfl rfl rfl rfl rfl rfl ?_
                refine TL.op1 (OpR.pickF rfl rfl rfl) rfl ?_
                refine TL.nil ?_
                obtain rfl := Option.some.inj ht29
                exact ⟨_, Gst.only [0, 1, 4, 5, 6, 78] rfl, rfl⟩
            · rintro _ rfl
              show T X _ _ _
              rcases ite_some h0 with ⟨c34, h0⟩ | ⟨c34, h0⟩
              · refine T.condT rfl (c34) ?_
                refine T.seq ?_
                refine T.region ?_
                refine TL.op1 (OpR.pure rfl) rfl ?_
                refine TL.op0 (OpR.store 1 rfl rfl rfl rfl rfl rfl rfl rfl) ?_
                refine TL.nil ?_
                show T X _ _ _
                refine T.seq ?_
                refine T.region ?_
                refine TL.op1 (OpR.loadPtr 1 rfl rfl rfl rfl) rfl ?_
                refine TL.op1 (OpR.pure rfl) rfl ?_
                refine TL.op1 (OpR.pure rfl) rfl ?_
                refine TL.op0 (OpR.store 0 rfl rfl rfl rfl rfl rfl rfl rfl) ?_
                refine TL.op1 (OpR.pure rfl) rfl ?_
                refine TL.nil ?_
                show T X _ _ _
                refine T.ret ?_
                obtain rfl := Option.some.inj h0
                exact PostG.retP (ks := []) (Gst.trans (Gst.only [4, 5] rfl) (Gst.trans (Gst.freezeRow 2 rfl rfl (ReS.cons Re.refl (ReS.cons Re.refl ReS.nil)) (ReO.var (ReL.cons (Re.base .all) (ReL.cons Re.refl ReL.nil)) (ReO.var (ReL.cons (Re.base .all) (ReL.cons Re.refl ReL.nil)) (ReO.same ReO.nil)))) (Gst.pick [0] rfl rfl))) undef (ResL.cons (ResV.var 0 rfl rfl rfl rfl) (ResL.cons (ResV.tmp rfl) ResL.nil)) rfl rfl rfl rfl
              · refine T.condF rfl (eq_false_of_ne_true c34) ?_
                refine T.skip ?_
                show T X _ _ _
                refine T.seq ?_
                refine T.seq ?_
                refine T.region ?_
                refine TL.op1 (OpR.pure rfl) rfl ?_
                refine TL.op1 (OpR.pure rfl) rfl ?_
                refine TL.op1 (OpR.cast (OpR.pure rfl) (intE (lenS _))) rfl ?_
                refine TL.op1 (OpR.pure rfl) rfl ?_
                refine TL.nil ?_
                show T X _ _ _
                rcases ite_some h0 with ⟨c35, h0⟩ | ⟨c35, h0⟩
                · refine T.condT rfl (decide_eq_true c35) ?_
                  refine T.seq ?_
                  refine T.region ?_
                  refine TL.op1 (OpR.pure rfl) rfl ?_
                  refine TL.op0 (OpR.store 1 rfl rfl rfl rfl rfl rfl rfl rfl) ?_
                  refine TL.nil ?_
                  show T X _ _ _
                  refine T.seq ?_
                  refine T.region ?_
                  refine TL.op1 (OpR.loadPtr 1 rfl rfl rfl rfl) rfl ?_
                  refine TL.op1 (OpR.pure rfl) rfl ?_
                  refine TL.op1 (OpR.pure rfl) rfl ?_
                  refine TL.op0 (OpR.store 0 rfl rfl rfl rfl rfl rfl rfl rfl) ?_
                  refine TL.op1 (OpR.pure rfl) rfl ?_
                  refine TL.nil ?_
                  show T X _ _ _
                  refine T.ret ?_
                  obtain rfl := Option.some.inj h0
                  exact PostG.retP (ks := []) (Gst.trans (Gst.only [4, 5] rfl) (Gst.trans (Gst.freezeRow 2 rfl rfl (ReS.cons Re.refl (ReS.cons Re.refl ReS.nil)) (ReO.var (ReL.cons (Re.base .all) (ReL.cons Re.refl ReL.nil)) (ReO.var (ReL.cons (Re.base .all) (ReL.cons Re.refl ReL.nil)) (ReO.same ReO.nil)))) (Gst.pick [0] rfl rfl))) undef (ResL.cons (ResV.var 0 rfl rfl rfl rfl) (ResL.cons (ResV.tmp rfl) ResL.nil)) rfl rfl rfl rfl
                · refine T.condF rfl (decide_eq_false c35) ?_
                  refine T.skip ?_
                  show T X _ _ _
                  refine T.seq ?_
                  refine T.region ?_
                  refine TL.op1 (OpR.loadPtr 1 rfl rfl rfl rfl) rfl ?_
                  refine TL.op1 (OpR.pure rfl) rfl ?_
                  refine TL.op0 (OpR.store 0 rfl rfl rfl rfl rfl rfl rfl rfl) ?_
                  refine TL.op1 (OpR.pure rfl) rfl ?_
                  refine TL.nil ?_
                  show T X _ _ _
                  refine T.ret ?_
                  obtain rfl := Option.some.inj h0
                  exact PostG.retP (ks := []) (Gst.trans (Gst.only [4, 5] rfl) (Gst.trans (Gst.freezeRow 2 rfl rfl (ReS.cons Re.refl (ReS.cons Re.refl ReS.nil)) (ReO.var (ReL.cons (Re.base .all) (ReL.cons Re.refl ReL.nil)) (ReO.var (ReL.cons (Re.base .all) (ReL.cons Re.refl ReL.nil)) (ReO.same ReO.nil)))) (Gst.pick [0] rfl rfl))) undef (ResL.cons (ResV.var 0 rfl rfl rfl rfl) (ResL.cons (ResV.tmp rfl) ResL.nil)) rfl rfl rfl rfl
theorem fn50 : IsFn X 50 := ⟨Try.f50, Try.func50, by kernel_rfl, rfl⟩
noncomputable def ref05_Text.l1 (a0 : List UInt8) (a1 : List Int) (s2 : (List UInt8) × Int) : Option (Lp ((List UInt8) × Int) (List UInt8)) :=
  if s2.2 < (a1.length : Int) then
    bnd (idx a1 s2.2) fun x11 =>
    bnd (cut a0 x11 (w64 (x11 + 1))) fun x12 =>
    bnd (catS s2.1 x12) fun x13 =>
    some (Lp.next (x13, w64 (s2.2 + 1)))
  else
    some (Lp.done s2.1)
noncomputable def ref05_Text (a0 : List UInt8) (a1 : List Int) : Option (List UInt8) :=
  bnd (loop (ref05_Text.l1 a0 a1) ([], 0) : Option (List UInt8)) fun t1 =>
  some t1
set_option maxHeartbeats 4000000 in
theorem ref05_Text_c {a0 : List UInt8} {a1 : List Int} {res : (List UInt8)} (h0 : ref05_Text a0 a1 = some res) : CallF X 50 [.val (.string (bs a0)), .sl 1 (List.map (eI .i64) a1)] [] (fun x => .val (.string (bs res))) (fun x => []) := by
  unfold ref05_Text at h0
  refine CallF.mkG (X := X) Try.func50 rfl rfl Try.ntmps50 rfl rfl ?_
  refine T.seq ?_
  refine T.region ?_
  refine TL.op1 (OpR.pure rfl) rfl ?_
  refine TL.nil ?_
  show T X _ _ _
  refine T.seq ?_
  refine T.region ?_
  refine TL.op1 (OpR.pure rfl) rfl ?_
  refine TL.nil ?_
  show T X _ _ _
  refine T.seq ?_
  refine T.seq ?_
  refine T.region ?_
  refine TL.op1 (OpR.pure rfl) rfl ?_
  refine TL.op1 (OpR.cast (OpR.pure rfl) (intE (lenM _ _))) rfl ?_
  refine TL.op1 (OpR.pure rfl) rfl ?_
  refine TL.nil ?_
  show T X _ _ _
  obtain ⟨t1, ht1, h0⟩ := bnd_some h0
  refine T.cutC (fun S' => S' = ⟨[(5, .val (.string (bs t1))), (4, .val (.string (bs [])))], [], 23⟩) (fun _ h => h) ?_ ?_
  · refine T.block ?_
    obtain ⟨n3, n8⟩ := loop_some ht1
    refine T.loop (fun n S' => ∃ S'', Gst S' S'' ∧ ∃ s2 : (List UInt8) × Int, S'' = ⟨[(10, .val (.int .i64 s2.2)), (9, .val (.int .i64 (a1.length : Int))), (8, .sl 1 (List.map (eI .i64) a1)), (5, .val (.string (bs s2.1))), (4, .val (.string (bs []))), (0, .val (.string (bs a0)))], [], 23⟩ ∧ iter (ref05_Text.l1 a0 a1) n s2 = some t1) n3 ?_ ?_
    · exact ⟨_, Gst.only [0, 4, 5, 8, 9, 10] rfl, ([], 0), rfl, n8⟩
    rintro n3 _ ⟨_, g, s2, rfl, i7⟩
    refine T.ghost g ?_
    obtain ⟨m4, q5, rfl, q6, i7⟩ := iter_succ i7
    unfold ref05_Text.l1 at q6
    refine T.seq ?_
    refine T.region ?_
    refine TL.op1 (OpR.pure rfl) rfl ?_
    refine TL.nil ?_
    show T X _ _ _
    refine T.seq ?_
    rcases ite_some q6 with ⟨c10, q6⟩ | ⟨c10, q6⟩
    · refine T.condT rfl (decide_eq_true c10) ?_
      refine T.skip ?_
      show T X _ _ _
      refine T.seq ?_
      refine T.block ?_
      refine T.seq ?_
      refine T.region ?_
      obtain ⟨x11, hx11, q6⟩ := bnd_some q6
      refine TL.op1 (OpR.indexM (eI .i64) hx11 rfl rfl rfl rfl rfl) rfl ?_
      refine TL.op1 (OpR.pure rfl) rfl ?_
      refine TL.op1 (OpR.pure rfl) rfl ?_
      refine TL.nil ?_
      show T X _ _ _
      refine T.region ?_
      refine TL.op1 (OpR.pure rfl) rfl ?_
      refine TL.op1 (OpR.pure rfl) rfl ?_
      refine TL.op1 (OpR.pure rfl) rfl ?_
      refine TL.op1 (OpR.pure rfl) rfl ?_
      refine TL.op1 (OpR.pure rfl) rfl ?_
      obtain ⟨x12, hx12, q6⟩ := bnd_some q6
      refine TL.op1 (OpR.sliceS hx12 rfl rfl rfl (BdM.some rfl) (BdM.some rfl)) rfl ?_
      obtain ⟨x13, hx13, q6⟩ := bnd_some q6
      refine TL.op1 (OpR.concatM hx13 rfl rfl) rfl ?_
      refine TL.op1 (OpR.pure rfl) rfl ?_
      refine TL.nil ?_
      show T X _ _ _
      refine T.region ?_
      refine TL.op1 (OpR.pure rfl) rfl ?_
      refine TL.op1 (OpR.pure rfl) rfl ?_
      refine TL.nil ?_
      obtain rfl := Option.some.inj q6
      exact ⟨m4, Nat.lt_succ_self _, _, Gst.only [0, 4, 5, 8, 9, 10] rfl, (x13, w64 (s2.2 + 1)), rfl, i7⟩
    · refine T.condF rfl (decide_eq_false c10) ?_
      refine T.exit ?_
      obtain rfl := Option.some.inj q6
      obtain rfl : _ = _ := i7
      exact ⟨_, Gst.only [4, 5] rfl, rfl⟩
  · rintro _ rfl
    show T X _ _ _
    refine T.seq ?_
    refine T.region ?_
    refine TL.op1 (OpR.pure rfl) rfl ?_
    refine TL.op1 (OpR.pure rfl) rfl ?_
    refine TL.nil ?_
    show T X _ _ _
    refine T.ret ?_
    obtain rfl := Option.some.inj h0
    exact PostG.retP (ks := []) (Gst.only [4] rfl) undef (ResL.cons (ResV.tmp rfl) ResL.nil) rfl rfl rfl rfl
theorem fn22 : IsFn X 22 := ⟨Try.f22, Try.func22, by kernel_rfl, rfl⟩
noncomputable def ref06_Read (a0 : List UInt8) : Option ((List UInt8) × Int) :=
  bnd (ref05_One a0 0) fun x1 =>
  if (x1.1.fFields.length : Int) = 0 then
    some ([], 0)
  else
    bnd (idx x1.1.fFields 0) fun x5 =>
    bnd (ref05_Text a0 x5.fBytes) fun x6 =>
    some (x6, x5.fKind)
set_option maxHeartbeats 4000000 in
theorem ref06_Read_c {a0 : List UInt8} {res : (List UInt8) × Int} (h0 : ref06_Read a0 = some res) : CallF X 22 [.val (.string (bs a0))] [] (fun x => .tup [.val (.string (bs res.1)), .val (.int .i64 res.2)]) (fun x => []) := by
  unfold ref06_Read at h0
  refine CallF.mkG (X := X) Try.func22 rfl rfl Try.ntmps22 rfl rfl ?_
  refine T.seq ?_
  refine T.region ?_
  refine TL.op1 (OpR.pure rfl) rfl ?_
  refine TL.op1 (OpR.pure rfl) rfl ?_
  refine TL.nil ?_
  show T X _ _ _
  refine T.seq ?_
  refine T.region ?_
  refine TL.op1 (OpR.pure rfl) rfl ?_
  obtain ⟨x1, hx1, h0⟩ := bnd_some h0
  refine TL.op1 (OpR.call0 fn61 (ref05_One_c hx1) rfl) rfl ?_
  refine TL.op1 (OpR.pure rfl) rfl ?_
  refine TL.op1 (OpR.pure rfl) rfl ?_
  refine TL.op1 (OpR.pure rfl) rfl ?_
  refine TL.op (OpR.alloc rfl rfl (fun _ => rfl)) rfl (fun p2 => ?_)
  refine TL.op0 (OpR.store 0 rfl rfl rfl rfl rfl rfl rfl rfl) ?_
  refine TL.op1 (OpR.pure rfl) rfl ?_
  refine TL.nil ?_
  show T X _ _ _
  refine T.seq ?_
  refine T.seq ?_
  refine T.region ?_
  refine TL.op1 (OpR.pure rfl) rfl ?_
  refine TL.op1 (OpR.loadPtr 0 rfl rfl rfl rfl) rfl ?_
  refine TL.op1 (OpR.cast (OpR.pure rfl) (intE (lenM _ _))) rfl ?_
  refine TL.op1 (OpR.pure rfl) rfl ?_
  refine TL.nil ?_
  show T X _ _ _
  rcases ite_some h0 with ⟨c3, h0⟩ | ⟨c3, h0⟩
  · refine T.condT rfl (beq_iff_eq.2 c3) ?_
    refine T.seq ?_
    refine T.region ?_
    refine TL.op1 (OpR.pure rfl) rfl ?_
    refine TL.op1 (OpR.pure rfl) rfl ?_
    refine TL.nil ?_
    show T X _ _ _
    refine T.ret ?_
    obtain rfl := Option.some.inj h0
    exact PostG.retP (ks := []) (Gst.trans (Gst.only [2, 3] rfl) (Gst.pick [] rfl rfl)) undef (ResL.cons (ResV.tmp rfl) (ResL.cons (ResV.tmp rfl) ResL.nil)) rfl rfl rfl rfl
  · refine T.condF rfl (beq_eq_false_iff_ne.2 c3) ?_
    refine T.skip ?_
    show T X _ _ _
    refine T.seq ?_
    obtain ⟨x5, hx5, h0⟩ := bnd_some h0
    obtain ⟨x6, hx6, h0⟩ := bnd_some h0
    refine T.drawQ drawsX [.val (.string (bs a0)), .val (.pointer (some ⟨(blk p2), 0, none⟩)), .sl 4 (List.map e_ref05_Field x1.1.fFields), .nod [.val (.int .i64 x5.fRaw.fAt), .val (.int .i64 x5.fRaw.fN), .val (.int .i64 x5.fKind), .sl 1 (List.map (eI .i64) x5.fBytes)], .nod [.sl 1 (List.map (eI .i64) x5.fBytes)], .sl 1 (List.map (eI .i64) x5.fBytes), .val (.string (bs x6)), .val (.pointer (some ⟨(blk p2), 0, none⟩)), .sl 4 (List.map e_ref05_Field x1.1.fFields), .nod [.val (.int .i64 x5.fRaw.fAt), .val (.int .i64 x5.fRaw.fN), .val (.int .i64 x5.fKind), .sl 1 (List.map (eI .i64) x5.fBytes)], .nod [.val (.int .i64 x5.fKind), .sl 1 (List.map (eI .i64) x5.fBytes)], .val (.int .i64 x5.fKind), .val (.string (bs x6)), .val (.int .i64 x5.fKind)] [0, 2, 3, 4, 5, 6, 7, 8, 9, 10, 11, 12, 13, 14, 15, 16, 17, 18, 19, 20, 21, 22, 23, 24, 25, 26] (by decide +kernel) rfl ?_ rfl ?_
    · refine OpsQ.yes (Want.plain rfl) rfl (OpR.pure rfl) ?_
      refine OpsQ.yes (Want.plain rfl) rfl (OpR.pure rfl) ?_
      refine OpsQ.yes (Want.plain rfl) rfl (OpR.loadPtr 0 rfl rfl rfl rfl) ?_
      refine OpsQ.yes (Want.plain rfl) rfl (OpR.indexM e_ref05_Field hx5 rfl rfl rfl rfl rfl) ?_
      refine OpsQ.yes (Want.plain rfl) rfl (OpR.pure rfl) ?_
      refine OpsQ.yes (Want.plain rfl) rfl (OpR.pure rfl) ?_
      refine OpsQ.yes (Want.plain rfl) rfl (OpR.call0 fn50 (ref05_Text_c hx6) rfl) ?_
      refine OpsQ.yes (Want.plain rfl) rfl (OpR.pure rfl) ?_
      refine OpsQ.yes (Want.plain rfl) rfl (OpR.loadPtr 0 rfl rfl rfl rfl) ?_
      refine OpsQ.yes (Want.plain rfl) rfl (OpR.indexM e_ref05_Field hx5 rfl rfl rfl rfl rfl) ?_
      refine OpsQ.yes (Want.plain rfl) rfl (OpR.pure rfl) ?_
      refine OpsQ.yes (Want.plain rfl) rfl (OpR.pure rfl) ?_
      refine OpsQ.yes (Want.plain rfl) rfl (OpR.pure rfl) ?_
      refine OpsQ.yes (Want.plain rfl) rfl (OpR.pure rfl) ?_
      exact OpsQ.nil
    · show T X _ _ _
      refine T.ret ?_
      obtain rfl := Option.some.inj h0
      exact PostG.retP (ks := []) (Gst.trans (Gst.only [2, 3] rfl) (Gst.pick [] rfl rfl)) undef (ResL.cons (ResV.tmp rfl) (ResL.cons (ResV.tmp rfl) ResL.nil)) rfl rfl rfl rfl
theorem fn4 : IsFn X 4 := ⟨Try.f4, Try.func4, by kernel_rfl, rfl⟩
noncomputable def law06_QuoteReads (a0 : List UInt8) : Option Bool :=
  bnd (law06_cut a0 400) fun x1 =>
  bnd (quote_Read x1) fun x2 =>
  bnd (ref06_Read x1) fun x3 =>
  bnd (if x2.1 = x3.1 then
    if x2.2 = x3.2 then
      bnd (law06_awake) fun x7 =>
      some x7
    else
      some false
  else
    some false : Option Bool) fun t4 =>
  some t4
set_option maxHeartbeats 4000000 in
theorem law06_QuoteReads_c {a0 : List UInt8} {res : Bool} (h0 : law06_QuoteReads a0 = some res) : CallF X 4 [.val (.string (bs a0))] [] (fun x => .val (.bool res)) (fun x => []) := by
  unfold law06_QuoteReads at h0
  refine CallF.mkG (X := X) Try.func4 rfl rfl Try.ntmps4 rfl rfl ?_
  refine T.seq ?_
  refine T.region ?_
  refine TL.op1 (OpR.pure rfl) rfl ?_
  refine TL.nil ?_
  show T X _ _ _
  refine T.seq ?_
  refine T.region ?_
  refine TL.op1 (OpR.pure rfl) rfl ?_
  obtain ⟨x1, hx1, h0⟩ := bnd_some h0
  refine TL.op1 (OpR.call0 fn14 (law06_cut_c hx1) rfl) rfl ?_
  refine TL.op1 (OpR.pure rfl) rfl ?_
  refine TL.nil ?_
  show T X _ _ _
  refine T.seq ?_
  refine T.region ?_
  refine TL.op1 (OpR.pure rfl) rfl ?_
  refine TL.op1 (OpR.toBytesM rfl rfl rfl rfl rfl rfl rfl) rfl ?_
  obtain ⟨x2, hx2, h0⟩ := bnd_some h0
  refine TL.op1 (OpR.call0 fn21 (quote_Read_c hx2) rfl) rfl ?_
  refine TL.op1 (OpR.pure rfl) rfl ?_
  refine TL.op1 (OpR.pure rfl) rfl ?_
  refine TL.op1 (OpR.pure rfl) rfl ?_
  refine TL.op1 (OpR.pure rfl) rfl ?_
  refine TL.op1 (OpR.pure rfl) rfl ?_
  refine TL.nil ?_
  show T X _ _ _
  refine T.seq ?_
  refine T.region ?_
  refine TL.op1 (OpR.pure rfl) rfl ?_
  obtain ⟨x3, hx3, h0⟩ := bnd_some h0
  refine TL.op1 (OpR.call0 fn22 (ref06_Read_c hx3) rfl) rfl ?_
  refine TL.op1 (OpR.pure rfl) rfl ?_
  refine TL.op1 (OpR.pure rfl) rfl ?_
  refine TL.op1 (OpR.pure rfl) rfl ?_
  refine TL.op1 (OpR.pure rfl) rfl ?_
  refine TL.op1 (OpR.pure rfl) rfl ?_
  refine TL.nil ?_
  show T X _ _ _
  refine T.seq ?_
  obtain ⟨t4, ht4, h0⟩ := bnd_some h0
  refine T.cutC (fun S' => S' = ⟨[(2, .val (.bool t4))], [], 32⟩) (fun _ h => h) ?_ ?_
  · refine T.region ?_
    refine TL.op1 (OpR.pure rfl) rfl ?_
    refine TL.op1 (OpR.toStr (bs := x2.1) rfl rfl rfl rfl rfl rfl rfl) rfl ?_
    refine TL.op1 (OpR.pure rfl) rfl ?_
    refine TL.op1 (OpR.cast (OpR.pure rfl) (boolE (strEq _ _))) rfl ?_
    refine TL.op1 (OpR.pure rfl) rfl ?_
    rcases ite_some ht4 with ⟨c5, ht4⟩ | ⟨c5, ht4⟩
    · refine TL.on rfl rfl rfl rfl (beq_iff_eq.2 c5) ?_
      refine TL.op1 (OpR.pure rfl) rfl ?_
      refine TL.on rfl rfl rfl rfl (beq_iff_eq.2 c5) ?_
      refine TL.op1 (OpR.pure rfl) rfl ?_
      refine TL.on rfl rfl rfl rfl (beq_iff_eq.2 c5) ?_
      refine TL.op1 (OpR.pure rfl) rfl ?_
      refine TL.op1 (OpR.pickT rfl (beq_iff_eq.2 c5) rfl) rfl ?_
      refine TL.op1 (OpR.pure rfl) rfl ?_
      rcases ite_some ht4 with ⟨c6, ht4⟩ | ⟨c6, ht4⟩
      · refine TL.on rfl rfl rfl rfl (beq_iff_eq.2 c6) ?_
        obtain ⟨x7, hx7, ht4⟩ := bnd_some ht4
        refine TL.op1 (OpR.call0 fn20 (law06_awake_c hx7) rfl) rfl ?_
        refine TL.op1 (OpR.pickT rfl (beq_iff_eq.2 c6) rfl) rfl ?_
        refine TL.op1 (OpR.pure rfl) rfl ?_
        refine TL.nil ?_
        obtain rfl := Option.some.inj ht4
        exact ⟨_, Gst.only [2] rfl, rfl⟩
      · refine TL.off rfl rfl rfl rfl (beq_eq_false_iff_ne.2 c6) rfl rfl ?_
        refine TL.op1 (OpR.pickF rfl (beq_eq_false_iff_ne.2 c6) rfl) rfl ?_
        refine TL.op1 (OpR.pure rfl) rfl ?_
        refine TL.nil ?_
        obtain rfl := Option.some.inj ht4
        exact ⟨_, Gst.only [2] rfl, rfl⟩
    · refine TL.off rfl rfl rfl rfl (beq_eq_false_iff_ne.2 c5) rfl rfl ?_
      refine TL.off rfl rfl rfl rfl (beq_eq_false_iff_ne.2 c5) rfl rfl ?_
      refine TL.off rfl rfl rfl rfl (beq_eq_false_iff_ne.2 c5) rfl rfl ?_
      refine TL.op1 (OpR.pickF rfl (beq_eq_false_iff_ne.2 c5) rfl) rfl ?_
      refine TL.op1 (OpR.pure rfl) rfl ?_
      refine TL.off rfl rfl rfl rfl rfl rfl rfl ?_
      refine TL.op1 (OpR.pickF rfl rfl rfl) rfl ?_
      refine TL.op1 (OpR.pure rfl) rfl ?_
      refine TL.nil ?_
      obtain rfl := Option.some.inj ht4
      exact ⟨_, Gst.only [2] rfl, rfl⟩
  · rintro _ rfl
    show T X _ _ _
    refine T.ret ?_
    obtain rfl := Option.some.inj h0
    exact PostG.retP (ks := []) (Gst.only [2] rfl) undef (ResL.cons (ResV.tmp rfl) ResL.nil) rfl rfl rfl rfl
theorem fn23 : IsFn X 23 := ⟨Try.f23, Try.func23, by kernel_rfl, rfl⟩
noncomputable def scan_Fine (a0 : Int) : Option Bool :=
  bnd (if a0 = 0 then
    some true
  else
    some (a0 == 1) : Option Bool) fun t1 =>
  some t1
set_option maxHeartbeats 4000000 in
theorem scan_Fine_c {a0 : Int} {res : Bool} (h0 : scan_Fine a0 = some res) : CallF X 23 [.val (.int .i64 a0)] [] (fun x => .val (.bool res)) (fun x => []) := by
  unfold scan_Fine at h0
  refine CallF.mkG (X := X) Try.func23 rfl rfl Try.ntmps23 rfl rfl ?_
  refine T.seq ?_
  refine T.region ?_
  refine TL.op1 (OpR.pure rfl) rfl ?_
  refine TL.nil ?_
  show T X _ _ _
  refine T.seq ?_
  obtain ⟨t1, ht1, h0⟩ := bnd_some h0
  refine T.cutC (fun S' => S' = ⟨[(2, .val (.bool t1))], [], 9⟩) (fun _ h => h) ?_ ?_
  · refine T.region ?_
    refine TL.op1 (OpR.pure rfl) rfl ?_
    refine TL.op1 (OpR.pure rfl) rfl ?_
    refine TL.op1 (OpR.pure rfl) rfl ?_
    rcases ite_some ht1 with ⟨c2, ht1⟩ | ⟨c2, ht1⟩
    · refine TL.off rfl rfl rfl rfl (beq_iff_eq.2 c2) rfl rfl ?_
      refine TL.off rfl rfl rfl rfl (beq_iff_eq.2 c2) rfl rfl ?_
      refine TL.op1 (OpR.pickT rfl (beq_iff_eq.2 c2) rfl) rfl ?_
      refine TL.op1 (OpR.pure rfl) rfl ?_
      refine TL.nil ?_
      obtain rfl := Option.some.inj ht1
      exact ⟨_, Gst.only [2] rfl, rfl⟩
    · refine TL.on rfl rfl rfl rfl (beq_eq_false_iff_ne.2 c2) ?_
      refine TL.op1 (OpR.pure rfl) rfl ?_
      refine TL.on rfl rfl rfl rfl (beq_eq_false_iff_ne.2 c2) ?_
      refine TL.op1 (OpR.pure rfl) rfl ?_
      refine TL.op1 (OpR.pickF rfl (beq_eq_false_iff_ne.2 c2) rfl) rfl ?_
      refine TL.op1 (OpR.pure rfl) rfl ?_
      refine TL.nil ?_
      obtain rfl := Option.some.inj ht1
      exact ⟨_, Gst.only [2] rfl, rfl⟩
  · rintro _ rfl
    show T X _ _ _
    refine T.ret ?_
    obtain rfl := Option.some.inj h0
    exact PostG.retP (ks := []) (Gst.only [2] rfl) undef (ResL.cons (ResV.tmp rfl) ResL.nil) rfl rfl rfl rfl
theorem fn5 : IsFn X 5 := ⟨Try.f5, Try.func5, by kernel_rfl, rfl⟩
noncomputable def law06_QuoteBack (a0 : List UInt8) (a1 : List UInt8) : Option Bool :=
  bnd (law06_cut a0 400) fun x1 =>
  bnd (quote_Put x1) fun x2 =>
  bnd (quote_Read x2) fun x3 =>
  bnd (catS x2 [44]) fun x5 =>
  bnd (law06_cut a1 100) fun x6 =>
  bnd (catS x5 x6) fun x7 =>
  bnd (quote_Read x7) fun x8 =>
  bnd (if x3.1 = x1 then
    if x8.1 = x1 then
      if x3.2 = x8.2 then
        bnd (scan_Fine x3.2) fun x13 =>
        if x13 = true then
          bnd (quote_Needs x1) fun x15 =>
          if ((x3.2 == 1) == x15) = true then
            bnd (law06_awake) fun x17 =>
            some x17
          else
            some false
        else
          some false
      else
        some false
    else
      some false
  else
    some false : Option Bool) fun t9 =>
  some t9
set_option maxHeartbeats 4000000 in
theorem law06_QuoteBack_c {a0 : List UInt8} {a1 : List UInt8} {res : Bool} (h0 : law06_QuoteBack a0 a1 = some res) : CallF X 5 [.val (.string (bs a0)), .val (.string (bs a1))] [] (fun x => .val (.bool res)) (fun x => []) := by
  unfold law06_QuoteBack at h0
  refine CallF.mkG (X := X) Try.func5 rfl rfl Try.ntmps5 rfl rfl ?_
  refine T.seq ?_
  refine T.region ?_
  refine TL.op1 (OpR.pure rfl) rfl ?_
  refine TL.nil ?_
  show T X _ _ _
  refine T.seq ?_
  refine T.region ?_
  refine TL.op1 (OpR.pure rfl) rfl ?_
  obtain ⟨x1, hx1, h0⟩ := bnd_some h0
  refine TL.op1 (OpR.call0 fn14 (law06_cut_c hx1) rfl) rfl ?_
  refine TL.op1 (OpR.pure rfl) rfl ?_
  refine TL.nil ?_
  show T X _ _ _
  refine T.seq ?_
  refine T.region ?_
  refine TL.op1 (OpR.pure rfl) rfl ?_
  refine TL.op1 (OpR.toBytesM rfl rfl rfl rfl rfl rfl rfl) rfl ?_
  obtain ⟨x2, hx2, h0⟩ := bnd_some h0
  refine TL.op1 (OpR.call0 fn18 (quote_Put_c hx2) rfl) rfl ?_
  refine TL.op1 (OpR.pure rfl) rfl ?_
  refine TL.nil ?_
  show T X _ _ _
  refine T.seq ?_
  refine T.region ?_
  refine TL.op1 (OpR.pure rfl) rfl ?_
  obtain ⟨x3, hx3, h0⟩ := bnd_some h0
  refine TL.op1 (OpR.call0 fn21 (quote_Read_c hx3) rfl) rfl ?_
  refine TL.op1 (OpR.pure rfl) rfl ?_
  refine TL.op1 (OpR.pure rfl) rfl ?_
  refine TL.op1 (OpR.pure rfl) rfl ?_
  refine TL.op1 (OpR.pure rfl) rfl ?_
  refine TL.op1 (OpR.pure rfl) rfl ?_
  refine TL.nil ?_
  show T X _ _ _
  refine T.seq ?_
  obtain ⟨x5, hx5, h0⟩ := bnd_some h0
  obtain ⟨x6, hx6, h0⟩ := bnd_some h0
  obtain ⟨x7, hx7, h0⟩ := bnd_some h0
  obtain ⟨x8, hx8, h0⟩ := bnd_some h0
  refine T.drawQ drawsX [.sl 1 (List.map byteD x2), .val (.string (bs x2)), .val (.string (bs x5)), .val (.string (bs a1)), .val (.string (bs x6)), .val (.string (bs x7)), .sl 1 (List.map byteD x7), .tup [.sl 1 (List.map byteD x8.1), .val (.int .i64 x8.2)], .tup [.sl 1 (List.map byteD x8.1), .val (.int .i64 x8.2)], .sl 1 (List.map byteD x8.1), .val (.int .i64 x8.2), .sl 1 (List.map byteD x8.1), .val (.int .i64 x8.2)] [0, 1, 4, 5, 6, 7, 8, 9, 10, 11, 12, 13, 14, 15, 16, 17, 18, 19, 20, 21, 22, 23, 24, 25, 26, 27, 28, 29, 30] (by decide +kernel) rfl ?_ rfl ?_
  · refine OpsQ.yes (Want.plain rfl) rfl (OpR.pure rfl) ?_
    refine OpsQ.yes (Want.plain rfl) rfl (OpR.toStr (bs := x2) rfl rfl rfl rfl rfl rfl rfl) ?_
    refine OpsQ.yes (Want.plain rfl) rfl (OpR.concatM hx5 rfl rfl) ?_
    refine OpsQ.yes (Want.plain rfl) rfl (OpR.pure rfl) ?_
    refine OpsQ.yes (Want.plain rfl) rfl (OpR.call0 fn14 (law06_cut_c hx6) rfl) ?_
    refine OpsQ.yes (Want.plain rfl) rfl (OpR.concatM hx7 rfl rfl) ?_
    refine OpsQ.yes (Want.plain rfl) rfl (OpR.toBytesM rfl rfl rfl rfl rfl rfl rfl) ?_
    refine OpsQ.yes (Want.plain rfl) rfl (OpR.call0 fn21 (quote_Read_c hx8) rfl) ?_
    refine OpsQ.yes (Want.plain rfl) rfl (OpR.pure rfl) ?_
    refine OpsQ.yes (Want.plain rfl) rfl (OpR.pure rfl) ?_
    refine OpsQ.yes (Want.plain rfl) rfl (OpR.pure rfl) ?_
    refine OpsQ.yes (Want.plain rfl) rfl (OpR.pure rfl) ?_
    refine OpsQ.yes (Want.plain rfl) rfl (OpR.pure rfl) ?_
    exact OpsQ.nil
  · show T X _ _ _
    refine T.seq ?_
    obtain ⟨t9, ht9, h0⟩ := bnd_some h0
    refine T.cutC (fun S' => S' = ⟨[(4, .val (.bool t9))], [], 61⟩) (fun _ h => h) ?_ ?_
    · refine T.region ?_
      refine TL.op1 (OpR.pure rfl) rfl ?_
      refine TL.op1 (OpR.toStr (bs := x3.1) rfl rfl rfl rfl rfl rfl rfl) rfl ?_
      refine TL.op1 (OpR.pure rfl) rfl ?_
      refine TL.op1 (OpR.cast (OpR.pure rfl) (boolE (strEq _ _))) rfl ?_
      refine TL.op1 (OpR.pure rfl) rfl ?_
      rcases ite_some ht9 with ⟨c10, ht9⟩ | ⟨c10, ht9⟩
      · refine TL.on rfl rfl rfl rfl (beq_iff_eq.2 c10) ?_
        refine TL.op1 (OpR.pure rfl) rfl ?_
        refine TL.on rfl rfl rfl rfl (beq_iff_eq.2 c10) ?_
        refine TL.op1 (OpR.toStr (bs := x8.1) rfl rfl rfl rfl rfl rfl rfl) rfl ?_
        refine TL.on rfl rfl rfl rfl (beq_iff_eq.2 c10) ?_
        refine TL.op1 (OpR.pure rfl) rfl ?_
        refine TL.on rfl rfl rfl rfl (beq_iff_eq.2 c10) ?_
        refine TL.op1 (OpR.cast (OpR.pure rfl) (boolE (strEq _ _))) rfl ?_
        refine TL.op1 (OpR.pickT rfl (beq_iff_eq.2 c10) rfl) rfl ?_
        refine TL.op1 (OpR.pure rfl) rfl ?_
        rcases ite_some ht9 with ⟨c11, ht9⟩ | ⟨c11, ht9⟩
        · refine TL.on rfl rfl rfl rfl (beq_iff_eq.2 c11) ?_
          refine TL.op1 (OpR.pure rfl) rfl ?_
          refine TL.on rfl rfl rfl rfl (beq_iff_eq.2 c11) ?_
          refine TL.op1 (OpR.pure rfl) rfl ?_
          refine TL.on rfl rfl rfl rfl (beq_iff_eq.2 c11) ?_
          refine TL.op1 (OpR.pure rfl) rfl ?_
          refine TL.op1 (OpR.pickT rfl (beq_iff_eq.2 c11) rfl) rfl ?_
          refine TL.op1 (OpR.pure rfl) rfl ?_
          rcases ite_some ht9 with ⟨c12, ht9⟩ | ⟨c12, ht9⟩
          · refine TL.on rfl rfl rfl rfl (beq_iff_eq.2 c12) ?_
            refine TL.op1 (OpR.pure rfl) rfl ?_
            refine TL.on rfl rfl rfl rfl (beq_iff_eq.2 c12) ?_
            obtain ⟨x13, hx13, ht9⟩ := bnd_some ht9
            refine TL.op1 (OpR.call0 fn23 (scan_Fine_c hx13) rfl) rfl ?_
            refine TL.op1 (OpR.pickT rfl (beq_iff_eq.2 c12) rfl) rfl ?_
            refine TL.op1 (OpR.pure rfl) rfl ?_
            rcases ite_some ht9 with ⟨c14, ht9⟩ | ⟨c14, ht9⟩
            · refine TL.on rfl rfl rfl rfl (c14) ?_
              refine TL.op1 (OpR.pure rfl) rfl ?_
              refine TL.on rfl rfl rfl rfl (c14) ?_
              refine TL.op1 (OpR.pure rfl) rfl ?_
              refine TL.on rfl rfl rfl rfl (c14) ?_
              refine TL.op1 (OpR.pure rfl) rfl ?_
              refine TL.on rfl rfl rfl rfl (c14) ?_
              refine TL.op1 (OpR.toBytesM rfl rfl rfl rfl rfl rfl rfl) rfl ?_
              refine TL.on rfl rfl rfl rfl (c14) ?_
              obtain ⟨x15, hx15, ht9⟩ := bnd_some ht9
              refine TL.op1 (OpR.call0 fn16 (quote_Needs_c hx15) rfl) rfl ?_
              refine TL.on rfl rfl rfl rfl (c14) ?_
              refine TL.op1 (OpR.eqBool rfl rfl rfl rfl) rfl ?_
              refine TL.op1 (OpR.pickT rfl (c14) rfl) rfl ?_
              refine TL.op1 (OpR.pure rfl) rfl ?_
              rcases ite_some ht9 with ⟨c16, ht9⟩ | ⟨c16, ht9⟩
              · refine TL.on rfl rfl rfl rfl (c16) ?_
                obtain ⟨x17, hx17, ht9⟩ := bnd_some ht9
                refine TL.op1 (OpR.call0 fn20 (law06_awake_c hx17) rfl) rfl ?_
                refine TL.op1 (OpR.pickT rfl (c16) rfl) rfl ?_
                refine TL.op1 (OpR.pure rfl) rfl ?_
                refine TL.nil ?_
                obtain rfl := Option.some.inj ht9
                exact ⟨_, Gst.only [4] rfl, rfl⟩
              · refine TL.off rfl rfl rfl rfl (eq_false_of_ne_true c16) rfl rfl ?_
                refine TL.op1 (OpR.pickF rfl (eq_false_of_ne_true c16) rfl) rfl ?_
                refine TL.op1 (OpR.pure rfl) rfl ?_
                refine TL.nil ?_
                obtain rfl := Option.some.inj ht9
                exact ⟨_, Gst.only [4] rfl, rfl⟩
            · refine TL.off rfl rfl rfl rfl (eq_false_of_ne_true c14) rfl rfl ?_
              refine TL.off rfl rfl rfl rfl (eq_false_of_ne_true c14) rfl rfl ?_
              refine TL.off rfl rfl rfl rfl (eq_false_of_ne_true c14) rfl rfl ?_
              refine TL.off rfl rfl rfl rfl (eq_false_of_ne_true c14) rfl rfl ?_
              refine TL.off rfl rfl rfl rfl (eq_false_of_ne_true c14) rfl rfl ?_
              refine TL.off rfl rfl rfl rfl (eq_false_of_ne_true c14) rfl rfl ?_
              refine TL.op1 (OpR.pickF rfl (eq_false_of_ne_true c14) rfl) rfl ?_
              refine TL.op1 (OpR.pure rfl) rfl ?_
              refine TL.off rfl rfl rfl rfl rfl rfl rfl ?_
              refine TL.op1 (OpR.pickF rfl rfl rfl) rfl ?_
              refine TL.op1 (OpR.pure rfl) rfl ?_
              refine TL.nil ?_
              obtain rfl := Option.some.inj ht9
              exact ⟨_, Gst.only [4] rfl, rfl⟩
          · refine TL.off rfl rfl rfl rfl (beq_eq_false_iff_ne.2 c12) rfl rfl ?_
            refine TL.off rfl rfl rfl rfl (beq_eq_false_iff_ne.2 c12) rfl rfl ?_
            refine TL.op1 (OpR.pickF rfl (beq_eq_false_iff_ne.2 c12) rfl) rfl ?_
            refine TL.op1 (OpR.pure rfl) rfl ?_
            refine TL.off rfl rfl rfl rfl rfl rfl rfl ?_
            refine TL.off rfl rfl rfl rfl rfl rfl rfl ?_
            refine TL.off rfl rfl rfl rfl rfl rfl rfl ?_
            refine TL.off rfl rfl rfl rfl rfl rfl rfl ?_
            refine TL.off rfl rfl rfl rfl rfl rfl rfl ?_
            refine TL.off rfl rfl rfl rfl rfl rfl rfl ?_
            refine TL.op1 (OpR.pickF rfl rfl rfl) rfl ?_
            refine TL.op1 (OpR.pure rfl) rfl ?_
            refine TL.off rfl rfl rfl rfl rfl rfl rfl ?_
            refine TL.op1 (OpR.pickF rfl rfl rfl) rfl ?_
            refine TL.op1 (OpR.pure rfl) rfl ?_
            refine TL.nil ?_
            obtain rfl := Option.some.inj ht9
            exact ⟨_, Gst.only [4] rfl, rfl⟩
        · refine TL.off rfl rfl rfl rfl (beq_eq_false_iff_ne.2 c11) rfl rfl ?_
          refine TL.off rfl rfl rfl rfl (beq_eq_false_iff_ne.2 c11) rfl rfl ?_
          refine TL.off rfl rfl rfl rfl (beq_eq_false_iff_ne.2 c11) rfl rfl ?_
          refine TL.op1 (OpR.pickF rfl (beq_eq_false_iff_ne.2 c11) rfl) rfl ?_
          refine TL.op1 (OpR.pure rfl) rfl ?_
          refine TL.off rfl rfl rfl rfl rfl rfl rfl ?_
          refine TL.off rfl rfl rfl rfl rfl rfl rfl ?_
          refine TL.op1 (OpR.pickF rfl rfl rfl) rfl ?_
          refine TL.op1 (OpR.pure rfl) rfl ?_
          refine TL.off rfl rfl rfl rfl rfl rfl rfl ?_
          refine TL.off rfl rfl rfl rfl rfl rfl rfl ?_
          refine TL.off rfl rfl rfl rfl rfl rfl rfl ?_
          refine TL.off rfl rfl rfl rfl rfl rfl rfl ?_
          refine TL.off rfl rfl rfl rfl rfl rfl rfl ?_
          refine TL.off rfl rfl rfl rfl rfl rfl rfl ?_
          refine TL.op1 (OpR.pickF rfl rfl rfl) rfl ?_
          refine TL.op1 (OpR.pure rfl) rfl ?_
          refine TL.off rfl rfl rfl rfl rfl rfl rfl ?_
          refine TL.op1 (OpR.pickF rfl rfl rfl) rfl ?_
          refine TL.op1 (OpR.pure rfl) rfl ?_
          refine TL.nil ?_
          obtain rfl := Option.some.inj ht9
          exact ⟨_, Gst.only [4] rfl, rfl⟩
      · refine TL.off rfl rfl rfl rfl (beq_eq_false_iff_ne.2 c10) rfl rfl ?_
        refine TL.off rfl rfl rfl rfl (beq_eq_false_iff_ne.2 c10) rfl rfl ?_
        refine TL.off rfl rfl rfl rfl (beq_eq_false_iff_ne.2 c10) rfl rfl ?_
        refine TL.off rfl rfl rfl rfl (beq_eq_false_iff_ne.2 c10) rfl rfl ?_
        refine TL.op1 (OpR.pickF rfl (beq_eq_false_iff_ne.2 c10) rfl) rfl ?_
        refine TL.op1 (OpR.pure rfl) rfl ?_
        refine TL.off rfl rfl rfl rfl rfl rfl rfl ?_
        refine TL.off rfl rfl rfl rfl rfl rfl rfl ?_
        refine TL.off rfl rfl rfl rfl rfl rfl rfl ?_
        refine TL.op1 (OpR.pickF rfl rfl rfl) rfl ?_
        refine TL.op1 (OpR.pure rfl) rfl ?_
        refine TL.off rfl rfl rfl rfl rfl rfl rfl ?_
        refine TL.off rfl rfl rfl rfl rfl rfl rfl ?_
        refine TL.op1 (OpR.pickF rfl rfl rfl) rfl ?_
        refine TL.op1 (OpR.pure rfl) rfl ?_
        refine TL.off rfl rfl rfl rfl rfl rfl rfl ?_
        refine TL.off rfl rfl rfl rfl rfl rfl rfl ?_
        refine TL.off rfl rfl rfl rfl rfl rfl rfl ?_
        refine TL.off rfl rfl rfl rfl rfl rfl rfl ?_
        refine TL.off rfl rfl rfl rfl rfl rfl rfl ?_
        refine TL.off rfl rfl rfl rfl rfl rfl rfl ?_
        refine TL.op1 (OpR.pickF rfl rfl rfl) rfl ?_
        refine TL.op1 (OpR.pure rfl) rfl ?_
        refine TL.off rfl rfl rfl rfl rfl rfl rfl ?_
        refine TL.op1 (OpR.pickF rfl rfl rfl) rfl ?_
        refine TL.op1 (OpR.pure rfl) rfl ?_
        refine TL.nil ?_
        obtain rfl := Option.some.inj ht9
        exact ⟨_, Gst.only [4] rfl, rfl⟩
    · rintro _ rfl
      show T X _ _ _
      refine T.ret ?_
      obtain rfl := Option.some.inj h0
      exact PostG.retP (ks := []) (Gst.only [4] rfl) undef (ResL.cons (ResV.tmp rfl) ResL.nil) rfl rfl rfl rfl
theorem fn24 : IsFn X 24 := ⟨Try.f24, Try.func24, by kernel_rfl, rfl⟩
noncomputable def law06_texts.l1 (a0 : List (List UInt8)) (s6 : Int × (List (List UInt8)) × (List (List UInt8))) : Option (Lp (Int × (List (List UInt8)) × (List (List UInt8))) ((List (List UInt8)) × (List (List UInt8)))) :=
  if s6.1 < (a0.length : Int) then
    bnd (idx a0 s6.1) fun x15 =>
    bnd (if s6.1 < 12 then
      bnd (law06_cut x15 60) fun x20 =>
      bnd (app 16 s6.2.1 [x20]) fun x21 =>
      bnd (app 24 s6.2.2 [x20]) fun x23 =>
      some (x21, x23)
    else
      some (s6.2.1, s6.2.2) : Option ((List (List UInt8)) × (List (List UInt8)))) fun t16 =>
    some (Lp.next (w64 (s6.1 + 1), t16.1, t16.2))
  else
    some (Lp.done (s6.2.1, s6.2.2))
noncomputable def law06_texts (a0 : List (List UInt8)) : Option ((List (List UInt8)) × (List (List UInt8))) :=
  bnd (loop (law06_texts.l1 a0) (0, [], []) : Option ((List (List UInt8)) × (List (List UInt8)))) fun t1 =>
  some (t1.1, t1.2)
set_option maxHeartbeats 4000000 in
theorem law06_texts_c {a0 : List (List UInt8)} {res : (List (List UInt8)) × (List (List UInt8))} (h0 : law06_texts a0 = some res) : CallF X 24 [.sl 1 (List.map eS a0)] [] (fun x => .tup [.sl 1 (List.map eS res.1), .sl 1 (List.map e_sl25 res.2)]) (fun x => []) := by
  unfold law06_texts at h0
  refine CallF.mkG (X := X) Try.func24 rfl rfl Try.ntmps24 rfl rfl ?_
  refine T.seq ?_
  refine T.region ?_
  refine TL.op1 (OpR.pure rfl) rfl ?_
  refine TL.op1 (OpR.pure rfl) rfl ?_
  refine TL.nil ?_
  show T X _ _ _
  refine T.seq ?_
  refine T.region ?_
  refine TL.op1 (OpR.pure rfl) rfl ?_
  refine TL.nil ?_
  show T X _ _ _
  refine T.seq ?_
  refine T.region ?_
  refine TL.op1 (OpR.pure rfl) rfl ?_
  refine TL.nil ?_
  show T X _ _ _
  refine T.seq ?_
  refine T.seq ?_
  refine T.region ?_
  refine TL.op1 (OpR.pure rfl) rfl ?_
  refine TL.op1 (OpR.cast (OpR.pure rfl) (intE (lenM _ _))) rfl ?_
  refine TL.op1 (OpR.pure rfl) rfl ?_
  refine TL.nil ?_
  show T X _ _ _
  obtain ⟨t1, ht1, h0⟩ := bnd_some h0
  refine T.cutC (fun S' => ∃ y2 : Value, ∃ y3 : Value, S' = ⟨[(5, .val y3), (4, .val y2), (3, .val (.slice none 0 0)), (2, .val (.slice none 0 0))], [.row y2 (List.map eS t1.1) 1 9, .row y3 (List.map e_sl25 t1.2) 1 25], 31⟩) (fun _ h => h) ?_ ?_
  · refine T.block ?_
    obtain ⟨n7, n12⟩ := loop_some ht1
    refine T.loop (fun n S' => ∃ S'', Gst S' S'' ∧ ∃ y4 : Value, ∃ y5 : Value, ∃ s6 : Int × (List (List UInt8)) × (List (List UInt8)), S'' = ⟨[(10, .val (.int .i64 s6.1)), (9, .val (.int .i64 (a0.length : Int))), (8, .sl 1 (List.map eS a0)), (5, .val y5), (4, .val y4), (3, .val (.slice none 0 0)), (2, .val (.slice none 0 0))], [.row y4 (List.map eS s6.2.1) 1 9, .row y5 (List.map e_sl25 s6.2.2) 1 25], 31⟩ ∧ iter (law06_texts.l1 a0) n s6 = some t1) n7 ?_ ?_
    · exact ⟨_, Gst.trans (Gst.only [2, 3, 4, 5, 8, 9, 10] rfl) (Gst.trans (Gst.nilRow (ow := []) 1 9 rfl) (Gst.nilRow (ow := [.row (.slice none 0 0) (List.map eS []) 1 9]) 1 25 rfl)), (.slice none 0 0), (.slice none 0 0), (0, [], []), rfl, n12⟩
    rintro n7 _ ⟨_, g, y4, y5, s6, rfl, i11⟩
    refine T.ghost g ?_
    obtain ⟨m8, q9, rfl, q10, i11⟩ := iter_succ i11
    unfold law06_texts.l1 at q10
    refine T.seq ?_
    refine T.region ?_
    refine TL.op1 (OpR.pure rfl) rfl ?_
    refine TL.nil ?_
    show T X _ _ _
    refine T.seq ?_
    rcases ite_some q10 with ⟨c14, q10⟩ | ⟨c14, q10⟩
    · refine T.condT rfl (decide_eq_true c14) ?_
      refine T.skip ?_
      show T X _ _ _
      refine T.seq ?_
      refine T.block ?_
      refine T.seq ?_
      refine T.region ?_
      refine TL.op1 (OpR.pure rfl) rfl ?_
      obtain ⟨x15, hx15, q10⟩ := bnd_some q10
      refine TL.op1 (OpR.indexM eS hx15 rfl rfl rfl rfl rfl) rfl ?_
      refine TL.op1 (OpR.pure rfl) rfl ?_
      refine TL.op1 (OpR.pure rfl) rfl ?_
      refine TL.op1 (OpR.pure rfl) rfl ?_
      refine TL.nil ?_
      show T X _ _ _
      refine T.seq ?_
      refine T.region ?_
      refine TL.op1 (OpR.pure rfl) rfl ?_
      refine TL.op1 (OpR.pure rfl) rfl ?_
      refine TL.nil ?_
      show T X _ _ _
      obtain ⟨t16, ht16, q10⟩ := bnd_some q10
      refine T.cutC (fun S' => ∃ y17 : Value, ∃ y18 : Value, S' = ⟨[(10, .val (.int .i64 s6.1)), (9, .val (.int .i64 (a0.length : Int))), (8, .sl 1 (List.map eS a0)), (5, .val y18), (4, .val y17), (3, .val (.slice none 0 0)), (2, .val (.slice none 0 0))], [.row y17 (List.map eS t16.1) 1 9, .row y18 (List.map e_sl25 t16.2) 1 25], 31⟩) (fun _ h => h) ?_ ?_
      · rcases ite_some ht16 with ⟨c19, ht16⟩ | ⟨c19, ht16⟩
        · refine T.condT rfl (decide_eq_true c19) ?_
          refine T.seq ?_
          refine T.region ?_
          refine TL.op1 (OpR.pure rfl) rfl ?_
          obtain ⟨x20, hx20, ht16⟩ := bnd_some ht16
          refine TL.op1 (OpR.call0 fn14 (law06_cut_c hx20) rfl) rfl ?_
          refine TL.op1 (OpR.pure rfl) rfl ?_
          refine TL.nil ?_
          show T X _ _ _
          refine T.seq ?_
          refine T.region ?_
          refine TL.op1 (OpR.pure rfl) rfl ?_
          refine TL.op1 (OpR.pure rfl) rfl ?_
          refine TL.op1 (OpR.lit rfl rfl rfl rfl rfl rfl rfl) rfl ?_
          obtain ⟨x21, hx21, ht16⟩ := bnd_some ht16
          refine TL.op (OpR.appendM (m := [x20]) eS 0 hx21 rfl rfl rfl rfl rfl rfl rfl rfl rfl (fun _ => rfl)) rfl (fun v22 => ?_)
          refine TL.op1 (OpR.pure rfl) rfl ?_
          refine TL.nil ?_
          show T X _ _ _
          refine T.region ?_
          refine TL.op1 (OpR.pure rfl) rfl ?_
          refine TL.op1 (OpR.pure rfl) rfl ?_
          refine TL.op1 (OpR.toBytesM rfl rfl rfl rfl rfl rfl rfl) rfl ?_
          refine TL.op1 (OpR.lit rfl rfl rfl rfl rfl rfl rfl) rfl ?_
          obtain ⟨x23, hx23, ht16⟩ := bnd_some ht16
          refine TL.op (OpR.appendM (m := [x20]) e_sl25 1 hx23 rfl rfl rfl rfl rfl rfl rfl rfl rfl (fun _ => rfl)) rfl (fun v24 => ?_)
          refine TL.op1 (OpR.pure rfl) rfl ?_
          refine TL.nil ?_
          obtain rfl := Option.some.inj ht16
          exact ⟨_, Gst.only [2, 3, 4, 5, 8, 9, 10] rfl, v22, v24, rfl⟩
        · refine T.condF rfl (decide_eq_false c19) ?_
          refine T.skip ?_
          obtain rfl := Option.some.inj ht16
          exact ⟨_, Gst.only [2, 3, 4, 5, 8, 9, 10] rfl, y4, y5, rfl⟩
      · rintro _ ⟨y17, y18, rfl⟩
        show T X _ _ _
        refine T.region ?_
        refine TL.op1 (OpR.pure rfl) rfl ?_
        refine TL.op1 (OpR.pure rfl) rfl ?_
        refine TL.nil ?_
        obtain rfl := Option.some.inj q10
        exact ⟨m8, Nat.lt_succ_self _, _, Gst.only [2, 3, 4, 5, 8, 9, 10] rfl, y17, y18, (w64 (s6.1 + 1), t16.1, t16.2), rfl, i11⟩
    · refine T.condF rfl (decide_eq_false c14) ?_
      refine T.exit ?_
      obtain rfl := Option.some.inj q10
      obtain rfl : _ = _ := i11
      exact ⟨_, Gst.only [2, 3, 4, 5] rfl, y4, y5, rfl⟩
  · rintro _ ⟨y2, y3, rfl⟩
    show T X _ _ _
    refine T.seq ?_
    refine T.region ?_
    refine TL.op1 (OpR.pure rfl) rfl ?_
    refine TL.op1 (OpR.pure rfl) rfl ?_
    refine TL.op1 (OpR.pure rfl) rfl ?_
    refine TL.op1 (OpR.pure rfl) rfl ?_
    refine TL.nil ?_
    show T X _ _ _
    refine T.ret ?_
    obtain rfl := Option.some.inj h0
    exact PostG.retP (ks := []) (Gst.trans (Gst.only [2, 3] rfl) (Gst.trans (Gst.freezeRow 0 rfl rfl (ReS.cons Re.refl (ReS.cons (Re.base .all) ReS.nil)) (ReO.same (ReO.same ReO.nil))) (Gst.trans (Gst.freezeRow 1 rfl rfl (ReS.cons (Re.base .all) (ReS.cons Re.refl ReS.nil)) (ReO.same (ReO.same ReO.nil))) (Gst.pick [] rfl rfl)))) undef (ResL.cons (ResV.tmp rfl) (ResL.cons (ResV.tmp rfl) ResL.nil)) rfl rfl rfl rfl
theorem fn49 : IsFn X 49 := ⟨Try.f49, Try.func49, by kernel_rfl, rfl⟩
noncomputable def ref05_All.l1 (a0 : List UInt8) (s4 : Int × (List ref05_Row)) : Option (Lp (Int × (List ref05_Row)) (List ref05_Row)) :=
  if s4.1 < (a0.length : Int) then
    bnd (ref05_One a0 s4.1) fun x13 =>
    bnd (app 32 s4.2 [x13.1]) fun x15 =>
    some (Lp.next (x13.2, x15))
  else
    some (Lp.done s4.2)
noncomputable def ref05_All (a0 : List UInt8) : Option (List ref05_Row) :=
  bnd (loop (ref05_All.l1 a0) (0, []) : Option (List ref05_Row)) fun t1 =>
  some t1
set_option maxHeartbeats 4000000 in
theorem ref05_All_c {a0 : List UInt8} {res : (List ref05_Row)} (h0 : ref05_All a0 = some res) : CallF X 49 [.val (.string (bs a0))] [] (fun x => .sl 2 (List.map e_ref05_Row res)) (fun x => []) := by
  unfold ref05_All at h0
  refine CallF.mkG (X := X) Try.func49 rfl rfl Try.ntmps49 rfl rfl ?_
  refine T.seq ?_
  refine T.region ?_
  refine TL.op1 (OpR.pure rfl) rfl ?_
  refine TL.nil ?_
  show T X _ _ _
  refine T.seq ?_
  refine T.region ?_
  refine TL.op1 (OpR.pure rfl) rfl ?_
  refine TL.nil ?_
  show T X _ _ _
  refine T.seq ?_
  refine T.seq ?_
  refine T.region ?_
  refine TL.op1 (OpR.pure rfl) rfl ?_
  refine TL.nil ?_
  show T X _ _ _
  obtain ⟨t1, ht1, h0⟩ := bnd_some h0
  refine T.cutC (fun S' => ∃ y2 : Value, S' = ⟨[(3, .val y2), (2, .val (.slice none 0 0))], [.row y2 (List.map e_ref05_Row t1) 2 97], 23⟩) (fun _ h => h) ?_ ?_
  · refine T.block ?_
    obtain ⟨n5, n10⟩ := loop_some ht1
    refine T.loop (fun n S' => ∃ S'', Gst S' S'' ∧ ∃ y3 : Value, ∃ s4 : Int × (List ref05_Row), S'' = ⟨[(4, .val (.int .i64 s4.1)), (3, .val y3), (2, .val (.slice none 0 0)), (0, .val (.string (bs a0)))], [.row y3 (List.map e_ref05_Row s4.2) 2 97], 23⟩ ∧ iter (ref05_All.l1 a0) n s4 = some t1) n5 ?_ ?_
    · exact ⟨_, Gst.trans (Gst.only [0, 2, 3, 4] rfl) (Gst.nilRow (ow := []) 2 97 rfl), (.slice none 0 0), (0, []), rfl, n10⟩
    rintro n5 _ ⟨_, g, y3, s4, rfl, i9⟩
    refine T.ghost g ?_
    obtain ⟨m6, q7, rfl, q8, i9⟩ := iter_succ i9
    unfold ref05_All.l1 at q8
    refine T.seq ?_
    refine T.seq ?_
    refine T.region ?_
    refine TL.op1 (OpR.pure rfl) rfl ?_
    refine TL.op1 (OpR.pure rfl) rfl ?_
    refine TL.op1 (OpR.cast (OpR.pure rfl) (intE (lenS _))) rfl ?_
    refine TL.op1 (OpR.pure rfl) rfl ?_
    refine TL.nil ?_
    show T X _ _ _
    rcases ite_some q8 with ⟨c12, q8⟩ | ⟨c12, q8⟩
    · refine T.condT rfl (decide_eq_true c12) ?_
      refine T.skip ?_
      show T X _ _ _
      refine T.block ?_
      refine T.seq ?_
      refine T.region ?_
      refine TL.op1 (OpR.pure rfl) rfl ?_
      refine TL.op1 (OpR.pure rfl) rfl ?_
      obtain ⟨x13, hx13, q8⟩ := bnd_some q8
      refine TL.op1 (OpR.call0 fn61 (ref05_One_c hx13) rfl) rfl ?_
      refine TL.op1 (OpR.pure rfl) rfl ?_
      refine TL.op1 (OpR.pure rfl) rfl ?_
      refine TL.op1 (OpR.pure rfl) rfl ?_
      refine TL.op (OpR.alloc rfl rfl (fun _ => rfl)) rfl (fun p14 => ?_)
      refine TL.op0 (OpR.store 1 rfl rfl rfl rfl rfl rfl rfl rfl) ?_
      refine TL.op1 (OpR.pure rfl) rfl ?_
      refine TL.nil ?_
      show T X _ _ _
      refine T.seq ?_
      refine T.region ?_
      refine TL.op1 (OpR.pure rfl) rfl ?_
      refine TL.op1 (OpR.loadPtr 1 rfl rfl rfl rfl) rfl ?_
      refine TL.op1 (OpR.lit rfl rfl rfl rfl rfl rfl rfl) rfl ?_
      obtain ⟨x15, hx15, q8⟩ := bnd_some q8
      refine TL.op (OpR.appendM (m := [x13.1]) e_ref05_Row 0 hx15 rfl rfl rfl rfl rfl rfl rfl rfl rfl (fun _ => rfl)) rfl (fun v16 => ?_)
      refine TL.op1 (OpR.pure rfl) rfl ?_
      refine TL.nil ?_
      show T X _ _ _
      refine T.region ?_
      refine TL.op1 (OpR.pure rfl) rfl ?_
      refine TL.op1 (OpR.pure rfl) rfl ?_
      refine TL.nil ?_
      obtain rfl := Option.some.inj q8
      exact ⟨m6, Nat.lt_succ_self _, _, Gst.trans (Gst.only [0, 2, 3, 4] rfl) (Gst.pick [0] rfl rfl), v16, (x13.2, x15), rfl, i9⟩
    · refine T.condF rfl (decide_eq_false c12) ?_
      refine T.exit ?_
      obtain rfl := Option.some.inj q8
      obtain rfl : _ = _ := i9
      exact ⟨_, Gst.only [2, 3] rfl, y3, rfl⟩
  · rintro _ ⟨y2, rfl⟩
    show T X _ _ _
    refine T.seq ?_
    refine T.region ?_
    refine TL.op1 (OpR.pure rfl) rfl ?_
    refine TL.op1 (OpR.pure rfl) rfl ?_
    refine TL.nil ?_
    show T X _ _ _
    refine T.ret ?_
    obtain rfl := Option.some.inj h0
    exact PostG.retP (ks := []) (Gst.trans (Gst.only [2] rfl) (Gst.trans (Gst.freezeRow 0 rfl rfl (ReS.cons (Re.base .all) ReS.nil) (ReO.same ReO.nil)) (Gst.pick [] rfl rfl))) undef (ResL.cons (ResV.tmp rfl) ResL.nil) rfl rfl rfl rfl
theorem fn26 : IsFn X 26 := ⟨Try.f26, Try.func26, by kernel_rfl, rfl⟩
noncomputable def ref06_Right.l1 (x13 : ref05_Row) (s21 : Int) : Option (Lp Int (Ex Unit Bool)) :=
  if s21 < (x13.fFields.length : Int) then
    bnd (idx x13.fFields s21) fun x30 =>
    if x30.fKind > 1 then
      some (Lp.done (Ex.ret false))
    else
      some (Lp.next (w64 (s21 + 1)))
  else
    some (Lp.done (Ex.brk ()))
noncomputable def ref06_Right.l2 (x1 : (List ref05_Row)) (s4 : Int) : Option (Lp Int (Ex Unit Bool)) :=
  if s4 < (x1.length : Int) then
    bnd (idx x1 s4) fun x13 =>
    bnd (if x13.fEnd = 2 then
      some false
    else
      if x13.fEnd = 0 then
        some (decide (s4 < (w64 ((x1.length : Int) - 1))))
      else
        some true : Option Bool) fun t15 =>
    if t15 = true then
      some (Lp.done (Ex.ret false))
    else
      bnd (loop (ref06_Right.l1 x13) 0 : Option (Ex Unit Bool)) fun t19 => match t19 with
        | .brk u20 =>
          some (Lp.next (w64 (s4 + 1)))
        | .ret u20 => some (Lp.done (Ex.ret u20))
  else
    some (Lp.done (Ex.brk ()))
noncomputable def ref06_Right (a0 : List UInt8) : Option Bool :=
  bnd (ref05_All a0) fun x1 =>
  bnd (loop (ref06_Right.l2 x1) 0 : Option (Ex Unit Bool)) fun t2 => match t2 with
    | .brk u3 =>
      some true
    | .ret u3 => some u3
set_option maxHeartbeats 4000000 in
theorem ref06_Right_c {a0 : List UInt8} {res : Bool} (h0 : ref06_Right a0 = some res) : CallF X 26 [.val (.string (bs a0))] [] (fun x => .val (.bool res)) (fun x => []) := by
  unfold ref06_Right at h0
  refine CallF.mkG (X := X) Try.func26 rfl rfl Try.ntmps26 rfl rfl ?_
  refine T.seq ?_
  refine T.region ?_
  refine TL.op1 (OpR.pure rfl) rfl ?_
  refine TL.nil ?_
  show T X _ _ _
  refine T.seq ?_
  refine T.region ?_
  refine TL.op1 (OpR.pure rfl) rfl ?_
  obtain ⟨x1, hx1, h0⟩ := bnd_some h0
  refine TL.op1 (OpR.call0 fn49 (ref05_All_c hx1) rfl) rfl ?_
  refine TL.op1 (OpR.pure rfl) rfl ?_
  refine TL.nil ?_
  show T X _ _ _
  refine T.seq ?_
  refine T.seq ?_
  refine T.region ?_
  refine TL.op1 (OpR.pure rfl) rfl ?_
  refine TL.op1 (OpR.cast (OpR.pure rfl) (intE (lenM _ _))) rfl ?_
  refine TL.op1 (OpR.pure rfl) rfl ?_
  refine TL.nil ?_
  show T X _ _ _
  obtain ⟨t2, ht2, h0⟩ := bnd_some h0
  refine T.cutC (fun S' => ∃ u3, t2 = Ex.brk u3 ∧ S' = ⟨[(2, .val (.bool false))], [], 44⟩) (fun _ h => h) ?_ ?_
  · refine T.block ?_
    obtain ⟨n5, n10⟩ := loop_some ht2
    refine T.loop (fun n S' => ∃ S'', Gst S' S'' ∧ ∃ s4 : Int, S'' = ⟨[(12, .val (.int .i64 s4)), (11, .val (.int .i64 (x1.length : Int))), (10, .sl 2 (List.map e_ref05_Row x1)), (3, .sl 2 (List.map e_ref05_Row x1)), (2, .val (.bool false))], [], 44⟩ ∧ iter (ref06_Right.l2 x1) n s4 = some t2) n5 ?_ ?_
    · exact ⟨_, Gst.only [2, 3, 10, 11, 12] rfl, 0, rfl, n10⟩
    rintro n5 _ ⟨_, g, s4, rfl, i9⟩
    refine T.ghost g ?_
    obtain ⟨m6, q7, rfl, q8, i9⟩ := iter_succ i9
    unfold ref06_Right.l2 at q8
    refine T.seq ?_
    refine T.region ?_
    refine TL.op1 (OpR.pure rfl) rfl ?_
    refine TL.nil ?_
    show T X _ _ _
    refine T.seq ?_
    rcases ite_some q8 with ⟨c12, q8⟩ | ⟨c12, q8⟩
    · refine T.condT rfl (decide_eq_true c12) ?_
      refine T.skip ?_
      show T X _ _ _
      refine T.seq ?_
      refine T.block ?_
      refine T.seq ?_
      refine T.region ?_
      refine TL.op1 (OpR.pure rfl) rfl ?_
      obtain ⟨x13, hx13, q8⟩ := bnd_some q8
      refine TL.op1 (OpR.indexM e_ref05_Row hx13 rfl rfl rfl rfl rfl) rfl ?_
      refine TL.op1 (OpR.pure rfl) rfl ?_
      refine TL.op (OpR.alloc rfl rfl (fun _ => rfl)) rfl (fun p14 => ?_)
      refine TL.op1 (OpR.pure rfl) rfl ?_
      refine TL.op0 (OpR.store 0 rfl rfl rfl rfl rfl rfl rfl rfl) ?_
      refine TL.nil ?_
      show T X _ _ _
      refine T.seq ?_
      refine T.seq ?_
      obtain ⟨t15, ht15, q8⟩ := bnd_some q8
      refine T.cutC (fun S' => S' = ⟨[(31, .val (.bool t15)), (12, .val (.int .i64 s4)), (11, .val (.int .i64 (x1.length : Int))), (10, .sl 2 (List.map e_ref05_Row x1)), (5, .val (.pointer (some ⟨(blk p14), 0, none⟩))), (3, .sl 2 (List.map e_ref05_Row x1)), (2, .val (.bool false))], [.var (blk p14) [.sl 4 (List.map e_ref05_Field x13.fFields), .val (.int .i64 x13.fEnd)] 97], 44⟩) (fun _ h => h) ?_ ?_
      · refine T.region ?_
        refine TL.op1 (OpR.pure rfl) rfl ?_
        refine TL.op1 (OpR.loadPtr 0 rfl rfl rfl rfl) rfl ?_
        refine TL.op1 (OpR.pure rfl) rfl ?_
        refine TL.op1 (OpR.pure rfl) rfl ?_
        rcases ite_some ht15 with ⟨c16, ht15⟩ | ⟨c16, ht15⟩
        · refine TL.off rfl rfl rfl rfl (not_t (beq_iff_eq.2 c16)) rfl rfl ?_
          refine TL.off rfl rfl rfl rfl (not_t (beq_iff_eq.2 c16)) rfl rfl ?_
          refine TL.off rfl rfl rfl rfl (not_t (beq_iff_eq.2 c16)) rfl rfl ?_
          refine TL.off rfl rfl rfl rfl (not_t (beq_iff_eq.2 c16)) rfl rfl ?_
          refine TL.offU rfl rfl rfl rfl rfl rfl ?_
          refine TL.offU rfl rfl rfl rfl rfl rfl ?_
          refine TL.offU rfl rfl rfl rfl rfl rfl ?_
          refine TL.offU rfl rfl rfl rfl rfl rfl ?_
          refine TL.offU rfl rfl rfl rfl rfl rfl ?_
          refine TL.off rfl rfl rfl rfl (not_t (beq_iff_eq.2 c16)) rfl rfl ?_
          refine TL.op1 (OpR.pickF rfl (not_t (beq_iff_eq.2 c16)) rfl) rfl ?_
          refine TL.nil ?_
          obtain rfl := Option.some.inj ht15
          exact ⟨_, Gst.only [2, 3, 5, 10, 11, 12, 31] rfl, rfl⟩
        · refine TL.on rfl rfl rfl rfl (not_f (beq_eq_false_iff_ne.2 c16)) ?_
          refine TL.op1 (OpR.pure rfl) rfl ?_
          refine TL.on rfl rfl rfl rfl (not_f (beq_eq_false_iff_ne.2 c16)) ?_
          refine TL.op1 (OpR.loadPtr 0 rfl rfl rfl rfl) rfl ?_
          refine TL.on rfl rfl rfl rfl (not_f (beq_eq_false_iff_ne.2 c16)) ?_
          refine TL.op1 (OpR.pure rfl) rfl ?_
          refine TL.on rfl rfl rfl rfl (not_f (beq_eq_false_iff_ne.2 c16)) ?_
          refine TL.op1 (OpR.pure rfl) rfl ?_
          rcases ite_some ht15 with ⟨c17, ht15⟩ | ⟨c17, ht15⟩
          · refine TL.on rfl rfl rfl rfl (not_t (beq_iff_eq.2 c17)) ?_
            refine TL.op1 (OpR.pure rfl) rfl ?_
            refine TL.on rfl rfl rfl rfl (not_t (beq_iff_eq.2 c17)) ?_
            refine TL.op1 (OpR.pure rfl) rfl ?_
            refine TL.on rfl rfl rfl rfl (not_t (beq_iff_eq.2 c17)) ?_
            refine TL.op1 (OpR.cast (OpR.pure rfl) (intE (lenM _ _))) rfl ?_
            refine TL.on rfl rfl rfl rfl (not_t (beq_iff_eq.2 c17)) ?_
            refine TL.op1 (OpR.pure rfl) rfl ?_
            refine TL.on rfl rfl rfl rfl (not_t (beq_iff_eq.2 c17)) ?_
            refine TL.op1 (OpR.pure rfl) rfl ?_
            refine TL.on rfl rfl rfl rfl (not_f (beq_eq_false_iff_ne.2 c16)) ?_
            refine TL.op1 (OpR.pickF rfl (not_t (beq_iff_eq.2 c17)) rfl) rfl ?_
            refine TL.op1 (OpR.pickT rfl (not_f (beq_eq_false_iff_ne.2 c16)) rfl) rfl ?_
            refine TL.nil ?_
            obtain rfl := Option.some.inj ht15
            exact ⟨_, Gst.only [2, 3, 5, 10, 11, 12, 31] rfl, rfl⟩
          · refine TL.off rfl rfl rfl rfl (not_f (beq_eq_false_iff_ne.2 c17)) rfl rfl ?_
            refine TL.off rfl rfl rfl rfl (not_f (beq_eq_false_iff_ne.2 c17)) rfl rfl ?_
            refine TL.off rfl rfl rfl rfl (not_f (beq_eq_false_iff_ne.2 c17)) rfl rfl ?_
            refine TL.off rfl rfl rfl rfl (not_f (beq_eq_false_iff_ne.2 c17)) rfl rfl ?_
            refine TL.off rfl rfl rfl rfl (not_f (beq_eq_false_iff_ne.2 c17)) rfl rfl ?_
            refine TL.on rfl rfl rfl rfl (not_f (beq_eq_false_iff_ne.2 c16)) ?_
            refine TL.op1 (OpR.pickT rfl (not_f (beq_eq_false_iff_ne.2 c17)) rfl) rfl ?_
            refine TL.op1 (OpR.pickT rfl (not_f (beq_eq_false_iff_ne.2 c16)) rfl) rfl ?_
            refine TL.nil ?_
            obtain rfl := Option.some.inj ht15
            exact ⟨_, Gst.only [2, 3, 5, 10, 11, 12, 31] rfl, rfl⟩
      · rintro _ rfl
        show T X _ _ _
        rcases ite_some q8 with ⟨c18, q8⟩ | ⟨c18, q8⟩
        · refine T.condT rfl (c18) ?_
          refine T.seq ?_
          refine T.region ?_
          refine TL.op1 (OpR.pure rfl) rfl ?_
          refine TL.nil ?_
          show T X _ _ _
          refine T.ret ?_
          obtain rfl := Option.some.inj q8
          obtain rfl : _ = _ := i9
          obtain rfl := Option.some.inj h0
          exact PostG.retP (ks := []) (Gst.trans (Gst.only [2] rfl) (Gst.pick [] rfl rfl)) undef (ResL.cons (ResV.tmp rfl) ResL.nil) rfl rfl rfl rfl
        · refine T.condF rfl (eq_false_of_ne_true c18) ?_
          refine T.skip ?_
          show T X _ _ _
          refine T.seq ?_
          refine T.region ?_
          refine TL.op1 (OpR.pure rfl) rfl ?_
          refine TL.op1 (OpR.loadPtr 0 rfl rfl rfl rfl) rfl ?_
          refine TL.op1 (OpR.cast (OpR.pure rfl) (intE (lenM _ _))) rfl ?_
          refine TL.op1 (OpR.pure rfl) rfl ?_
          refine TL.nil ?_
          show T X _ _ _
          obtain ⟨t19, ht19, q8⟩ := bnd_some q8
          refine T.cutC (fun S' => ∃ u20, t19 = Ex.brk u20 ∧ S' = ⟨[(12, .val (.int .i64 s4)), (11, .val (.int .i64 (x1.length : Int))), (10, .sl 2 (List.map e_ref05_Row x1)), (3, .sl 2 (List.map e_ref05_Row x1)), (2, .val (.bool false))], [], 44⟩) (fun _ h => h) ?_ ?_
          · refine T.block ?_
            obtain ⟨n22, n27⟩ := loop_some ht19
            refine T.loop (fun n S' => ∃ S'', Gst S' S'' ∧ ∃ s21 : Int, S'' = ⟨[(35, .val (.int .i64 s21)), (34, .val (.int .i64 (x13.fFields.length : Int))), (33, .sl 4 (List.map e_ref05_Field x13.fFields)), (12, .val (.int .i64 s4)), (11, .val (.int .i64 (x1.length : Int))), (10, .sl 2 (List.map e_ref05_Row x1)), (3, .sl 2 (List.map e_ref05_Row x1)), (2, .val (.bool false))], [], 44⟩ ∧ iter (ref06_Right.l1 x13) n s21 = some t19) n22 ?_ ?_
            · exact ⟨_, Gst.trans (Gst.only [2, 3, 10, 11, 12, 33, 34, 35] rfl) (Gst.pick [] rfl rfl), 0, rfl, n27⟩
            rintro n22 _ ⟨_, g, s21, rfl, i26⟩
            refine T.ghost g ?_
            obtain ⟨m23, q24, rfl, q25, i26⟩ := iter_succ i26
            unfold ref06_Right.l1 at q25
            refine T.seq ?_
            refine T.region ?_
            refine TL.op1 (OpR.pure rfl) rfl ?_
            refine TL.nil ?_
            show T X _ _ _
            refine T.seq ?_
            rcases ite_some q25 with ⟨c29, q25⟩ | ⟨c29, q25⟩
            · refine T.condT rfl (decide_eq_true c29) ?_
              refine T.skip ?_
              show T X _ _ _
              refine T.seq ?_
              refine T.block ?_
              refine T.seq ?_
              refine T.region ?_
              obtain ⟨x30, hx30, q25⟩ := bnd_some q25
              refine TL.op1 (OpR.indexM e_ref05_Field hx30 rfl rfl rfl rfl rfl) rfl ?_
              refine TL.op1 (OpR.pure rfl) rfl ?_
              refine TL.op (OpR.alloc rfl rfl (fun _ => rfl)) rfl (fun p31 => ?_)
              refine TL.op0 (OpR.store 0 rfl rfl rfl rfl rfl rfl rfl rfl) ?_
              refine TL.nil ?_
              show T X _ _ _
              refine T.seq ?_
              refine T.region ?_
              refine TL.op1 (OpR.pure rfl) rfl ?_
              refine TL.op1 (OpR.loadPtr 0 rfl rfl rfl rfl) rfl ?_
              refine TL.op1 (OpR.pure rfl) rfl ?_
              refine TL.nil ?_
              show T X _ _ _
              rcases ite_some q25 with ⟨c32, q25⟩ | ⟨c32, q25⟩
              · refine T.condT rfl (decide_eq_true c32) ?_
                refine T.seq ?_
                refine T.region ?_
                refine TL.op1 (OpR.pure rfl) rfl ?_
                refine TL.nil ?_
                show T X _ _ _
                refine T.ret ?_
                obtain rfl := Option.some.inj q25
                obtain rfl : _ = _ := i26
                obtain rfl := Option.some.inj q8
                obtain rfl : _ = _ := i9
                obtain rfl := Option.some.inj h0
                exact PostG.retP (ks := []) (Gst.trans (Gst.only [2] rfl) (Gst.pick [] rfl rfl)) undef (ResL.cons (ResV.tmp rfl) ResL.nil) rfl rfl rfl rfl
              · refine T.condF rfl (decide_eq_false c32) ?_
                refine T.skip ?_
                show T X _ _ _
                refine T.region ?_
                refine TL.op1 (OpR.pure rfl) rfl ?_
                refine TL.op1 (OpR.pure rfl) rfl ?_
                refine TL.nil ?_
                obtain rfl := Option.some.inj q25
                exact ⟨m23, Nat.lt_succ_self _, _, Gst.trans (Gst.only [2, 3, 10, 11, 12, 33, 34, 35] rfl) (Gst.pick [] rfl rfl), w64 (s21 + 1), rfl, i26⟩
            · refine T.condF rfl (decide_eq_false c29) ?_
              refine T.exit ?_
              obtain rfl := Option.some.inj q25
              obtain rfl : _ = _ := i26
              exact ⟨_, Gst.only [2, 3, 10, 11, 12] rfl, _, rfl, rfl⟩
          · rintro _ ⟨u20, rfl, rfl⟩
            show T X _ _ _
            refine T.region ?_
            refine TL.op1 (OpR.pure rfl) rfl ?_
            refine TL.op1 (OpR.pure rfl) rfl ?_
            refine TL.nil ?_
            obtain rfl := Option.some.inj q8
            exact ⟨m6, Nat.lt_succ_self _, _, Gst.only [2, 3, 10, 11, 12] rfl, w64 (s4 + 1), rfl, i9⟩
    · refine T.condF rfl (decide_eq_false c12) ?_
      refine T.exit ?_
      obtain rfl := Option.some.inj q8
      obtain rfl : _ = _ := i9
      exact ⟨_, Gst.only [2] rfl, _, rfl, rfl⟩
  · rintro _ ⟨u3, rfl, rfl⟩
    show T X _ _ _
    refine T.seq ?_
    refine T.region ?_
    refine TL.op1 (OpR.pure rfl) rfl ?_
    refine TL.nil ?_
    show T X _ _ _
    refine T.ret ?_
    obtain rfl := Option.some.inj h0
    exact PostG.retP (ks := []) (Gst.only [2] rfl) undef (ResL.cons (ResV.tmp rfl) ResL.nil) rfl rfl rfl rfl
end Go.Proofs.Ytkjcogmngoogcaa.S
