/- Printed by a program of this session's own (gen.py): Lean functions for Go functions, and the proofs that the Go code comes to their answers. -/
import Derived.Test.YtbcbggdgkdfciaaG0
set_option linter.unusedVariables false
set_option linter.unusedSimpArgs false
set_option maxRecDepth 20000
namespace Go.Proofs.Ytbcbggdgkdfciaa.S
open Go Go.Sm
attribute [local irreducible] T TL OpR CallT iter loop
noncomputable def arena_New (a0 : List UInt8) : Option (Int ⊕ (Int × (List UInt8))) :=
  if (a0.length : Int) > 4096 then
    some (Sum.inl 8)
  else
    bnd (mkz 1 (a0.length : Int) (0 : UInt8)) fun x2 =>
    some (Sum.inr (0, (over x2 a0)))
set_option maxHeartbeats 4000000 in
theorem arena_New_c {a0 : List UInt8} {res : Int ⊕ (Int × (List UInt8))} (h0 : arena_New a0 = some res) : CallF X 25 [.sl 1 (List.map byteD a0)] [] (fun x => (match res with | .inl res => .tup [.val (.pointer none), .val (.int .i64 res)] | .inr res => .tup [.val (.pointer (some ⟨(blk (vn x 0)), 0, none⟩)), .val (.int .i64 res.1)])) (fun x => (match res with | .inl res => [] | .inr res => [.var (blk (vn x 0)) [.val (vn x 1)] 142, .row (vn x 1) (List.map byteD res.2) 1 5])) := by
 unfold arena_New at h0
 refine CallF.mkG (X := X) Try.func25 rfl rfl Try.ntmps25 rfl rfl ?_
 refine T.seq ?_
 refine T.region ?_
 refine TL.op1 (OpR.pure rfl) rfl ?_
 refine TL.op1 (OpR.pure rfl) rfl ?_
 refine TL.nil ?_
 show T X _ _ _
 refine T.seq ?_
 refine T.seq ?_
 refine T.region ?_
 refine TL.op1 (OpR.pure rfl) rfl ?_
 refine TL.op1 (OpR.cast (OpR.pure rfl) (intE (lenM _ _))) rfl ?_
 refine TL.op1 (OpR.pure rfl) rfl ?_
 refine TL.nil ?_
 show T X _ _ _
 rcases ite_some h0 with ⟨c1, h0⟩ | ⟨c1, h0⟩
 · refine T.condT rfl (decide_eq_true c1) ?_
   refine T.seq ?_
   refine T.region ?_
   refine TL.op1 (OpR.pure rfl) rfl ?_
   refine TL.op1 (OpR.pure rfl) rfl ?_
   refine TL.nil ?_
   show T X _ _ _
   refine T.ret ?_
   obtain rfl := Option.some.inj h0
   exact PostG.retP (ks := []) (Gst.only [2, 3] rfl) undef (ResL.cons (ResV.tmp rfl) (ResL.cons (ResV.tmp rfl) ResL.nil)) rfl rfl rfl rfl
 refine T.condF rfl (decide_eq_false c1) ?_
 refine T.skip ?_
 show T X _ _ _
 refine T.seq ?_
 refine T.region ?_
 refine TL.op1 (OpR.pure rfl) rfl ?_
 refine TL.op1 (OpR.cast (OpR.pure rfl) (intE (lenM _ _))) rfl ?_
 obtain ⟨x2, hx2, h0⟩ := bnd_some h0
 refine TL.op (OpR.makeM byteD hx2 rfl rfl rfl rfl rfl rfl rfl rfl rfl rfl rfl (fun _ => rfl)) rfl (fun v3 => ?_)
 refine TL.op1 (OpR.build rfl rfl rfl rfl rfl) rfl ?_
 refine TL.op (OpR.boxVar rfl rfl (fun _ => rfl)) rfl (fun p4 => ?_)
 refine TL.op1 (OpR.pure rfl) rfl ?_
 refine TL.nil ?_
 show T X _ _ _
 refine T.seq ?_
 refine T.region ?_
 refine TL.op1 (OpR.pure rfl) rfl ?_
 refine TL.op1 (OpR.pure rfl) rfl ?_
 refine TL.op1 (OpR.pure rfl) rfl ?_
 refine TL.op1 (OpR.loadPtr 1 rfl rfl rfl rfl) rfl ?_
 refine TL.op1 (OpR.pure rfl) rfl ?_
 refine TL.op1 (OpR.copyM byteD 0 rfl rfl rfl rfl rfl rfl rfl rfl) rfl ?_
 refine TL.nil ?_
 show T X _ _ _
 refine T.seq ?_
 refine T.region ?_
 refine TL.op1 (OpR.pure rfl) rfl ?_
 refine TL.op1 (OpR.pure rfl) rfl ?_
 refine TL.op1 (OpR.pure rfl) rfl ?_
 refine TL.nil ?_
 show T X _ _ _
 refine T.ret ?_
 obtain rfl := Option.some.inj h0
 exact PostG.retP (ks := [0, 1]) (Gst.trans (Gst.only [2, 3] rfl) (Gst.pick [1, 0] rfl rfl)) (.tuple #[p4, v3]) (ResL.cons (ResV.tmp rfl) (ResL.cons (ResV.tmp rfl) ResL.nil)) rfl rfl rfl rfl
theorem arena_New_cx1 {a0 : List UInt8} {res : Int} (h0 : arena_New a0 = some (Sum.inl res)) : CallF X 25 [.sl 1 (List.map byteD a0)] [] (fun x => .tup [.val (.pointer none), .val (.int .i64 res)]) (fun x => []) := arena_New_c h0
theorem arena_New_cx2 {a0 : List UInt8} {res : Int × (List UInt8)} (h0 : arena_New a0 = some (Sum.inr res)) : CallF X 25 [.sl 1 (List.map byteD a0)] [] (fun x => .tup [.val (.pointer (some ⟨(blk (vn x 0)), 0, none⟩)), .val (.int .i64 res.1)]) (fun x => [.var (blk (vn x 0)) [.val (vn x 1)] 142, .row (vn x 1) (List.map byteD res.2) 1 5]) := arena_New_c h0
noncomputable def arena_Join (a0 : arena_Span) (a1 : arena_Span) : Option (arena_Span × Bool) :=
  bnd (if a0.fN < 0 then
    some true
  else
    if a1.fN < 0 then
      some true
    else
      some (!(a1 == (⟨w64 (a0.fAt + a0.fN), a1.fN⟩ : arena_Span))) : Option Bool) fun t2 =>
  if t2 = true then
    some ((⟨0, 0⟩ : arena_Span), false)
  else
    some ((⟨a0.fAt, w64 (a0.fN + a1.fN)⟩ : arena_Span), true)
set_option maxHeartbeats 4000000 in
theorem arena_Join_c {a0 : arena_Span} {a1 : arena_Span} {res : arena_Span × Bool} (h0 : arena_Join a0 a1 = some res) : CallF X 128 [.agg [.val (.int .i64 a0.fAt), .val (.int .i64 a0.fN)], .agg [.val (.int .i64 a1.fAt), .val (.int .i64 a1.fN)]] [] (fun x => .tup [.agg [.val (.int .i64 res.1.fAt), .val (.int .i64 res.1.fN)], .val (.bool res.2)]) (fun x => []) := by
 unfold arena_Join at h0
 refine CallF.mkG (X := X) Try.func128 rfl rfl Try.ntmps128 rfl rfl ?_
 refine T.seq ?_
 refine T.region ?_
 refine TL.op1 (OpR.boxImm rfl rfl) rfl ?_
 refine TL.op1 (OpR.boxImm rfl rfl) rfl ?_
 refine TL.op (OpR.alloc rfl rfl (fun _ => rfl)) rfl (fun p1 => ?_)
 refine TL.op1 (OpR.pure rfl) rfl ?_
 refine TL.nil ?_
 show T X _ _ _
 refine T.seq ?_
 refine T.seq ?_
 obtain ⟨t2, ht2, h0⟩ := bnd_some h0
 refine T.cutC (fun S' => S' = ⟨[(25, .val (.bool t2)), (5, .val (.bool false)), (4, .val (.pointer (some ⟨(blk p1), 0, none⟩))), (3, .nod [.val (.int .i64 a1.fAt), .val (.int .i64 a1.fN)]), (2, .nod [.val (.int .i64 a0.fAt), .val (.int .i64 a0.fN)])], [.var (blk p1) [.val (.int .i64 0), .val (.int .i64 0)] 88], 35⟩) (fun _ h => h) ?_ ?_
 rotate_left
 · rintro _ rfl
   show T X _ _ _
   rcases ite_some h0 with ⟨c5, h0⟩ | ⟨c5, h0⟩
   · refine T.condT rfl (c5) ?_
     refine T.seq ?_
     refine T.region ?_
     refine TL.op1 (OpR.build rfl rfl rfl rfl rfl) rfl ?_
     refine TL.op0 (OpR.store 0 rfl rfl rfl rfl rfl rfl rfl rfl) ?_
     refine TL.op1 (OpR.pure rfl) rfl ?_
     refine TL.nil ?_
     show T X _ _ _
     refine T.ret ?_
     obtain rfl := Option.some.inj h0
     exact PostG.retP (ks := []) (Gst.only [4, 5] rfl) undef (ResL.cons (ResV.var 0 rfl rfl rfl rfl) (ResL.cons (ResV.tmp rfl) ResL.nil)) rfl rfl rfl rfl
   refine T.condF rfl (eq_false_of_ne_true c5) ?_
   refine T.skip ?_
   show T X _ _ _
   refine T.seq ?_
   refine T.region ?_
   refine TL.op1 (OpR.pure rfl) rfl ?_
   refine TL.op1 (OpR.pure rfl) rfl ?_
   refine TL.op1 (OpR.pure rfl) rfl ?_
   refine TL.op1 (OpR.pure rfl) rfl ?_
   refine TL.op1 (OpR.pure rfl) rfl ?_
   refine TL.op1 (OpR.pure rfl) rfl ?_
   refine TL.op1 (OpR.pure rfl) rfl ?_
   refine TL.op1 (OpR.build rfl rfl rfl rfl rfl) rfl ?_
   refine TL.op0 (OpR.store 0 rfl rfl rfl rfl rfl rfl rfl rfl) ?_
   refine TL.op1 (OpR.pure rfl) rfl ?_
   refine TL.nil ?_
   show T X _ _ _
   refine T.ret ?_
   obtain rfl := Option.some.inj h0
   exact PostG.retP (ks := []) (Gst.only [4, 5] rfl) undef (ResL.cons (ResV.var 0 rfl rfl rfl rfl) (ResL.cons (ResV.tmp rfl) ResL.nil)) rfl rfl rfl rfl
 refine T.region ?_
 refine TL.op1 (OpR.pure rfl) rfl ?_
 refine TL.op1 (OpR.pure rfl) rfl ?_
 refine TL.op1 (OpR.pure rfl) rfl ?_
 refine TL.op1 (OpR.pure rfl) rfl ?_
 rcases ite_some ht2 with ⟨c3, ht2⟩ | ⟨c3, ht2⟩
 · refine TL.off rfl rfl rfl rfl (decide_eq_true c3) rfl rfl ?_
   refine TL.off rfl rfl rfl rfl (decide_eq_true c3) rfl rfl ?_
   refine TL.off rfl rfl rfl rfl (decide_eq_true c3) rfl rfl ?_
   refine TL.op1 (OpR.pickT rfl (decide_eq_true c3) rfl) rfl ?_
   refine TL.op1 (OpR.pure rfl) rfl ?_
   refine TL.off rfl rfl rfl rfl rfl rfl rfl ?_
   refine TL.off rfl rfl rfl rfl rfl rfl rfl ?_
   refine TL.off rfl rfl rfl rfl rfl rfl rfl ?_
   refine TL.off rfl rfl rfl rfl rfl rfl rfl ?_
   refine TL.off rfl rfl rfl rfl rfl rfl rfl ?_
   refine TL.off rfl rfl rfl rfl rfl rfl rfl ?_
   refine TL.off rfl rfl rfl rfl rfl rfl rfl ?_
   refine TL.off rfl rfl rfl rfl rfl rfl rfl ?_
   refine TL.off rfl rfl rfl rfl rfl rfl rfl ?_
   refine TL.off rfl rfl rfl rfl rfl rfl rfl ?_
   refine TL.op1 (OpR.pickT rfl rfl rfl) rfl ?_
   refine TL.nil ?_
   obtain rfl := Option.some.inj ht2
   exact ⟨_, Gst.only [2, 3, 4, 5, 25] rfl, rfl⟩
 refine TL.on rfl rfl rfl rfl (decide_eq_false c3) ?_
 refine TL.op1 (OpR.pure rfl) rfl ?_
 refine TL.on rfl rfl rfl rfl (decide_eq_false c3) ?_
 refine TL.op1 (OpR.pure rfl) rfl ?_
 refine TL.on rfl rfl rfl rfl (decide_eq_false c3) ?_
 refine TL.op1 (OpR.pure rfl) rfl ?_
 refine TL.op1 (OpR.pickF rfl (decide_eq_false c3) rfl) rfl ?_
 refine TL.op1 (OpR.pure rfl) rfl ?_
 rcases ite_some ht2 with ⟨c4, ht2⟩ | ⟨c4, ht2⟩
 · refine TL.off rfl rfl rfl rfl (decide_eq_true c4) rfl rfl ?_
   refine TL.off rfl rfl rfl rfl (decide_eq_true c4) rfl rfl ?_
   refine TL.off rfl rfl rfl rfl (decide_eq_true c4) rfl rfl ?_
   refine TL.off rfl rfl rfl rfl (decide_eq_true c4) rfl rfl ?_
   refine TL.off rfl rfl rfl rfl (decide_eq_true c4) rfl rfl ?_
   refine TL.off rfl rfl rfl rfl (decide_eq_true c4) rfl rfl ?_
   refine TL.off rfl rfl rfl rfl (decide_eq_true c4) rfl rfl ?_
   refine TL.off rfl rfl rfl rfl (decide_eq_true c4) rfl rfl ?_
   refine TL.off rfl rfl rfl rfl (decide_eq_true c4) rfl rfl ?_
   refine TL.off rfl rfl rfl rfl (decide_eq_true c4) rfl rfl ?_
   refine TL.op1 (OpR.pickT rfl (decide_eq_true c4) rfl) rfl ?_
   refine TL.nil ?_
   obtain rfl := Option.some.inj ht2
   exact ⟨_, Gst.only [2, 3, 4, 5, 25] rfl, rfl⟩
 refine TL.on rfl rfl rfl rfl (decide_eq_false c4) ?_
 refine TL.op1 (OpR.pure rfl) rfl ?_
 refine TL.on rfl rfl rfl rfl (decide_eq_false c4) ?_
 refine TL.op1 (OpR.pure rfl) rfl ?_
 refine TL.on rfl rfl rfl rfl (decide_eq_false c4) ?_
 refine TL.op1 (OpR.pure rfl) rfl ?_
 refine TL.on rfl rfl rfl rfl (decide_eq_false c4) ?_
 refine TL.op1 (OpR.pure rfl) rfl ?_
 refine TL.on rfl rfl rfl rfl (decide_eq_false c4) ?_
 refine TL.op1 (OpR.pure rfl) rfl ?_
 refine TL.on rfl rfl rfl rfl (decide_eq_false c4) ?_
 refine TL.op1 (OpR.pure rfl) rfl ?_
 refine TL.on rfl rfl rfl rfl (decide_eq_false c4) ?_
 refine TL.op1 (OpR.pure rfl) rfl ?_
 refine TL.on rfl rfl rfl rfl (decide_eq_false c4) ?_
 refine TL.op1 (OpR.pure rfl) rfl ?_
 refine TL.on rfl rfl rfl rfl (decide_eq_false c4) ?_
 refine TL.op1 (OpR.build rfl rfl rfl rfl rfl) rfl ?_
 refine TL.on rfl rfl rfl rfl (decide_eq_false c4) ?_
 refine TL.op1 (OpR.cast (OpR.neStruct rfl rfl rfl rfl rfl (by kernel_rfl) (by kernel_rfl)) (boolE (congrArg (fun b => !b) (beq_arena_Span a1 (⟨w64 (a0.fAt + a0.fN), a1.fN⟩ : arena_Span))))) rfl ?_
 refine TL.op1 (OpR.pickF rfl (decide_eq_false c4) rfl) rfl ?_
 refine TL.nil ?_
 obtain rfl := Option.some.inj ht2
 exact ⟨_, Gst.only [2, 3, 4, 5, 25] rfl, rfl⟩
noncomputable def piece_Text_with_2 (a0 : arena_Span) (a1 : Int) (a2 : List arena_Span) : Option (Int × (List arena_Span)) :=
  if a0.fN < 1 then
    some (a1, a2)
  else
    bnd (if (w64 ((a2.length : Int) - 1)) ≥ 0 then
      bnd (idx a2 (w64 ((a2.length : Int) - 1))) fun x7 =>
      bnd (arena_Join x7 a0) fun x8 =>
      if x8.2 = true then
        some (Ex.ret (w64 (a1 + a0.fN), (a2.set (w64 ((a2.length : Int) - 1)).toNat x8.1)))
      else
        some (Ex.brk ())
    else
      some (Ex.brk ()) : Option (Ex Unit (Int × (List arena_Span)))) fun t3 => match t3 with
      | .brk u4 =>
        bnd (app 16 a2 [a0]) fun x12 =>
        some (w64 (a1 + a0.fN), x12)
      | .ret u4 => some u4
set_option maxHeartbeats 4000000 in
theorem piece_Text_with_2_c {a0 : arena_Span} {a1 : Int} {a2 : List arena_Span} {b0 : Nat} {v1 : Value} {res : Int × (List arena_Span)} (h0 : piece_Text_with_2 a0 a1 a2 = some res) : CallF X 81 [.val (.pointer (some ⟨b0, 0, none⟩)), .agg [.val (.int .i64 a0.fAt), .val (.int .i64 a0.fN)]] [.var b0 [.val v1, .val (.int .i64 a1)] 82, .row v1 (List.map e_arena_Span a2) 2 88] (fun x => .tup []) (fun x => [.var b0 [.val (vn x 0), .val (.int .i64 res.1)] 82, .row (vn x 0) (List.map e_arena_Span res.2) 2 88]) := by
 unfold piece_Text_with_2 at h0
 refine CallF.mkG (X := X) Try.func81 rfl rfl Try.ntmps81 rfl rfl ?_
 refine T.seq ?_
 refine T.region ?_
 refine TL.op1 (OpR.boxImm rfl rfl) rfl ?_
 refine TL.nil ?_
 show T X _ _ _
 refine T.seq ?_
 refine T.seq ?_
 refine T.region ?_
 refine TL.op1 (OpR.pure rfl) rfl ?_
 refine TL.op1 (OpR.pure rfl) rfl ?_
 refine TL.op1 (OpR.pure rfl) rfl ?_
 refine TL.nil ?_
 show T X _ _ _
 rcases ite_some h0 with ⟨c1, h0⟩ | ⟨c1, h0⟩
 · refine T.condT rfl (decide_eq_true c1) ?_
   refine T.ret ?_
   obtain rfl := Option.some.inj h0
   exact PostG.retP (ks := [0, 1]) (Gst.only [] rfl) (.tuple #[v1]) ResL.nil rfl rfl rfl rfl
 refine T.condF rfl (decide_eq_false c1) ?_
 refine T.skip ?_
 show T X _ _ _
 refine T.seq ?_
 refine T.drawS drawsX (fun env2 => [.val (.pointer (some ⟨b0, 0, none⟩)), .val (.pointer (some ⟨b0, 0, none⟩)), .val (.pointer (some ⟨b0, 1, none⟩)), .val (.int .i64 a1), .nod [.val (.int .i64 a0.fN)], .val (.int .i64 a0.fN), .val (.int .i64 (w64 (a1 + a0.fN))), .val (.pointer (some ⟨b0, 0, none⟩)), .val (.pointer (some ⟨b0, 1, none⟩)), .dead]) (fun D env2 => [(bif D 9 then .var b0 [.val v1, .val (.int .i64 (w64 (a1 + a0.fN)))] 82 else .var b0 [.val v1, .val (.int .i64 a1)] 82), .row v1 (List.map e_arena_Span a2) 2 88]) [0, 1, 3, 7, 0, 16, 63, 127, 255, 511] [0, 1, 3, 7, 8, 9, 10, 11, 12, 13, 14, 15, 16, 17, 18] (fun env2 => [.var b0 [.val v1, .val (.int .i64 (w64 (a1 + a0.fN)))] 82, .row v1 (List.map e_arena_Span a2) 2 88]) (by decide +kernel) (by decide +kernel) (fun _ => rfl) (fun _ => rfl) ?_ (fun _ => rfl) (fun _ => rfl) ?_
 · refine oS (d := .val (.pointer (some ⟨b0, 0, none⟩))) (fun _ => Want.plain rfl) (fun _ => rfl) (fun _ _ _ => rfl) (fun _ _ => OpR.pure rfl) (fun _ _ _ _ _ _ _ => rfl) ?_
   refine oS (d := .val (.pointer (some ⟨b0, 0, none⟩))) (fun _ => Want.plain rfl) (fun _ => rfl) (fun _ _ _ => rfl) (fun _ _ => OpR.pure rfl) (fun _ _ _ _ _ _ _ => rfl) ?_
   refine oS (d := .val (.pointer (some ⟨b0, 1, none⟩))) (fun _ => Want.plain rfl) (fun _ => rfl) (fun _ _ _ => rfl) (fun _ _ => OpR.pure rfl) (fun _ _ _ _ _ _ _ => rfl) ?_
   refine OpsS.cons' true ?_ (fun _ _ _ _ _ _ _ => rfl) ?_
   · intro D env2 hA
     have e9 : D 9 = false := hA.no 9 _ rfl rfl
     exact OpS.yes (o0 := [.var b0 [.val v1, .val (.int .i64 a1)] 82, .row v1 (List.map e_arena_Span a2) 2 88]) (o1 := fun x => [.var b0 [.val v1, .val (.int .i64 a1)] 82, .row v1 (List.map e_arena_Span a2) 2 88]) (d := fun x => .val (.int .i64 a1)) (Want.plain rfl) (by first | rfl | simp only [e9, cond_true, cond_false, List.cons_append, List.nil_append, List.append_nil]) (fun x => by first | rfl | simp only [ins_self, ins_ne D (show 3 ≠ 9 by decide), upd_self, e9, cond_true, cond_false, List.cons_append, List.nil_append, List.append_nil]) (fun x => rfl) (OpR.loadPtr 0 rfl rfl rfl rfl)
   refine oS (d := .nod [.val (.int .i64 a0.fN)]) (fun _ => Want.plain rfl) (fun _ => rfl) (fun _ _ _ => rfl) (fun _ _ => OpR.pure rfl) (fun _ _ _ _ _ _ _ => rfl) ?_
   refine oS (d := .val (.int .i64 a0.fN)) (fun _ => Want.plain rfl) (fun _ => rfl) (fun _ _ _ => rfl) (fun _ _ => OpR.pure rfl) (fun _ _ _ _ _ _ _ => rfl) ?_
   refine oS (d := .val (.int .i64 (w64 (a1 + a0.fN)))) (fun _ => Want.plain rfl) (fun _ => rfl) (fun _ _ _ => rfl) (fun _ _ => OpR.pure rfl) (fun _ _ _ _ _ _ _ => rfl) ?_
   refine oS (d := .val (.pointer (some ⟨b0, 0, none⟩))) (fun _ => Want.plain rfl) (fun _ => rfl) (fun _ _ _ => rfl) (fun _ _ => OpR.pure rfl) (fun _ _ _ _ _ _ _ => rfl) ?_
   refine oS (d := .val (.pointer (some ⟨b0, 1, none⟩))) (fun _ => Want.plain rfl) (fun _ => rfl) (fun _ _ _ => rfl) (fun _ _ => OpR.pure rfl) (fun _ _ _ _ _ _ _ => rfl) ?_
   refine OpsS.cons' true ?_ (fun _ _ _ _ _ _ _ => rfl) ?_
   · intro D env2 hA
     exact OpS.yes (o0 := [.var b0 [.val v1, .val (.int .i64 a1)] 82, .row v1 (List.map e_arena_Span a2) 2 88]) (o1 := fun x => [.var b0 [.val v1, .val (.int .i64 (w64 (a1 + a0.fN)))] 82, .row v1 (List.map e_arena_Span a2) 2 88]) (d := fun x => .dead) (Want.plain rfl) (by first | rfl | simp only [hA.me, cond_true, cond_false, List.cons_append, List.nil_append, List.append_nil]) (fun x => by first | rfl | simp only [ins_self, upd_self, hA.me, cond_true, cond_false, List.cons_append, List.nil_append, List.append_nil]) (fun x => rfl) (OpR.store 0 rfl rfl rfl rfl rfl rfl rfl rfl)
   exact trivial
 intro env2
 show T X _ _ _
 refine T.seq ?_
 refine T.seq ?_
 refine T.region ?_
 refine TL.op1 (OpR.pure rfl) rfl ?_
 refine TL.op1 (OpR.pure rfl) rfl ?_
 refine TL.op1 (OpR.pure rfl) rfl ?_
 refine TL.op1 (OpR.loadPtr 0 rfl rfl rfl rfl) rfl ?_
 refine TL.op1 (OpR.rowLenM e_arena_Span 1 rfl rfl rfl rfl) rfl ?_
 refine TL.op1 (OpR.pure rfl) rfl ?_
 refine TL.op1 (OpR.pure rfl) rfl ?_
 refine TL.nil ?_
 show T X _ _ _
 refine T.seq ?_
 refine T.region ?_
 refine TL.op1 (OpR.pure rfl) rfl ?_
 refine TL.op1 (OpR.pure rfl) rfl ?_
 refine TL.nil ?_
 show T X _ _ _
 obtain ⟨t3, ht3, h0⟩ := bnd_some h0
 refine T.cutC (fun S' => ∃ u4, t3 = Ex.brk u4 ∧ S' = ⟨[(3, .nod [.val (.int .i64 a0.fAt), .val (.int .i64 a0.fN)]), (0, .val (.pointer (some ⟨b0, 0, none⟩)))], [.var b0 [.val v1, .val (.int .i64 (w64 (a1 + a0.fN)))] 82, .row v1 (List.map e_arena_Span a2) 2 88], 57⟩) (fun _ h => h) ?_ ?_
 rotate_left
 · rintro _ ⟨u4, rfl, rfl⟩
   show T X _ _ _
   obtain ⟨x12, hx12, h0⟩ := bnd_some h0
   refine T.drawS drawsX (fun env11 => [.val (.pointer (some ⟨b0, 0, none⟩)), .val (.pointer (some ⟨b0, 0, none⟩)), .val (.pointer (some ⟨b0, 0, none⟩)), .val (.pointer (some ⟨b0, 0, none⟩)), .val v1, .agg [.val (.int .i64 a0.fAt), .val (.int .i64 a0.fN)], .sl 2 (List.map e_arena_Span [a0]), .val (env11 7), .val (.pointer (some ⟨b0, 0, none⟩)), .val (.pointer (some ⟨b0, 0, none⟩)), .dead]) (fun D env11 => [(bif D 10 then .var b0 [.val (env11 7), .val (.int .i64 (w64 (a1 + a0.fN)))] 82 else .var b0 [.val v1, .val (.int .i64 (w64 (a1 + a0.fN)))] 82), (bif D 7 then .row (env11 7) (List.map e_arena_Span x12) 2 88 else .row v1 (List.map e_arena_Span a2) 2 88)]) [0, 0, 2, 6, 14, 0, 32, 126, 255, 511, 1023] [0, 3, 47, 48, 49, 50, 51, 52, 53, 54, 55, 56] (fun env11 => [.var b0 [.val (env11 7), .val (.int .i64 (w64 (a1 + a0.fN)))] 82, .row (env11 7) (List.map e_arena_Span x12) 2 88]) (by decide +kernel) (by decide +kernel) (fun _ => rfl) (fun _ => rfl) ?_ (fun _ => rfl) (fun _ => rfl) ?_
   rotate_left
   · intro env11
     obtain rfl := Option.some.inj h0
     exact PostG.finP (ks := [0, 1]) (Gst.only [] rfl) (.tuple #[(env11 7)]) ResL.nil rfl rfl rfl rfl
   refine oS (d := .val (.pointer (some ⟨b0, 0, none⟩))) (fun _ => Want.plain rfl) (fun _ => rfl) (fun _ _ _ => rfl) (fun _ _ => OpR.pure rfl) (fun _ _ _ _ _ _ _ => rfl) ?_
   refine oS (d := .val (.pointer (some ⟨b0, 0, none⟩))) (fun _ => Want.plain rfl) (fun _ => rfl) (fun _ _ _ => rfl) (fun _ _ => OpR.pure rfl) (fun _ _ _ _ _ _ _ => rfl) ?_
   refine oS (d := .val (.pointer (some ⟨b0, 0, none⟩))) (fun _ => Want.plain rfl) (fun _ => rfl) (fun _ _ _ => rfl) (fun _ _ => OpR.pure rfl) (fun _ _ _ _ _ _ _ => rfl) ?_
   refine oS (d := .val (.pointer (some ⟨b0, 0, none⟩))) (fun _ => Want.plain rfl) (fun _ => rfl) (fun _ _ _ => rfl) (fun _ _ => OpR.pure rfl) (fun _ _ _ _ _ _ _ => rfl) ?_
   refine OpsS.cons' true ?_ (fun _ _ _ _ _ _ _ => rfl) ?_
   · intro D env11 hA
     have e7 : D 7 = false := hA.no 7 _ rfl rfl
     have e10 : D 10 = false := hA.no 10 _ rfl rfl
     exact OpS.yes (o0 := [.var b0 [.val v1, .val (.int .i64 (w64 (a1 + a0.fN)))] 82, .row v1 (List.map e_arena_Span a2) 2 88]) (o1 := fun x => [.var b0 [.val v1, .val (.int .i64 (w64 (a1 + a0.fN)))] 82, .row v1 (List.map e_arena_Span a2) 2 88]) (d := fun x => .val v1) (Want.plain rfl) (by first | rfl | simp only [e7, e10, cond_true, cond_false, List.cons_append, List.nil_append, List.append_nil]) (fun x => by first | rfl | simp only [ins_self, ins_ne D (show 4 ≠ 7 by decide), ins_ne D (show 4 ≠ 10 by decide), upd_self, upd_ne env11 x (show 4 ≠ 7 by decide), e7, e10, cond_true, cond_false, List.cons_append, List.nil_append, List.append_nil]) (fun x => rfl) (OpR.loadPtr 0 rfl rfl rfl rfl)
   refine oS (d := .agg [.val (.int .i64 a0.fAt), .val (.int .i64 a0.fN)]) (fun _ => Want.plain rfl) (fun _ => rfl) (fun _ _ _ => rfl) (fun _ _ => OpR.pure rfl) (fun _ _ _ _ _ _ _ => rfl) ?_
   refine oS (d := .sl 2 (List.map e_arena_Span [a0])) (fun _ => Want.plain rfl) (fun _ => rfl) (fun _ _ _ => rfl) (fun _ _ => OpR.lit rfl rfl rfl rfl rfl rfl rfl) (fun _ _ _ _ _ _ _ => rfl) ?_
   refine OpsS.cons' true ?_ (fun D hA env11 x j hj hD => match j, hj, hD with | 0, _, _ => rfl | 1, _, _ => rfl | 2, _, _ => rfl | 3, _, _ => rfl | 4, _, _ => rfl | 5, _, _ => rfl | 6, _, _ => rfl | 7, hj, _ => absurd rfl hj | 8, _, _ => rfl | 9, _, _ => rfl | 10, _, _ => rfl | _ + 11, _, _ => rfl) ?_
   · intro D env11 hA
     have e10 : D 10 = false := hA.no 10 _ rfl rfl
     exact OpS.yes (o0 := [.var b0 [.val v1, .val (.int .i64 (w64 (a1 + a0.fN)))] 82, .row v1 (List.map e_arena_Span a2) 2 88]) (o1 := fun x => [.var b0 [.val v1, .val (.int .i64 (w64 (a1 + a0.fN)))] 82, .row x (List.map e_arena_Span x12) 2 88]) (d := fun x => .val x) (Want.plain rfl) (by first | rfl | simp only [e10, hA.me, cond_true, cond_false, List.cons_append, List.nil_append, List.append_nil]) (fun x => by first | rfl | simp only [ins_self, ins_ne D (show 7 ≠ 10 by decide), upd_self, e10, hA.me, cond_true, cond_false, List.cons_append, List.nil_append, List.append_nil]) (fun x => rfl) (OpR.appendM (m := [a0]) e_arena_Span 1 hx12 rfl rfl rfl rfl rfl rfl rfl rfl rfl (fun _ => rfl))
   refine oS (d := .val (.pointer (some ⟨b0, 0, none⟩))) (fun _ => Want.plain rfl) (fun _ => rfl) (fun _ _ _ => rfl) (fun _ _ => OpR.pure rfl) (fun _ _ _ _ _ _ _ => rfl) ?_
   refine oS (d := .val (.pointer (some ⟨b0, 0, none⟩))) (fun _ => Want.plain rfl) (fun _ => rfl) (fun _ _ _ => rfl) (fun _ _ => OpR.pure rfl) (fun _ _ _ _ _ _ _ => rfl) ?_
   refine OpsS.cons' true ?_ (fun _ _ _ _ _ _ _ => rfl) ?_
   · intro D env11 hA
     have e7 : D 7 = true := hA.yes 7 _ rfl rfl
     exact OpS.yes (o0 := [.var b0 [.val v1, .val (.int .i64 (w64 (a1 + a0.fN)))] 82, .row (env11 7) (List.map e_arena_Span x12) 2 88]) (o1 := fun x => [.var b0 [.val (env11 7), .val (.int .i64 (w64 (a1 + a0.fN)))] 82, .row (env11 7) (List.map e_arena_Span x12) 2 88]) (d := fun x => .dead) (Want.plain rfl) (by first | rfl | simp only [e7, hA.me, cond_true, cond_false, List.cons_append, List.nil_append, List.append_nil]) (fun x => by first | rfl | simp only [ins_self, ins_ne D (show 10 ≠ 7 by decide), upd_self, upd_ne env11 x (show 10 ≠ 7 by decide), e7, hA.me, cond_true, cond_false, List.cons_append, List.nil_append, List.append_nil]) (fun x => rfl) (OpR.store 0 rfl rfl rfl rfl rfl rfl rfl rfl)
   exact trivial
 rcases ite_some ht3 with ⟨c5, ht3⟩ | ⟨c5, ht3⟩
 rotate_left
 · refine T.condF rfl (decide_eq_false c5) ?_
   refine T.skip ?_
   obtain rfl := Option.some.inj ht3
   exact ⟨_, Gst.only [0, 3] rfl, _, rfl, rfl⟩
 refine T.condT rfl (decide_eq_true c5) ?_
 refine T.seq ?_
 obtain ⟨x7, hx7, ht3⟩ := bnd_some ht3
 obtain ⟨x8, hx8, ht3⟩ := bnd_some ht3
 refine T.drawS drawsX (fun env6 => [.val (.pointer (some ⟨b0, 0, none⟩)), .val (.pointer (some ⟨b0, 0, none⟩)), .val (.pointer (some ⟨b0, 0, none⟩)), .val v1, .val (.int .i64 (w64 ((a2.length : Int) - 1))), .val (.pointer (some ⟨blk v1, (w64 ((a2.length : Int) - 1)).toNat * 2, none⟩)), .agg [.val (.int .i64 x7.fAt), .val (.int .i64 x7.fN)], .agg [.val (.int .i64 a0.fAt), .val (.int .i64 a0.fN)], .tup [.agg [.val (.int .i64 x8.1.fAt), .val (.int .i64 x8.1.fN)], .val (.bool x8.2)], .tup [.agg [.val (.int .i64 x8.1.fAt), .val (.int .i64 x8.1.fN)], .val (.bool x8.2)], .agg [.val (.int .i64 x8.1.fAt), .val (.int .i64 x8.1.fN)], .val (.bool x8.2), .val (.pointer (some ⟨(blk (env6 12)), 0, none⟩)), .dead, .val (.bool x8.2)]) (fun D env6 => [.var b0 [.val v1, .val (.int .i64 (w64 (a1 + a0.fN)))] 82, .row v1 (List.map e_arena_Span a2) 2 88] ++ (bif D 12 then [(bif D 13 then .var (blk (env6 12)) [.val (.int .i64 x8.1.fAt), .val (.int .i64 x8.1.fN)] 88 else .var (blk (env6 12)) [.val (.int .i64 0), .val (.int .i64 0)] 88)] else [])) [0, 1, 3, 7, 0, 31, 63, 0, 255, 511, 1023, 1023, 0, 6143, 16383] [0, 1, 3, 4, 5, 6, 7, 8, 9, 10, 11, 12, 13, 14, 15, 16, 17, 18, 19, 20, 21, 22, 23, 24, 25, 26, 27, 28, 29, 30, 31, 32, 34, 35, 36, 37, 38] (fun env6 => [.var b0 [.val v1, .val (.int .i64 (w64 (a1 + a0.fN)))] 82, .row v1 (List.map e_arena_Span a2) 2 88, .var (blk (env6 12)) [.val (.int .i64 x8.1.fAt), .val (.int .i64 x8.1.fN)] 88]) (by decide +kernel) (by decide +kernel) (fun _ => rfl) (fun _ => rfl) ?_ (fun _ => rfl) (fun _ => rfl) ?_
 · refine oS (d := .val (.pointer (some ⟨b0, 0, none⟩))) (fun _ => Want.plain rfl) (fun _ => rfl) (fun _ _ _ => rfl) (fun _ _ => OpR.pure rfl) (fun _ _ _ _ _ _ _ => rfl) ?_
   refine oS (d := .val (.pointer (some ⟨b0, 0, none⟩))) (fun _ => Want.plain rfl) (fun _ => rfl) (fun _ _ _ => rfl) (fun _ _ => OpR.pure rfl) (fun _ _ _ _ _ _ _ => rfl) ?_
   refine oS (d := .val (.pointer (some ⟨b0, 0, none⟩))) (fun _ => Want.plain rfl) (fun _ => rfl) (fun _ _ _ => rfl) (fun _ _ => OpR.pure rfl) (fun _ _ _ _ _ _ _ => rfl) ?_
   refine oS (d := .val v1) (fun _ => Want.plain rfl) (fun _ => rfl) (fun _ _ _ => rfl) (fun _ _ => OpR.loadPtr 0 rfl rfl rfl rfl) (fun _ _ _ _ _ _ _ => rfl) ?_
   refine oS (d := .val (.int .i64 (w64 ((a2.length : Int) - 1)))) (fun _ => Want.plain rfl) (fun _ => rfl) (fun _ _ _ => rfl) (fun _ _ => OpR.pure rfl) (fun _ _ _ _ _ _ _ => rfl) ?_
   refine oS (d := .val (.pointer (some ⟨blk v1, (w64 ((a2.length : Int) - 1)).toNat * 2, none⟩))) (fun _ => Want.plain rfl) (fun _ => rfl) (fun _ _ _ => rfl) (fun _ _ => OpR.rowIndexM e_arena_Span 1 hx7 rfl rfl rfl rfl rfl rfl rfl) (fun _ _ _ _ _ _ _ => rfl) ?_
   refine oS (d := .agg [.val (.int .i64 x7.fAt), .val (.int .i64 x7.fN)]) (fun _ => Want.plain rfl) (fun _ => rfl) (fun _ _ _ => rfl) (fun _ _ => OpR.rowLoad0M (j := w64 ((a2.length : Int) - 1)) e_arena_Span 1 hx7 rfl rfl rfl rfl) (fun _ _ _ _ _ _ _ => rfl) ?_
   refine oS (d := .agg [.val (.int .i64 a0.fAt), .val (.int .i64 a0.fN)]) (fun _ => Want.plain rfl) (fun _ => rfl) (fun _ _ _ => rfl) (fun _ _ => OpR.pure rfl) (fun _ _ _ _ _ _ _ => rfl) ?_
   refine oS (d := .tup [.agg [.val (.int .i64 x8.1.fAt), .val (.int .i64 x8.1.fN)], .val (.bool x8.2)]) (fun _ => Want.plain rfl) (fun _ => rfl) (fun _ _ _ => rfl) (fun _ _ => OpR.call0 fn128 (arena_Join_c hx8) rfl) (fun _ _ _ _ _ _ _ => rfl) ?_
   refine oS (d := .tup [.agg [.val (.int .i64 x8.1.fAt), .val (.int .i64 x8.1.fN)], .val (.bool x8.2)]) (fun _ => Want.plain rfl) (fun _ => rfl) (fun _ _ _ => rfl) (fun _ _ => OpR.pure rfl) (fun _ _ _ _ _ _ _ => rfl) ?_
   refine oS (d := .agg [.val (.int .i64 x8.1.fAt), .val (.int .i64 x8.1.fN)]) (fun _ => Want.plain rfl) (fun _ => rfl) (fun _ _ _ => rfl) (fun _ _ => OpR.pure rfl) (fun _ _ _ _ _ _ _ => rfl) ?_
   refine oS (d := .val (.bool x8.2)) (fun _ => Want.plain rfl) (fun _ => rfl) (fun _ _ _ => rfl) (fun _ _ => OpR.pure rfl) (fun _ _ _ _ _ _ _ => rfl) ?_
   refine OpsS.cons' true ?_ (fun D hA env6 x j hj hD => match j, hj, hD with | 0, _, _ => rfl | 1, _, _ => rfl | 2, _, _ => rfl | 3, _, _ => rfl | 4, _, _ => rfl | 5, _, _ => rfl | 6, _, _ => rfl | 7, _, _ => rfl | 8, _, _ => rfl | 9, _, _ => rfl | 10, _, _ => rfl | 11, _, _ => rfl | 12, hj, _ => absurd rfl hj | 13, _, _ => rfl | 14, _, _ => rfl | _ + 15, _, _ => rfl) ?_
   · intro D env6 hA
     have e13 : D 13 = false := hA.no 13 _ rfl rfl
     exact OpS.yes (o0 := [.var b0 [.val v1, .val (.int .i64 (w64 (a1 + a0.fN)))] 82, .row v1 (List.map e_arena_Span a2) 2 88]) (o1 := fun x => [.var b0 [.val v1, .val (.int .i64 (w64 (a1 + a0.fN)))] 82, .row v1 (List.map e_arena_Span a2) 2 88, .var (blk x) [.val (.int .i64 0), .val (.int .i64 0)] 88]) (d := fun x => .val (.pointer (some ⟨(blk x), 0, none⟩))) (Want.plain rfl) (by first | rfl | simp only [e13, hA.me, cond_true, cond_false, List.cons_append, List.nil_append, List.append_nil]) (fun x => by first | rfl | simp only [ins_self, ins_ne D (show 12 ≠ 13 by decide), upd_self, e13, hA.me, cond_true, cond_false, List.cons_append, List.nil_append, List.append_nil]) (fun x => rfl) (OpR.alloc rfl rfl (fun _ => rfl))
   refine OpsS.cons' true ?_ (fun _ _ _ _ _ _ _ => rfl) ?_
   · intro D env6 hA
     have e12 : D 12 = true := hA.yes 12 _ rfl rfl
     exact OpS.yes (o0 := [.var b0 [.val v1, .val (.int .i64 (w64 (a1 + a0.fN)))] 82, .row v1 (List.map e_arena_Span a2) 2 88, .var (blk (env6 12)) [.val (.int .i64 0), .val (.int .i64 0)] 88]) (o1 := fun x => [.var b0 [.val v1, .val (.int .i64 (w64 (a1 + a0.fN)))] 82, .row v1 (List.map e_arena_Span a2) 2 88, .var (blk (env6 12)) [.val (.int .i64 x8.1.fAt), .val (.int .i64 x8.1.fN)] 88]) (d := fun x => .dead) (Want.plain rfl) (by first | rfl | simp only [e12, hA.me, cond_true, cond_false, List.cons_append, List.nil_append, List.append_nil]) (fun x => by first | rfl | simp only [ins_self, ins_ne D (show 13 ≠ 12 by decide), upd_self, upd_ne env6 x (show 13 ≠ 12 by decide), e12, hA.me, cond_true, cond_false, List.cons_append, List.nil_append, List.append_nil]) (fun x => rfl) (OpR.store 2 rfl rfl rfl rfl rfl rfl rfl rfl)
   refine oS (d := .val (.bool x8.2)) (fun _ => Want.plain rfl) (fun _ => rfl) (fun _ _ _ => rfl) (fun _ _ => OpR.pure rfl) (fun _ _ _ _ _ _ _ => rfl) ?_
   exact trivial
 intro env6
 show T X _ _ _
 refine T.seq ?_
 refine T.region ?_
 refine TL.op1 (OpR.pure rfl) rfl ?_
 refine TL.nil ?_
 show T X _ _ _
 rcases ite_some ht3 with ⟨c9, ht3⟩ | ⟨c9, ht3⟩
 rotate_left
 · refine T.condF rfl (eq_false_of_ne_true c9) ?_
   refine T.skip ?_
   obtain rfl := Option.some.inj ht3
   exact ⟨_, Gst.trans (Gst.only [0, 3] rfl) (Gst.pick [0, 1] rfl rfl), _, rfl, rfl⟩
 refine T.condT rfl (c9) ?_
 refine T.seq ?_
 refine T.drawS drawsX (fun env10 => [.val (.pointer (some ⟨b0, 0, none⟩)), .val (.pointer (some ⟨b0, 0, none⟩)), .val (.pointer (some ⟨b0, 0, none⟩)), .val v1, .val (.int .i64 (w64 ((a2.length : Int) - 1))), .agg [.val (.int .i64 x8.1.fAt), .val (.int .i64 x8.1.fN)], .val (.pointer (some ⟨blk v1, (w64 ((a2.length : Int) - 1)).toNat * 2, none⟩)), .dead]) (fun D env10 => [.var b0 [.val v1, .val (.int .i64 (w64 (a1 + a0.fN)))] 82, (bif D 7 then .row v1 (List.map e_arena_Span (a2.set (w64 ((a2.length : Int) - 1)).toNat x8.1)) 2 88 else .row v1 (List.map e_arena_Span a2) 2 88), .var (blk (env6 12)) [.val (.int .i64 x8.1.fAt), .val (.int .i64 x8.1.fN)] 88]) [0, 1, 3, 7, 0, 0, 63, 127] [0, 1, 3, 4, 5, 6, 7, 8, 9, 10, 11, 12, 13, 14, 15, 16, 17, 18, 19, 20, 21, 22, 23, 24, 25, 26, 27, 28, 29, 30, 31, 32, 34, 35, 36, 37, 38, 39, 40, 41, 42, 43, 44, 45] (fun env10 => [.var b0 [.val v1, .val (.int .i64 (w64 (a1 + a0.fN)))] 82, .row v1 (List.map e_arena_Span (a2.set (w64 ((a2.length : Int) - 1)).toNat x8.1)) 2 88, .var (blk (env6 12)) [.val (.int .i64 x8.1.fAt), .val (.int .i64 x8.1.fN)] 88]) (by decide +kernel) (by decide +kernel) (fun _ => rfl) (fun _ => rfl) ?_ (fun _ => rfl) (fun _ => rfl) ?_
 rotate_left
 · intro env10
   show T X _ _ _
   refine T.ret ?_
   obtain rfl := Option.some.inj ht3
   obtain rfl := Option.some.inj h0
   exact PostG.retP (ks := [0, 1]) (Gst.trans (Gst.only [] rfl) (Gst.pick [0, 1] rfl rfl)) (.tuple #[v1]) ResL.nil rfl rfl rfl rfl
 refine oS (d := .val (.pointer (some ⟨b0, 0, none⟩))) (fun _ => Want.plain rfl) (fun _ => rfl) (fun _ _ _ => rfl) (fun _ _ => OpR.pure rfl) (fun _ _ _ _ _ _ _ => rfl) ?_
 refine oS (d := .val (.pointer (some ⟨b0, 0, none⟩))) (fun _ => Want.plain rfl) (fun _ => rfl) (fun _ _ _ => rfl) (fun _ _ => OpR.pure rfl) (fun _ _ _ _ _ _ _ => rfl) ?_
 refine oS (d := .val (.pointer (some ⟨b0, 0, none⟩))) (fun _ => Want.plain rfl) (fun _ => rfl) (fun _ _ _ => rfl) (fun _ _ => OpR.pure rfl) (fun _ _ _ _ _ _ _ => rfl) ?_
 refine oS (d := .val v1) (fun _ => Want.plain rfl) (fun _ => rfl) (fun _ _ _ => rfl) (fun _ _ => OpR.loadPtr 0 rfl rfl rfl rfl) (fun _ _ _ _ _ _ _ => rfl) ?_
 refine oS (d := .val (.int .i64 (w64 ((a2.length : Int) - 1)))) (fun _ => Want.plain rfl) (fun _ => rfl) (fun _ _ _ => rfl) (fun _ _ => OpR.pure rfl) (fun _ _ _ _ _ _ _ => rfl) ?_
 refine oS (d := .agg [.val (.int .i64 x8.1.fAt), .val (.int .i64 x8.1.fN)]) (fun _ => Want.plain rfl) (fun _ => rfl) (fun _ _ _ => rfl) (fun _ _ => OpR.loadPtr 2 rfl rfl rfl rfl) (fun _ _ _ _ _ _ _ => rfl) ?_
 refine OpsS.cons' true ?_ (fun _ _ _ _ _ _ _ => rfl) ?_
 · intro D env10 hA
   have e7 : D 7 = false := hA.no 7 _ rfl rfl
   exact OpS.yes (o0 := [.var b0 [.val v1, .val (.int .i64 (w64 (a1 + a0.fN)))] 82, .row v1 (List.map e_arena_Span a2) 2 88, .var (blk (env6 12)) [.val (.int .i64 x8.1.fAt), .val (.int .i64 x8.1.fN)] 88]) (o1 := fun x => [.var b0 [.val v1, .val (.int .i64 (w64 (a1 + a0.fN)))] 82, .row v1 (List.map e_arena_Span a2) 2 88, .var (blk (env6 12)) [.val (.int .i64 x8.1.fAt), .val (.int .i64 x8.1.fN)] 88]) (d := fun x => .val (.pointer (some ⟨blk v1, (w64 ((a2.length : Int) - 1)).toNat * 2, none⟩))) (Want.plain rfl) (by first | rfl | simp only [e7, cond_true, cond_false, List.cons_append, List.nil_append, List.append_nil]) (fun x => by first | rfl | simp only [ins_self, ins_ne D (show 6 ≠ 7 by decide), upd_self, e7, cond_true, cond_false, List.cons_append, List.nil_append, List.append_nil]) (fun x => rfl) (OpR.rowIndexM e_arena_Span 1 hx7 rfl rfl rfl rfl rfl rfl rfl)
 refine OpsS.cons' true ?_ (fun _ _ _ _ _ _ _ => rfl) ?_
 · intro D env10 hA
   exact OpS.yes (o0 := [.var b0 [.val v1, .val (.int .i64 (w64 (a1 + a0.fN)))] 82, .row v1 (List.map e_arena_Span a2) 2 88, .var (blk (env6 12)) [.val (.int .i64 x8.1.fAt), .val (.int .i64 x8.1.fN)] 88]) (o1 := fun x => [.var b0 [.val v1, .val (.int .i64 (w64 (a1 + a0.fN)))] 82, .row v1 (List.map e_arena_Span (a2.set (w64 ((a2.length : Int) - 1)).toNat x8.1)) 2 88, .var (blk (env6 12)) [.val (.int .i64 x8.1.fAt), .val (.int .i64 x8.1.fN)] 88]) (d := fun x => .dead) (Want.plain rfl) (by first | rfl | simp only [hA.me, cond_true, cond_false, List.cons_append, List.nil_append, List.append_nil]) (fun x => by first | rfl | simp only [ins_self, upd_self, hA.me, cond_true, cond_false, List.cons_append, List.nil_append, List.append_nil]) (fun x => rfl) (OpR.rowStore0M (j := w64 ((a2.length : Int) - 1)) e_arena_Span x8.1 1 hx7 rfl rfl rfl rfl rfl rfl rfl rfl rfl)
 exact trivial
noncomputable def piece_Of.l1 (a0 : List arena_Span) (s6 : Int × Int × (List arena_Span)) : Option (Lp (Int × Int × (List arena_Span)) (Int × (List arena_Span))) :=
  if s6.1 < (a0.length : Int) then
    bnd (idx a0 s6.1) fun x15 =>
    bnd (piece_Text_with_2 x15 s6.2.1 s6.2.2) fun x17 =>
    some (Lp.next (w64 (s6.1 + 1), x17.1, x17.2))
  else
    some (Lp.done (s6.2.1, s6.2.2))
noncomputable def piece_Of (a0 : List arena_Span) : Option piece_Text :=
  bnd (loop (piece_Of.l1 a0) (0, 0, []) : Option (Int × (List arena_Span))) fun t3 =>
  some (⟨t3.2, t3.1⟩ : piece_Text)
set_option maxHeartbeats 4000000 in
theorem piece_Of_c {a0 : List arena_Span} {res : piece_Text} (h0 : piece_Of a0 = some res) : CallF X 42 [.sl 2 (List.map e_arena_Span a0)] [] (fun x => .agg [.sl 2 (List.map e_arena_Span res.fL), .val (.int .i64 res.fN)]) (fun x => []) := by
 unfold piece_Of at h0
 refine CallF.mkG (X := X) Try.func42 rfl rfl Try.ntmps42 rfl rfl ?_
 refine T.seq ?_
 refine T.region ?_
 refine TL.op (OpR.alloc rfl rfl (fun _ => rfl)) rfl (fun p1 => ?_)
 refine TL.nil ?_
 show T X _ _ _
 refine T.seq ?_
 refine T.region ?_
 refine TL.op (OpR.alloc rfl rfl (fun _ => rfl)) rfl (fun p2 => ?_)
 refine TL.nil ?_
 show T X _ _ _
 refine T.seq ?_
 refine T.seq ?_
 refine T.region ?_
 refine TL.op1 (OpR.pure rfl) rfl ?_
 refine TL.op1 (OpR.cast (OpR.pure rfl) (intE (lenM _ _))) rfl ?_
 refine TL.op1 (OpR.pure rfl) rfl ?_
 refine TL.nil ?_
 show T X _ _ _
 obtain ⟨t3, ht3, h0⟩ := bnd_some h0
 refine T.cutC (fun S' => ∃ y4 : Value, S' = ⟨[(3, .val (.pointer (some ⟨(blk p2), 0, none⟩))), (2, .val (.pointer (some ⟨(blk p1), 0, none⟩)))], [.var (blk p1) [.val (.slice none 0 0), .val (.int .i64 0)] 82, .var (blk p2) [.val y4, .val (.int .i64 t3.1)] 82, .row y4 (List.map e_arena_Span t3.2) 2 88], 16⟩) (fun _ h => h) ?_ ?_
 rotate_left
 · rintro _ ⟨y4, rfl⟩
   show T X _ _ _
   refine T.seq ?_
   refine T.region ?_
   refine TL.op1 (OpR.loadPtr 1 rfl rfl rfl rfl) rfl ?_
   refine TL.op0 (OpR.store 0 rfl rfl rfl rfl rfl rfl rfl rfl) ?_
   refine TL.nil ?_
   show T X _ _ _
   refine T.ret ?_
   obtain rfl := Option.some.inj h0
   exact PostG.retP (ks := []) (Gst.trans (Gst.only [2] rfl) (Gst.trans (Gst.freezeRow 2 rfl rfl (ReS.cons Re.refl ReS.nil) (ReO.var (ReL.cons (Re.base .all) (ReL.cons Re.refl ReL.nil)) (ReO.var (ReL.cons (Re.base .all) (ReL.cons Re.refl ReL.nil)) (ReO.same ReO.nil)))) (Gst.pick [0] rfl rfl))) undef (ResL.cons (ResV.var 0 rfl rfl rfl rfl) ResL.nil) rfl rfl rfl rfl
 refine T.block ?_
 obtain ⟨n7, n12⟩ := loop_some ht3
 refine T.loop (fun n S' => ∃ S'', Gst S' S'' ∧ ∃ y5 : Value, ∃ s6 : Int × Int × (List arena_Span), S'' = ⟨[(8, .val (.int .i64 s6.1)), (7, .val (.int .i64 (a0.length : Int))), (6, .sl 2 (List.map e_arena_Span a0)), (3, .val (.pointer (some ⟨(blk p2), 0, none⟩))), (2, .val (.pointer (some ⟨(blk p1), 0, none⟩)))], [.var (blk p1) [.val (.slice none 0 0), .val (.int .i64 0)] 82, .var (blk p2) [.val y5, .val (.int .i64 s6.2.1)] 82, .row y5 (List.map e_arena_Span s6.2.2) 2 88], 16⟩ ∧ iter (piece_Of.l1 a0) n s6 = some t3) n7 ?_ ?_
 · exact ⟨_, Gst.trans (Gst.only [2, 3, 6, 7, 8] rfl) (Gst.nilRow (ow := [.var (blk p1) [.val (.slice none 0 0), .val (.int .i64 0)] 82, .var (blk p2) [.val (.slice none 0 0), .val (.int .i64 0)] 82]) 2 88 rfl), (.slice none 0 0), (0, 0, []), rfl, n12⟩
 rintro n7 _ ⟨_, g, y5, s6, rfl, i11⟩
 refine T.ghost g ?_
 obtain ⟨m8, q9, rfl, q10, i11⟩ := iter_succ i11
 unfold piece_Of.l1 at q10
 refine T.seq ?_
 refine T.region ?_
 refine TL.op1 (OpR.pure rfl) rfl ?_
 refine TL.nil ?_
 show T X _ _ _
 refine T.seq ?_
 rcases ite_some q10 with ⟨c14, q10⟩ | ⟨c14, q10⟩
 rotate_left
 · refine T.condF rfl (decide_eq_false c14) ?_
   refine T.exit ?_
   obtain rfl := Option.some.inj q10
   obtain rfl : _ = _ := i11
   exact ⟨_, Gst.only [2, 3] rfl, y5, rfl⟩
 refine T.condT rfl (decide_eq_true c14) ?_
 refine T.skip ?_
 show T X _ _ _
 refine T.seq ?_
 refine T.block ?_
 refine T.seq ?_
 refine T.region ?_
 obtain ⟨x15, hx15, q10⟩ := bnd_some q10
 refine TL.op1 (OpR.indexM e_arena_Span hx15 rfl rfl rfl rfl rfl) rfl ?_
 refine TL.op1 (OpR.pure rfl) rfl ?_
 refine TL.op (OpR.alloc rfl rfl (fun _ => rfl)) rfl (fun p16 => ?_)
 refine TL.op0 (OpR.store 3 rfl rfl rfl rfl rfl rfl rfl rfl) ?_
 refine TL.nil ?_
 show T X _ _ _
 refine T.region ?_
 refine TL.op1 (OpR.loadPtr 3 rfl rfl rfl rfl) rfl ?_
 obtain ⟨x17, hx17, q10⟩ := bnd_some q10
 refine TL.op (OpR.call [1, 2] fn81 (piece_Text_with_2_c hx17) rfl rfl rfl (fun _ => rfl)) rfl (fun w18 => ?_)
 refine TL.nil ?_
 show T X _ _ _
 refine T.region ?_
 refine TL.op1 (OpR.pure rfl) rfl ?_
 refine TL.op1 (OpR.pure rfl) rfl ?_
 refine TL.nil ?_
 obtain rfl := Option.some.inj q10
 exact ⟨m8, Nat.lt_succ_self _, _, Gst.trans (Gst.only [2, 3, 6, 7, 8] rfl) (Gst.pick [0, 1, 2] rfl rfl), (vn w18 0), (w64 (s6.1 + 1), x17.1, x17.2), rfl, i11⟩
noncomputable def piece_Text_Len (a0 : piece_Text) : Option Int :=
  some a0.fN
set_option maxHeartbeats 4000000 in
theorem piece_Text_Len_c {a0 : piece_Text} {res : Int} (h0 : piece_Text_Len a0 = some res) : CallF X 68 [.agg [.sl 2 (List.map e_arena_Span a0.fL), .val (.int .i64 a0.fN)]] [] (fun x => .val (.int .i64 res)) (fun x => []) := by
 unfold piece_Text_Len at h0
 refine CallF.mkG (X := X) Try.func68 rfl rfl Try.ntmps68 rfl rfl ?_
 refine T.seq ?_
 refine T.region ?_
 refine TL.op1 (OpR.boxImm rfl rfl) rfl ?_
 refine TL.op1 (OpR.pure rfl) rfl ?_
 refine TL.nil ?_
 show T X _ _ _
 refine T.seq ?_
 refine T.region ?_
 refine TL.op1 (OpR.pure rfl) rfl ?_
 refine TL.op1 (OpR.pure rfl) rfl ?_
 refine TL.op1 (OpR.pure rfl) rfl ?_
 refine TL.nil ?_
 show T X _ _ _
 refine T.ret ?_
 obtain rfl := Option.some.inj h0
 exact PostG.retP (ks := []) (Gst.only [2] rfl) undef (ResL.cons (ResV.tmp rfl) ResL.nil) rfl rfl rfl rfl
noncomputable def arena_Arena_Room (a0 : List UInt8) : Option Int :=
  some (w64 (16384 - (a0.length : Int)))
set_option maxHeartbeats 4000000 in
theorem arena_Arena_Room_c {a0 : List UInt8} {b0 : Nat} {v1 : Value} {res : Int} (h0 : arena_Arena_Room a0 = some res) : CallF X 180 [.val (.pointer (some ⟨b0, 0, none⟩))] [.var b0 [.val v1] 142, .row v1 (List.map byteD a0) 1 5] (fun x => .val (.int .i64 res)) (fun x => [.var b0 [.val v1] 142, .row v1 (List.map byteD a0) 1 5]) := by
 unfold arena_Arena_Room at h0
 refine CallF.mkG (X := X) Try.func180 rfl rfl Try.ntmps180 rfl rfl ?_
 refine T.seq ?_
 refine T.region ?_
 refine TL.op1 (OpR.pure rfl) rfl ?_
 refine TL.nil ?_
 show T X _ _ _
 refine T.seq ?_
 refine T.seq ?_
 refine T.region ?_
 refine TL.op1 (OpR.pure rfl) rfl ?_
 refine TL.op1 (OpR.ptrNil rfl rfl rfl) rfl ?_
 refine TL.nil ?_
 show T X _ _ _
 refine T.condF rfl rfl ?_
 refine T.skip ?_
 show T X _ _ _
 refine T.seq ?_
 refine T.region ?_
 refine TL.op1 (OpR.pure rfl) rfl ?_
 refine TL.op1 (OpR.pure rfl) rfl ?_
 refine TL.op1 (OpR.pure rfl) rfl ?_
 refine TL.op1 (OpR.loadPtr 0 rfl rfl rfl rfl) rfl ?_
 refine TL.op1 (OpR.rowLenM byteD 1 rfl rfl rfl rfl) rfl ?_
 refine TL.op1 (OpR.pure rfl) rfl ?_
 refine TL.op1 (OpR.pure rfl) rfl ?_
 refine TL.nil ?_
 show T X _ _ _
 refine T.ret ?_
 obtain rfl := Option.some.inj h0
 exact PostG.retP (ks := [0, 1]) (Gst.only [2] rfl) undef (ResL.cons (ResV.tmp rfl) ResL.nil) rfl rfl rfl rfl
noncomputable def arena_Arena_Add (a0 : List UInt8) (a1 : List UInt8) : Option (arena_Span × Int × (List UInt8)) :=
  if (a0.length : Int) = 0 then
    some ((⟨0, 0⟩ : arena_Span), 0, a1)
  else
    bnd (arena_Arena_Room a1) fun x3 =>
    if (a0.length : Int) > x3 then
      some ((⟨0, 0⟩ : arena_Span), 6, a1)
    else
      bnd (app 1 a1 a0) fun x6 =>
      some ((⟨(a1.length : Int), (a0.length : Int)⟩ : arena_Span), 0, x6)
set_option maxHeartbeats 4000000 in
theorem arena_Arena_Add_c {a0 : List UInt8} {a1 : List UInt8} {b0 : Nat} {v1 : Value} {res : arena_Span × Int × (List UInt8)} (h0 : arena_Arena_Add a0 a1 = some res) : CallF X 138 [.val (.pointer (some ⟨b0, 0, none⟩)), .sl 1 (List.map byteD a0)] [.var b0 [.val v1] 142, .row v1 (List.map byteD a1) 1 5] (fun x => .tup [.agg [.val (.int .i64 res.1.fAt), .val (.int .i64 res.1.fN)], .val (.int .i64 res.2.1)]) (fun x => [.var b0 [.val (vn x 0)] 142, .row (vn x 0) (List.map byteD res.2.2) 1 5]) := by
 unfold arena_Arena_Add at h0
 refine CallF.mkG (X := X) Try.func138 rfl rfl Try.ntmps138 rfl rfl ?_
 refine T.seq ?_
 refine T.region ?_
 refine TL.op (OpR.alloc rfl rfl (fun _ => rfl)) rfl (fun p1 => ?_)
 refine TL.op1 (OpR.pure rfl) rfl ?_
 refine TL.nil ?_
 show T X _ _ _
 refine T.seq ?_
 refine T.block ?_
 refine T.seq ?_
 refine T.region ?_
 refine TL.op1 (OpR.pure rfl) rfl ?_
 refine TL.op1 (OpR.ptrNil rfl rfl rfl) rfl ?_
 refine TL.op1 (OpR.pure rfl) rfl ?_
 refine TL.nil ?_
 show T X _ _ _
 refine T.condF rfl rfl ?_
 refine T.seq ?_
 refine T.region ?_
 refine TL.op1 (OpR.pure rfl) rfl ?_
 refine TL.op1 (OpR.cast (OpR.pure rfl) (intE (lenM _ _))) rfl ?_
 refine TL.op1 (OpR.pure rfl) rfl ?_
 refine TL.op1 (OpR.pure rfl) rfl ?_
 refine TL.nil ?_
 show T X _ _ _
 rcases ite_some h0 with ⟨c2, h0⟩ | ⟨c2, h0⟩
 · refine T.condT rfl (beq_iff_eq.2 c2) ?_
   refine T.seq ?_
   refine T.region ?_
   refine TL.op1 (OpR.build rfl rfl rfl rfl rfl) rfl ?_
   refine TL.op0 (OpR.store 2 rfl rfl rfl rfl rfl rfl rfl rfl) ?_
   refine TL.op1 (OpR.pure rfl) rfl ?_
   refine TL.nil ?_
   show T X _ _ _
   refine T.ret ?_
   obtain rfl := Option.some.inj h0
   exact PostG.retP (ks := [0, 1]) (Gst.only [4, 5] rfl) (.tuple #[v1]) (ResL.cons (ResV.var 2 rfl rfl rfl rfl) (ResL.cons (ResV.tmp rfl) ResL.nil)) rfl rfl rfl rfl
 refine T.condF rfl (beq_eq_false_iff_ne.2 c2) ?_
 refine T.seq ?_
 refine T.region ?_
 refine TL.op1 (OpR.pure rfl) rfl ?_
 refine TL.op1 (OpR.cast (OpR.pure rfl) (intE (lenM _ _))) rfl ?_
 refine TL.op1 (OpR.pure rfl) rfl ?_
 obtain ⟨x3, hx3, h0⟩ := bnd_some h0
 refine TL.op1 (OpR.call [0, 1] fn180 (arena_Arena_Room_c hx3) rfl rfl rfl (fun _ => rfl)) rfl ?_
 refine TL.op1 (OpR.pure rfl) rfl ?_
 refine TL.op1 (OpR.pure rfl) rfl ?_
 refine TL.nil ?_
 show T X _ _ _
 rcases ite_some h0 with ⟨c4, h0⟩ | ⟨c4, h0⟩
 · refine T.condT rfl (decide_eq_true c4) ?_
   refine T.seq ?_
   refine T.region ?_
   refine TL.op1 (OpR.build rfl rfl rfl rfl rfl) rfl ?_
   refine TL.op0 (OpR.store 2 rfl rfl rfl rfl rfl rfl rfl rfl) ?_
   refine TL.op1 (OpR.pure rfl) rfl ?_
   refine TL.nil ?_
   show T X _ _ _
   refine T.ret ?_
   obtain rfl := Option.some.inj h0
   exact PostG.retP (ks := [0, 1]) (Gst.only [4, 5] rfl) (.tuple #[v1]) (ResL.cons (ResV.var 2 rfl rfl rfl rfl) (ResL.cons (ResV.tmp rfl) ResL.nil)) rfl rfl rfl rfl
 refine T.condF rfl (decide_eq_false c4) ?_
 refine T.skip ?_
 show T X _ _ _
 refine T.seq ?_
 refine T.region ?_
 refine TL.op1 (OpR.pure rfl) rfl ?_
 refine TL.op1 (OpR.pure rfl) rfl ?_
 refine TL.op1 (OpR.pure rfl) rfl ?_
 refine TL.op1 (OpR.loadPtr 0 rfl rfl rfl rfl) rfl ?_
 refine TL.op1 (OpR.rowLenM byteD 1 rfl rfl rfl rfl) rfl ?_
 refine TL.op1 (OpR.pure rfl) rfl ?_
 refine TL.op1 (OpR.cast (OpR.pure rfl) (intE (lenM _ _))) rfl ?_
 refine TL.op1 (OpR.build rfl rfl rfl rfl rfl) rfl ?_
 refine TL.op (OpR.alloc rfl rfl (fun _ => rfl)) rfl (fun p5 => ?_)
 refine TL.op0 (OpR.store 3 rfl rfl rfl rfl rfl rfl rfl rfl) ?_
 refine TL.nil ?_
 show T X _ _ _
 refine T.seq ?_
 refine T.region ?_
 refine TL.op1 (OpR.pure rfl) rfl ?_
 refine TL.op1 (OpR.pure rfl) rfl ?_
 refine TL.op1 (OpR.pure rfl) rfl ?_
 refine TL.op1 (OpR.pure rfl) rfl ?_
 refine TL.op1 (OpR.loadPtr 0 rfl rfl rfl rfl) rfl ?_
 refine TL.op1 (OpR.pure rfl) rfl ?_
 obtain ⟨x6, hx6, h0⟩ := bnd_some h0
 refine TL.op (OpR.appendM (m := a0) byteD 1 hx6 rfl rfl rfl rfl rfl rfl rfl rfl rfl (fun _ => rfl)) rfl (fun v7 => ?_)
 refine TL.op1 (OpR.pure rfl) rfl ?_
 refine TL.op1 (OpR.pure rfl) rfl ?_
 refine TL.op0 (OpR.store 0 rfl rfl rfl rfl rfl rfl rfl rfl) ?_
 refine TL.nil ?_
 show T X _ _ _
 refine T.seq ?_
 refine T.region ?_
 refine TL.op1 (OpR.loadPtr 3 rfl rfl rfl rfl) rfl ?_
 refine TL.op0 (OpR.store 2 rfl rfl rfl rfl rfl rfl rfl rfl) ?_
 refine TL.op1 (OpR.pure rfl) rfl ?_
 refine TL.nil ?_
 show T X _ _ _
 refine T.ret ?_
 obtain rfl := Option.some.inj h0
 exact PostG.retP (ks := [0, 1]) (Gst.trans (Gst.only [4, 5] rfl) (Gst.pick [0, 1, 2] rfl rfl)) (.tuple #[v7]) (ResL.cons (ResV.var 2 rfl rfl rfl rfl) (ResL.cons (ResV.tmp rfl) ResL.nil)) rfl rfl rfl rfl
noncomputable def arena_Arena_Keep (a0 : List UInt8) (a1 : List UInt8) : Option (arena_Span × Int × (List UInt8)) :=
  bnd (if (a0.length : Int) > 0 then
    bnd (bIndex a1 a0) fun x5 =>
    if x5 ≥ 0 then
      some (Ex.ret ((⟨x5, (a0.length : Int)⟩ : arena_Span), 0, a1))
    else
      some (Ex.brk ())
  else
    some (Ex.brk ()) : Option (Ex Unit (arena_Span × Int × (List UInt8)))) fun t2 => match t2 with
    | .brk u3 =>
      bnd (arena_Arena_Add a0 a1) fun x7 =>
      some (x7.1, x7.2.1, x7.2.2)
    | .ret u3 => some u3
set_option maxHeartbeats 4000000 in
theorem arena_Arena_Keep_c {a0 : List UInt8} {a1 : List UInt8} {b0 : Nat} {v1 : Value} {res : arena_Span × Int × (List UInt8)} (h0 : arena_Arena_Keep a0 a1 = some res) : CallF X 83 [.val (.pointer (some ⟨b0, 0, none⟩)), .sl 1 (List.map byteD a0)] [.var b0 [.val v1] 142, .row v1 (List.map byteD a1) 1 5] (fun x => .tup [.agg [.val (.int .i64 res.1.fAt), .val (.int .i64 res.1.fN)], .val (.int .i64 res.2.1)]) (fun x => [.var b0 [.val (vn x 0)] 142, .row (vn x 0) (List.map byteD res.2.2) 1 5]) := by
 unfold arena_Arena_Keep at h0
 refine CallF.mkG (X := X) Try.func83 rfl rfl Try.ntmps83 rfl rfl ?_
 refine T.seq ?_
 refine T.region ?_
 refine TL.op (OpR.alloc rfl rfl (fun _ => rfl)) rfl (fun p1 => ?_)
 refine TL.op1 (OpR.pure rfl) rfl ?_
 refine TL.nil ?_
 show T X _ _ _
 refine T.seq ?_
 refine T.seq ?_
 refine T.region ?_
 refine TL.op1 (OpR.pure rfl) rfl ?_
 refine TL.op1 (OpR.ptrNe rfl rfl rfl) rfl ?_
 refine TL.op1 (OpR.pure rfl) rfl ?_
 refine TL.on rfl rfl rfl rfl rfl ?_
 refine TL.op1 (OpR.pure rfl) rfl ?_
 refine TL.on rfl rfl rfl rfl rfl ?_
 refine TL.op1 (OpR.cast (OpR.pure rfl) (intE (lenM _ _))) rfl ?_
 refine TL.on rfl rfl rfl rfl rfl ?_
 refine TL.op1 (OpR.pure rfl) rfl ?_
 refine TL.op1 (OpR.pickT rfl rfl rfl) rfl ?_
 refine TL.nil ?_
 show T X _ _ _
 obtain ⟨t2, ht2, h0⟩ := bnd_some h0
 refine T.cutC (fun S' => ∃ u3, t2 = Ex.brk u3 ∧ S' = ⟨[(5, .val (.int .i64 0)), (4, .val (.pointer (some ⟨(blk p1), 0, none⟩))), (1, .sl 1 (List.map byteD a0)), (0, .val (.pointer (some ⟨b0, 0, none⟩)))], [.var b0 [.val v1] 142, .row v1 (List.map byteD a1) 1 5, .var (blk p1) [.val (.int .i64 0), .val (.int .i64 0)] 88], 31⟩) (fun _ h => h) ?_ ?_
 rotate_left
 · rintro _ ⟨u3, rfl, rfl⟩
   show T X _ _ _
   refine T.seq ?_
   refine T.region ?_
   refine TL.op1 (OpR.pure rfl) rfl ?_
   refine TL.op1 (OpR.pure rfl) rfl ?_
   obtain ⟨x7, hx7, h0⟩ := bnd_some h0
   refine TL.op (OpR.call [0, 1] fn138 (arena_Arena_Add_c hx7) rfl rfl rfl (fun _ => rfl)) rfl (fun w8 => ?_)
   refine TL.op1 (OpR.pure rfl) rfl ?_
   refine TL.op1 (OpR.pure rfl) rfl ?_
   refine TL.op0 (OpR.store 2 rfl rfl rfl rfl rfl rfl rfl rfl) ?_
   refine TL.op1 (OpR.pure rfl) rfl ?_
   refine TL.nil ?_
   show T X _ _ _
   refine T.ret ?_
   obtain rfl := Option.some.inj h0
   exact PostG.retP (ks := [0, 1]) (Gst.only [4, 5] rfl) (.tuple #[(vn w8 0)]) (ResL.cons (ResV.var 2 rfl rfl rfl rfl) (ResL.cons (ResV.tmp rfl) ResL.nil)) rfl rfl rfl rfl
 rcases ite_some ht2 with ⟨c4, ht2⟩ | ⟨c4, ht2⟩
 rotate_left
 · refine T.condF rfl (decide_eq_false c4) ?_
   refine T.skip ?_
   obtain rfl := Option.some.inj ht2
   exact ⟨_, Gst.only [0, 1, 4, 5] rfl, _, rfl, rfl⟩
 refine T.condT rfl (decide_eq_true c4) ?_
 refine T.seq ?_
 refine T.region ?_
 refine TL.op1 (OpR.pure rfl) rfl ?_
 refine TL.op1 (OpR.pure rfl) rfl ?_
 refine TL.op1 (OpR.pure rfl) rfl ?_
 refine TL.op1 (OpR.loadPtr 0 rfl rfl rfl rfl) rfl ?_
 refine TL.op1 (OpR.pure rfl) rfl ?_
 obtain ⟨x5, hx5, ht2⟩ := bnd_some ht2
 refine TL.op1 (OpR.bytesIndex shLay glob0 rfl fn137 (l := a1) (m := a0) hx5 (Src.row 1 rfl rfl) (Src.sl rfl)) rfl ?_
 refine TL.op1 (OpR.pure rfl) rfl ?_
 refine TL.nil ?_
 show T X _ _ _
 refine T.seq ?_
 refine T.region ?_
 refine TL.op1 (OpR.pure rfl) rfl ?_
 refine TL.op1 (OpR.pure rfl) rfl ?_
 refine TL.nil ?_
 show T X _ _ _
 rcases ite_some ht2 with ⟨c6, ht2⟩ | ⟨c6, ht2⟩
 rotate_left
 · refine T.condF rfl (decide_eq_false c6) ?_
   refine T.skip ?_
   obtain rfl := Option.some.inj ht2
   exact ⟨_, Gst.only [0, 1, 4, 5] rfl, _, rfl, rfl⟩
 refine T.condT rfl (decide_eq_true c6) ?_
 refine T.seq ?_
 refine T.region ?_
 refine TL.op1 (OpR.pure rfl) rfl ?_
 refine TL.op1 (OpR.pure rfl) rfl ?_
 refine TL.op1 (OpR.cast (OpR.pure rfl) (intE (lenM _ _))) rfl ?_
 refine TL.op1 (OpR.build rfl rfl rfl rfl rfl) rfl ?_
 refine TL.op0 (OpR.store 2 rfl rfl rfl rfl rfl rfl rfl rfl) ?_
 refine TL.op1 (OpR.pure rfl) rfl ?_
 refine TL.nil ?_
 show T X _ _ _
 refine T.ret ?_
 obtain rfl := Option.some.inj ht2
 obtain rfl := Option.some.inj h0
 exact PostG.retP (ks := [0, 1]) (Gst.only [4, 5] rfl) (.tuple #[v1]) (ResL.cons (ResV.var 2 rfl rfl rfl rfl) (ResL.cons (ResV.tmp rfl) ResL.nil)) rfl rfl rfl rfl
noncomputable def arena_Arena_Right (a0 : arena_Span) (a1 : List UInt8) : Option Bool :=
  bnd (if a0.fAt ≥ 0 then
    if a0.fN ≥ 0 then
      if a0.fAt ≤ (a1.length : Int) then
        some (decide (a0.fN ≤ (w64 ((a1.length : Int) - a0.fAt))))
      else
        some false
    else
      some false
  else
    some false : Option Bool) fun t1 =>
  some t1
set_option maxHeartbeats 4000000 in
theorem arena_Arena_Right_c {a0 : arena_Span} {a1 : List UInt8} {b0 : Nat} {v1 : Value} {res : Bool} (h0 : arena_Arena_Right a0 a1 = some res) : CallF X 187 [.val (.pointer (some ⟨b0, 0, none⟩)), .agg [.val (.int .i64 a0.fAt), .val (.int .i64 a0.fN)]] [.var b0 [.val v1] 142, .row v1 (List.map byteD a1) 1 5] (fun x => .val (.bool res)) (fun x => [.var b0 [.val v1] 142, .row v1 (List.map byteD a1) 1 5]) := by
 unfold arena_Arena_Right at h0
 refine CallF.mkG (X := X) Try.func187 rfl rfl Try.ntmps187 rfl rfl ?_
 refine T.seq ?_
 refine T.region ?_
 refine TL.op1 (OpR.boxImm rfl rfl) rfl ?_
 refine TL.op1 (OpR.pure rfl) rfl ?_
 refine TL.nil ?_
 show T X _ _ _
 refine T.seq ?_
 refine T.seq ?_
 refine T.region ?_
 refine TL.op1 (OpR.pure rfl) rfl ?_
 refine TL.op1 (OpR.ptrNil rfl rfl rfl) rfl ?_
 refine TL.nil ?_
 show T X _ _ _
 refine T.condF rfl rfl ?_
 refine T.skip ?_
 show T X _ _ _
 refine T.seq ?_
 obtain ⟨t1, ht1, h0⟩ := bnd_some h0
 refine T.cutC (fun S' => S' = ⟨[(4, .val (.bool t1))], [.var b0 [.val v1] 142, .row v1 (List.map byteD a1) 1 5], 38⟩) (fun _ h => h) ?_ ?_
 rotate_left
 · rintro _ rfl
   show T X _ _ _
   refine T.ret ?_
   obtain rfl := Option.some.inj h0
   exact PostG.retP (ks := [0, 1]) (Gst.only [4] rfl) undef (ResL.cons (ResV.tmp rfl) ResL.nil) rfl rfl rfl rfl
 rcases ite_some ht1 with ⟨c3, ht1⟩ | ⟨c3, ht1⟩
 rotate_left
 · refine T.drawQ drawsX [.nod [.val (.int .i64 a0.fAt), .val (.int .i64 a0.fN)], .val (.int .i64 a0.fAt), .val (.bool (decide (a0.fAt ≥ 0))), .val (.bool (decide (a0.fAt ≥ 0))), .tup [], .tup [], .tup [], .val (.bool false), .val (.bool false), .tup [], .tup [], .tup [], .tup [], .tup [], .tup [], .tup [], .tup [], .val (.bool false), .val (.bool false), .tup [], .tup [], .tup [], .tup [], .tup [], .tup [], .tup [], .tup [], .tup [], .tup [], .tup [], .val (.bool false), .val (.bool false)] [0, 1, 3, 4, 5, 6, 7, 8, 9, 10, 11, 12, 13, 14, 15, 16, 17, 18, 19, 20, 21, 22, 23, 24, 25, 26, 27, 28, 29, 30, 31, 32, 33, 34, 35, 36, 37] (by decide +kernel) rfl ?_ rfl ?_
   rotate_left
   · obtain rfl := Option.some.inj ht1
     exact ⟨_, Gst.only [4] rfl, rfl⟩
   refine OpsQ.yes (Want.plain rfl) rfl (OpR.pure rfl) ?_
   refine OpsQ.yes (Want.plain rfl) rfl (OpR.pure rfl) ?_
   refine OpsQ.yes (Want.plain rfl) rfl (OpR.pure rfl) ?_
   refine OpsQ.yes (Want.plain rfl) rfl (OpR.pure rfl) ?_
   refine OpsQ.no (Want.bool rfl rfl rfl rfl (by rw [(decide_eq_false c3)]; rfl)) rfl ?_
   refine OpsQ.no (Want.bool rfl rfl rfl rfl (by rw [(decide_eq_false c3)]; rfl)) rfl ?_
   refine OpsQ.no (Want.bool rfl rfl rfl rfl (by rw [(decide_eq_false c3)]; rfl)) rfl ?_
   refine OpsQ.yes (Want.plain rfl) rfl (OpR.pickF rfl (decide_eq_false c3) rfl) ?_
   refine OpsQ.yes (Want.plain rfl) rfl (OpR.pure rfl) ?_
   refine OpsQ.no (Want.bool rfl rfl rfl rfl rfl) rfl ?_
   refine OpsQ.no (Want.bool rfl rfl rfl rfl rfl) rfl ?_
   refine OpsQ.no (Want.bool rfl rfl rfl rfl rfl) rfl ?_
   refine OpsQ.no (Want.bool rfl rfl rfl rfl rfl) rfl ?_
   refine OpsQ.no (Want.bool rfl rfl rfl rfl rfl) rfl ?_
   refine OpsQ.no (Want.bool rfl rfl rfl rfl rfl) rfl ?_
   refine OpsQ.no (Want.bool rfl rfl rfl rfl rfl) rfl ?_
   refine OpsQ.no (Want.bool rfl rfl rfl rfl rfl) rfl ?_
   refine OpsQ.yes (Want.plain rfl) rfl (OpR.pickF rfl rfl rfl) ?_
   refine OpsQ.yes (Want.plain rfl) rfl (OpR.pure rfl) ?_
   refine OpsQ.no (Want.bool rfl rfl rfl rfl rfl) rfl ?_
   refine OpsQ.no (Want.bool rfl rfl rfl rfl rfl) rfl ?_
   refine OpsQ.no (Want.bool rfl rfl rfl rfl rfl) rfl ?_
   refine OpsQ.no (Want.bool rfl rfl rfl rfl rfl) rfl ?_
   refine OpsQ.no (Want.bool rfl rfl rfl rfl rfl) rfl ?_
   refine OpsQ.no (Want.bool rfl rfl rfl rfl rfl) rfl ?_
   refine OpsQ.no (Want.bool rfl rfl rfl rfl rfl) rfl ?_
   refine OpsQ.no (Want.bool rfl rfl rfl rfl rfl) rfl ?_
   refine OpsQ.no (Want.bool rfl rfl rfl rfl rfl) rfl ?_
   refine OpsQ.no (Want.bool rfl rfl rfl rfl rfl) rfl ?_
   refine OpsQ.no (Want.bool rfl rfl rfl rfl rfl) rfl ?_
   refine OpsQ.yes (Want.plain rfl) rfl (OpR.pickF rfl rfl rfl) ?_
   refine OpsQ.yes (Want.plain rfl) rfl (OpR.pure rfl) ?_
   exact OpsQ.nil
 rcases ite_some ht1 with ⟨c4, ht1⟩ | ⟨c4, ht1⟩
 rotate_left
 · refine T.drawQ drawsX [.nod [.val (.int .i64 a0.fAt), .val (.int .i64 a0.fN)], .val (.int .i64 a0.fAt), .val (.bool (decide (a0.fAt ≥ 0))), .val (.bool (decide (a0.fAt ≥ 0))), .nod [.val (.int .i64 a0.fN)], .val (.int .i64 a0.fN), .val (.bool (decide (a0.fN ≥ 0))), .val (.bool (decide (a0.fN ≥ 0))), .val (.bool (decide (a0.fN ≥ 0))), .tup [], .tup [], .tup [], .tup [], .tup [], .tup [], .tup [], .tup [], .val (.bool false), .val (.bool false), .tup [], .tup [], .tup [], .tup [], .tup [], .tup [], .tup [], .tup [], .tup [], .tup [], .tup [], .val (.bool false), .val (.bool false)] [0, 1, 3, 4, 5, 6, 7, 8, 9, 10, 11, 12, 13, 14, 15, 16, 17, 18, 19, 20, 21, 22, 23, 24, 25, 26, 27, 28, 29, 30, 31, 32, 33, 34, 35, 36, 37] (by decide +kernel) rfl ?_ rfl ?_
   rotate_left
   · obtain rfl := Option.some.inj ht1
     exact ⟨_, Gst.only [4] rfl, rfl⟩
   refine OpsQ.yes (Want.plain rfl) rfl (OpR.pure rfl) ?_
   refine OpsQ.yes (Want.plain rfl) rfl (OpR.pure rfl) ?_
   refine OpsQ.yes (Want.plain rfl) rfl (OpR.pure rfl) ?_
   refine OpsQ.yes (Want.plain rfl) rfl (OpR.pure rfl) ?_
   refine OpsQ.yes (Want.bool rfl rfl rfl rfl (by rw [(decide_eq_true c3)]; rfl)) rfl (OpR.pure rfl) ?_
   refine OpsQ.yes (Want.bool rfl rfl rfl rfl (by rw [(decide_eq_true c3)]; rfl)) rfl (OpR.pure rfl) ?_
   refine OpsQ.yes (Want.bool rfl rfl rfl rfl (by rw [(decide_eq_true c3)]; rfl)) rfl (OpR.pure rfl) ?_
   refine OpsQ.yes (Want.plain rfl) rfl (OpR.pickT rfl (decide_eq_true c3) rfl) ?_
   refine OpsQ.yes (Want.plain rfl) rfl (OpR.pure rfl) ?_
   refine OpsQ.no (Want.bool rfl rfl rfl rfl (by rw [(decide_eq_false c4)]; rfl)) rfl ?_
   refine OpsQ.no (Want.bool rfl rfl rfl rfl (by rw [(decide_eq_false c4)]; rfl)) rfl ?_
   refine OpsQ.no (Want.bool rfl rfl rfl rfl (by rw [(decide_eq_false c4)]; rfl)) rfl ?_
   refine OpsQ.no (Want.bool rfl rfl rfl rfl (by rw [(decide_eq_false c4)]; rfl)) rfl ?_
   refine OpsQ.no (Want.bool rfl rfl rfl rfl (by rw [(decide_eq_false c4)]; rfl)) rfl ?_
   refine OpsQ.no (Want.bool rfl rfl rfl rfl (by rw [(decide_eq_false c4)]; rfl)) rfl ?_
   refine OpsQ.no (Want.bool rfl rfl rfl rfl (by rw [(decide_eq_false c4)]; rfl)) rfl ?_
   refine OpsQ.no (Want.bool rfl rfl rfl rfl (by rw [(decide_eq_false c4)]; rfl)) rfl ?_
   refine OpsQ.yes (Want.plain rfl) rfl (OpR.pickF rfl (decide_eq_false c4) rfl) ?_
   refine OpsQ.yes (Want.plain rfl) rfl (OpR.pure rfl) ?_
   refine OpsQ.no (Want.bool rfl rfl rfl rfl rfl) rfl ?_
   refine OpsQ.no (Want.bool rfl rfl rfl rfl rfl) rfl ?_
   refine OpsQ.no (Want.bool rfl rfl rfl rfl rfl) rfl ?_
   refine OpsQ.no (Want.bool rfl rfl rfl rfl rfl) rfl ?_
   refine OpsQ.no (Want.bool rfl rfl rfl rfl rfl) rfl ?_
   refine OpsQ.no (Want.bool rfl rfl rfl rfl rfl) rfl ?_
   refine OpsQ.no (Want.bool rfl rfl rfl rfl rfl) rfl ?_
   refine OpsQ.no (Want.bool rfl rfl rfl rfl rfl) rfl ?_
   refine OpsQ.no (Want.bool rfl rfl rfl rfl rfl) rfl ?_
   refine OpsQ.no (Want.bool rfl rfl rfl rfl rfl) rfl ?_
   refine OpsQ.no (Want.bool rfl rfl rfl rfl rfl) rfl ?_
   refine OpsQ.yes (Want.plain rfl) rfl (OpR.pickF rfl rfl rfl) ?_
   refine OpsQ.yes (Want.plain rfl) rfl (OpR.pure rfl) ?_
   exact OpsQ.nil
 rcases ite_some ht1 with ⟨c5, ht1⟩ | ⟨c5, ht1⟩
 rotate_left
 · refine T.drawQ drawsX [.nod [.val (.int .i64 a0.fAt), .val (.int .i64 a0.fN)], .val (.int .i64 a0.fAt), .val (.bool (decide (a0.fAt ≥ 0))), .val (.bool (decide (a0.fAt ≥ 0))), .nod [.val (.int .i64 a0.fN)], .val (.int .i64 a0.fN), .val (.bool (decide (a0.fN ≥ 0))), .val (.bool (decide (a0.fN ≥ 0))), .val (.bool (decide (a0.fN ≥ 0))), .nod [.val (.int .i64 a0.fAt), .val (.int .i64 a0.fN)], .val (.int .i64 a0.fAt), .val (.pointer (some ⟨b0, 0, none⟩)), .val (.pointer (some ⟨b0, 0, none⟩)), .val (.pointer (some ⟨b0, 0, none⟩)), .val v1, .val (.int .i64 (a1.length : Int)), .val (.bool (decide (a0.fAt ≤ (a1.length : Int)))), .val (.bool (decide (a0.fAt ≤ (a1.length : Int)))), .val (.bool (decide (a0.fAt ≤ (a1.length : Int)))), .tup [], .tup [], .tup [], .tup [], .tup [], .tup [], .tup [], .tup [], .tup [], .tup [], .tup [], .val (.bool false), .val (.bool false)] [0, 1, 3, 4, 5, 6, 7, 8, 9, 10, 11, 12, 13, 14, 15, 16, 17, 18, 19, 20, 21, 22, 23, 24, 25, 26, 27, 28, 29, 30, 31, 32, 33, 34, 35, 36, 37] (by decide +kernel) rfl ?_ rfl ?_
   rotate_left
   · obtain rfl := Option.some.inj ht1
     exact ⟨_, Gst.only [4] rfl, rfl⟩
   refine OpsQ.yes (Want.plain rfl) rfl (OpR.pure rfl) ?_
   refine OpsQ.yes (Want.plain rfl) rfl (OpR.pure rfl) ?_
   refine OpsQ.yes (Want.plain rfl) rfl (OpR.pure rfl) ?_
   refine OpsQ.yes (Want.plain rfl) rfl (OpR.pure rfl) ?_
   refine OpsQ.yes (Want.bool rfl rfl rfl rfl (by rw [(decide_eq_true c3)]; rfl)) rfl (OpR.pure rfl) ?_
   refine OpsQ.yes (Want.bool rfl rfl rfl rfl (by rw [(decide_eq_true c3)]; rfl)) rfl (OpR.pure rfl) ?_
   refine OpsQ.yes (Want.bool rfl rfl rfl rfl (by rw [(decide_eq_true c3)]; rfl)) rfl (OpR.pure rfl) ?_
   refine OpsQ.yes (Want.plain rfl) rfl (OpR.pickT rfl (decide_eq_true c3) rfl) ?_
   refine OpsQ.yes (Want.plain rfl) rfl (OpR.pure rfl) ?_
   refine OpsQ.yes (Want.bool rfl rfl rfl rfl (by rw [(decide_eq_true c4)]; rfl)) rfl (OpR.pure rfl) ?_
   refine OpsQ.yes (Want.bool rfl rfl rfl rfl (by rw [(decide_eq_true c4)]; rfl)) rfl (OpR.pure rfl) ?_
   refine OpsQ.yes (Want.bool rfl rfl rfl rfl (by rw [(decide_eq_true c4)]; rfl)) rfl (OpR.pure rfl) ?_
   refine OpsQ.yes (Want.bool rfl rfl rfl rfl (by rw [(decide_eq_true c4)]; rfl)) rfl (OpR.pure rfl) ?_
   refine OpsQ.yes (Want.bool rfl rfl rfl rfl (by rw [(decide_eq_true c4)]; rfl)) rfl (OpR.pure rfl) ?_
   refine OpsQ.yes (Want.bool rfl rfl rfl rfl (by rw [(decide_eq_true c4)]; rfl)) rfl (OpR.loadPtr 0 rfl rfl rfl rfl) ?_
   refine OpsQ.yes (Want.bool rfl rfl rfl rfl (by rw [(decide_eq_true c4)]; rfl)) rfl (OpR.rowLenM byteD 1 rfl rfl rfl rfl) ?_
   refine OpsQ.yes (Want.bool rfl rfl rfl rfl (by rw [(decide_eq_true c4)]; rfl)) rfl (OpR.pure rfl) ?_
   refine OpsQ.yes (Want.plain rfl) rfl (OpR.pickT rfl (decide_eq_true c4) rfl) ?_
   refine OpsQ.yes (Want.plain rfl) rfl (OpR.pure rfl) ?_
   refine OpsQ.no (Want.bool rfl rfl rfl rfl (by rw [(decide_eq_false c5)]; rfl)) rfl ?_
   refine OpsQ.no (Want.bool rfl rfl rfl rfl (by rw [(decide_eq_false c5)]; rfl)) rfl ?_
   refine OpsQ.no (Want.bool rfl rfl rfl rfl (by rw [(decide_eq_false c5)]; rfl)) rfl ?_
   refine OpsQ.no (Want.bool rfl rfl rfl rfl (by rw [(decide_eq_false c5)]; rfl)) rfl ?_
   refine OpsQ.no (Want.bool rfl rfl rfl rfl (by rw [(decide_eq_false c5)]; rfl)) rfl ?_
   refine OpsQ.no (Want.bool rfl rfl rfl rfl (by rw [(decide_eq_false c5)]; rfl)) rfl ?_
   refine OpsQ.no (Want.bool rfl rfl rfl rfl (by rw [(decide_eq_false c5)]; rfl)) rfl ?_
   refine OpsQ.no (Want.bool rfl rfl rfl rfl (by rw [(decide_eq_false c5)]; rfl)) rfl ?_
   refine OpsQ.no (Want.bool rfl rfl rfl rfl (by rw [(decide_eq_false c5)]; rfl)) rfl ?_
   refine OpsQ.no (Want.bool rfl rfl rfl rfl (by rw [(decide_eq_false c5)]; rfl)) rfl ?_
   refine OpsQ.no (Want.bool rfl rfl rfl rfl (by rw [(decide_eq_false c5)]; rfl)) rfl ?_
   refine OpsQ.yes (Want.plain rfl) rfl (OpR.pickF rfl (decide_eq_false c5) rfl) ?_
   refine OpsQ.yes (Want.plain rfl) rfl (OpR.pure rfl) ?_
   exact OpsQ.nil
 refine T.drawQ drawsX [.nod [.val (.int .i64 a0.fAt), .val (.int .i64 a0.fN)], .val (.int .i64 a0.fAt), .val (.bool (decide (a0.fAt ≥ 0))), .val (.bool (decide (a0.fAt ≥ 0))), .nod [.val (.int .i64 a0.fN)], .val (.int .i64 a0.fN), .val (.bool (decide (a0.fN ≥ 0))), .val (.bool (decide (a0.fN ≥ 0))), .val (.bool (decide (a0.fN ≥ 0))), .nod [.val (.int .i64 a0.fAt), .val (.int .i64 a0.fN)], .val (.int .i64 a0.fAt), .val (.pointer (some ⟨b0, 0, none⟩)), .val (.pointer (some ⟨b0, 0, none⟩)), .val (.pointer (some ⟨b0, 0, none⟩)), .val v1, .val (.int .i64 (a1.length : Int)), .val (.bool (decide (a0.fAt ≤ (a1.length : Int)))), .val (.bool (decide (a0.fAt ≤ (a1.length : Int)))), .val (.bool (decide (a0.fAt ≤ (a1.length : Int)))), .nod [.val (.int .i64 a0.fN)], .val (.int .i64 a0.fN), .val (.pointer (some ⟨b0, 0, none⟩)), .val (.pointer (some ⟨b0, 0, none⟩)), .val (.pointer (some ⟨b0, 0, none⟩)), .val v1, .val (.int .i64 (a1.length : Int)), .nod [.val (.int .i64 a0.fAt), .val (.int .i64 a0.fN)], .val (.int .i64 a0.fAt), .val (.int .i64 (w64 ((a1.length : Int) - a0.fAt))), .val (.bool (decide (a0.fN ≤ (w64 ((a1.length : Int) - a0.fAt))))), .val (.bool (decide (a0.fN ≤ (w64 ((a1.length : Int) - a0.fAt))))), .val (.bool (decide (a0.fN ≤ (w64 ((a1.length : Int) - a0.fAt)))))] [0, 1, 3, 4, 5, 6, 7, 8, 9, 10, 11, 12, 13, 14, 15, 16, 17, 18, 19, 20, 21, 22, 23, 24, 25, 26, 27, 28, 29, 30, 31, 32, 33, 34, 35, 36, 37] (by decide +kernel) rfl ?_ rfl ?_
 rotate_left
 · obtain rfl := Option.some.inj ht1
   exact ⟨_, Gst.only [4] rfl, rfl⟩
 refine OpsQ.yes (Want.plain rfl) rfl (OpR.pure rfl) ?_
 refine OpsQ.yes (Want.plain rfl) rfl (OpR.pure rfl) ?_
 refine OpsQ.yes (Want.plain rfl) rfl (OpR.pure rfl) ?_
 refine OpsQ.yes (Want.plain rfl) rfl (OpR.pure rfl) ?_
 refine OpsQ.yes (Want.bool rfl rfl rfl rfl (by rw [(decide_eq_true c3)]; rfl)) rfl (OpR.pure rfl) ?_
 refine OpsQ.yes (Want.bool rfl rfl rfl rfl (by rw [(decide_eq_true c3)]; rfl)) rfl (OpR.pure rfl) ?_
 refine OpsQ.yes (Want.bool rfl rfl rfl rfl (by rw [(decide_eq_true c3)]; rfl)) rfl (OpR.pure rfl) ?_
 refine OpsQ.yes (Want.plain rfl) rfl (OpR.pickT rfl (decide_eq_true c3) rfl) ?_
 refine OpsQ.yes (Want.plain rfl) rfl (OpR.pure rfl) ?_
 refine OpsQ.yes (Want.bool rfl rfl rfl rfl (by rw [(decide_eq_true c4)]; rfl)) rfl (OpR.pure rfl) ?_
 refine OpsQ.yes (Want.bool rfl rfl rfl rfl (by rw [(decide_eq_true c4)]; rfl)) rfl (OpR.pure rfl) ?_
 refine OpsQ.yes (Want.bool rfl rfl rfl rfl (by rw [(decide_eq_true c4)]; rfl)) rfl (OpR.pure rfl) ?_
 refine OpsQ.yes (Want.bool rfl rfl rfl rfl (by rw [(decide_eq_true c4)]; rfl)) rfl (OpR.pure rfl) ?_
 refine OpsQ.yes (Want.bool rfl rfl rfl rfl (by rw [(decide_eq_true c4)]; rfl)) rfl (OpR.pure rfl) ?_
 refine OpsQ.yes (Want.bool rfl rfl rfl rfl (by rw [(decide_eq_true c4)]; rfl)) rfl (OpR.loadPtr 0 rfl rfl rfl rfl) ?_
 refine OpsQ.yes (Want.bool rfl rfl rfl rfl (by rw [(decide_eq_true c4)]; rfl)) rfl (OpR.rowLenM byteD 1 rfl rfl rfl rfl) ?_
 refine OpsQ.yes (Want.bool rfl rfl rfl rfl (by rw [(decide_eq_true c4)]; rfl)) rfl (OpR.pure rfl) ?_
 refine OpsQ.yes (Want.plain rfl) rfl (OpR.pickT rfl (decide_eq_true c4) rfl) ?_
 refine OpsQ.yes (Want.plain rfl) rfl (OpR.pure rfl) ?_
 refine OpsQ.yes (Want.bool rfl rfl rfl rfl (by rw [(decide_eq_true c5)]; rfl)) rfl (OpR.pure rfl) ?_
 refine OpsQ.yes (Want.bool rfl rfl rfl rfl (by rw [(decide_eq_true c5)]; rfl)) rfl (OpR.pure rfl) ?_
 refine OpsQ.yes (Want.bool rfl rfl rfl rfl (by rw [(decide_eq_true c5)]; rfl)) rfl (OpR.pure rfl) ?_
 refine OpsQ.yes (Want.bool rfl rfl rfl rfl (by rw [(decide_eq_true c5)]; rfl)) rfl (OpR.pure rfl) ?_
 refine OpsQ.yes (Want.bool rfl rfl rfl rfl (by rw [(decide_eq_true c5)]; rfl)) rfl (OpR.pure rfl) ?_
 refine OpsQ.yes (Want.bool rfl rfl rfl rfl (by rw [(decide_eq_true c5)]; rfl)) rfl (OpR.loadPtr 0 rfl rfl rfl rfl) ?_
 refine OpsQ.yes (Want.bool rfl rfl rfl rfl (by rw [(decide_eq_true c5)]; rfl)) rfl (OpR.rowLenM byteD 1 rfl rfl rfl rfl) ?_
 refine OpsQ.yes (Want.bool rfl rfl rfl rfl (by rw [(decide_eq_true c5)]; rfl)) rfl (OpR.pure rfl) ?_
 refine OpsQ.yes (Want.bool rfl rfl rfl rfl (by rw [(decide_eq_true c5)]; rfl)) rfl (OpR.pure rfl) ?_
 refine OpsQ.yes (Want.bool rfl rfl rfl rfl (by rw [(decide_eq_true c5)]; rfl)) rfl (OpR.pure rfl) ?_
 refine OpsQ.yes (Want.bool rfl rfl rfl rfl (by rw [(decide_eq_true c5)]; rfl)) rfl (OpR.pure rfl) ?_
 refine OpsQ.yes (Want.plain rfl) rfl (OpR.pickT rfl (decide_eq_true c5) rfl) ?_
 refine OpsQ.yes (Want.plain rfl) rfl (OpR.pure rfl) ?_
 exact OpsQ.nil
noncomputable def arena_Arena_part (a0 : arena_Span) (a1 : List UInt8) : Option ((Int × Int) ⊕ (List UInt8)) :=
  bnd (arena_Arena_Right a0 a1) fun x1 =>
  if x1 = true then
    bnd (cut a1 a0.fAt (w64 (a0.fAt + a0.fN))) fun x4 =>
    some (Sum.inl (a0.fAt, w64 (a0.fAt + a0.fN)))
  else
    some (Sum.inr [])
set_option maxHeartbeats 4000000 in
theorem arena_Arena_part_c {a0 : arena_Span} {a1 : List UInt8} {b0 : Nat} {v1 : Value} {res : (Int × Int) ⊕ (List UInt8)} (h0 : arena_Arena_part a0 a1 = some res) : CallF X 149 [.val (.pointer (some ⟨b0, 0, none⟩)), .agg [.val (.int .i64 a0.fAt), .val (.int .i64 a0.fN)]] [.var b0 [.val v1] 142, .row v1 (List.map byteD a1) 1 5] (fun x => (match res with | .inl res => .val (vw v1 (res.1).toNat (res.2).toNat 1) | .inr res => .sl 1 (List.map byteD res))) (fun x => (match res with | .inl res => [.var b0 [.val v1] 142, .row v1 (List.map byteD a1) 1 5] | .inr res => [.var b0 [.val v1] 142, .row v1 (List.map byteD a1) 1 5])) := by
 unfold arena_Arena_part at h0
 refine CallF.mkG (X := X) Try.func149 rfl rfl Try.ntmps149 rfl rfl ?_
 refine T.seq ?_
 refine T.region ?_
 refine TL.op1 (OpR.boxImm rfl rfl) rfl ?_
 refine TL.op1 (OpR.pure rfl) rfl ?_
 refine TL.nil ?_
 show T X _ _ _
 refine T.seq ?_
 refine T.seq ?_
 refine T.region ?_
 refine TL.op1 (OpR.pure rfl) rfl ?_
 refine TL.op1 (OpR.pure rfl) rfl ?_
 obtain ⟨x1, hx1, h0⟩ := bnd_some h0
 refine TL.op1 (OpR.call [0, 1] fn187 (arena_Arena_Right_c hx1) rfl rfl rfl (fun _ => rfl)) rfl ?_
 refine TL.op1 (OpR.pure rfl) rfl ?_
 refine TL.nil ?_
 show T X _ _ _
 rcases ite_some h0 with ⟨c2, h0⟩ | ⟨c2, h0⟩
 rotate_left
 · refine T.condT rfl (not_f (eq_false_of_ne_true c2)) ?_
   refine T.seq ?_
   refine T.region ?_
   refine TL.op1 (OpR.pure rfl) rfl ?_
   refine TL.nil ?_
   show T X _ _ _
   refine T.ret ?_
   obtain rfl := Option.some.inj h0
   exact PostG.retP (ks := [0, 1]) (Gst.trans (Gst.only [4] rfl) (Gst.denil (ReS.cons (Re.base .nil) ReS.nil) (ReO.var (ReL.cons Re.refl ReL.nil) (ReO.same ReO.nil)))) undef (ResL.cons (ResV.tmp rfl) ResL.nil) rfl rfl rfl rfl
 refine T.condF rfl (not_t (c2)) ?_
 refine T.skip ?_
 show T X _ _ _
 refine T.seq ?_
 obtain ⟨x4, hx4, h0⟩ := bnd_some h0
 refine T.drawQ drawsX [.val (.pointer (some ⟨b0, 0, none⟩)), .val (.pointer (some ⟨b0, 0, none⟩)), .val (.pointer (some ⟨b0, 0, none⟩)), .val v1, .nod [.val (.int .i64 a0.fAt), .val (.int .i64 a0.fN)], .val (.int .i64 a0.fAt), .nod [.val (.int .i64 a0.fAt), .val (.int .i64 a0.fN)], .val (.int .i64 a0.fAt), .nod [.val (.int .i64 a0.fN)], .val (.int .i64 a0.fN), .val (.int .i64 (w64 (a0.fAt + a0.fN))), .val (vw v1 (a0.fAt).toNat (w64 (a0.fAt + a0.fN)).toNat 1), .val (vw v1 (a0.fAt).toNat (w64 (a0.fAt + a0.fN)).toNat 1)] [0, 1, 3, 4, 5, 6, 7, 8, 9, 10, 11, 12, 13, 14, 15, 16, 17, 18, 19, 20] (by decide +kernel) rfl ?_ rfl ?_
 rotate_left
 · show T X _ _ _
   refine T.ret ?_
   obtain rfl := Option.some.inj h0
   exact PostG.retP (ks := [0, 1]) (Gst.only [4] rfl) undef (ResL.cons (ResV.tmp rfl) ResL.nil) rfl rfl rfl rfl
 refine OpsQ.yes (Want.plain rfl) rfl (OpR.pure rfl) ?_
 refine OpsQ.yes (Want.plain rfl) rfl (OpR.pure rfl) ?_
 refine OpsQ.yes (Want.plain rfl) rfl (OpR.pure rfl) ?_
 refine OpsQ.yes (Want.plain rfl) rfl (OpR.loadPtr 0 rfl rfl rfl rfl) ?_
 refine OpsQ.yes (Want.plain rfl) rfl (OpR.pure rfl) ?_
 refine OpsQ.yes (Want.plain rfl) rfl (OpR.pure rfl) ?_
 refine OpsQ.yes (Want.plain rfl) rfl (OpR.pure rfl) ?_
 refine OpsQ.yes (Want.plain rfl) rfl (OpR.pure rfl) ?_
 refine OpsQ.yes (Want.plain rfl) rfl (OpR.pure rfl) ?_
 refine OpsQ.yes (Want.plain rfl) rfl (OpR.pure rfl) ?_
 refine OpsQ.yes (Want.plain rfl) rfl (OpR.pure rfl) ?_
 refine OpsQ.yes (Want.plain rfl) rfl (OpR.sliceRowM byteD 1 hx4 rfl rfl rfl rfl rfl rfl (BdM.some rfl) (BdM.some rfl)) ?_
 refine OpsQ.yes (Want.plain rfl) rfl (OpR.pure rfl) ?_
 exact OpsQ.nil
theorem arena_Arena_part_cx1 {a0 : arena_Span} {a1 : List UInt8} {b0 : Nat} {v1 : Value} {res : Int × Int} (h0 : arena_Arena_part a0 a1 = some (Sum.inl res)) : CallF X 149 [.val (.pointer (some ⟨b0, 0, none⟩)), .agg [.val (.int .i64 a0.fAt), .val (.int .i64 a0.fN)]] [.var b0 [.val v1] 142, .row v1 (List.map byteD a1) 1 5] (fun x => .val (vw v1 (res.1).toNat (res.2).toNat 1)) (fun x => [.var b0 [.val v1] 142, .row v1 (List.map byteD a1) 1 5]) := arena_Arena_part_c h0
theorem arena_Arena_part_cx2 {a0 : arena_Span} {a1 : List UInt8} {b0 : Nat} {v1 : Value} {res : (List UInt8)} (h0 : arena_Arena_part a0 a1 = some (Sum.inr res)) : CallF X 149 [.val (.pointer (some ⟨b0, 0, none⟩)), .agg [.val (.int .i64 a0.fAt), .val (.int .i64 a0.fN)]] [.var b0 [.val v1] 142, .row v1 (List.map byteD a1) 1 5] (fun x => .sl 1 (List.map byteD res)) (fun x => [.var b0 [.val v1] 142, .row v1 (List.map byteD a1) 1 5]) := arena_Arena_part_c h0
noncomputable def arena_Arena_Bytes (a0 : arena_Span) (a1 : List UInt8) : Option (List UInt8) :=
  bnd (arena_Arena_part a0 a1) fun x1 =>
  match x1 with
  | .inl x1 =>
      bnd (cut a1 x1.1 x1.2) fun x2 =>
      bnd (mkz 1 (x2.length : Int) (0 : UInt8)) fun x3 =>
      some (over x3 x2)
  | .inr x1 =>
      bnd (mkz 1 (x1.length : Int) (0 : UInt8)) fun x5 =>
      some (over x5 x1)
set_option maxHeartbeats 4000000 in
theorem arena_Arena_Bytes_c {a0 : arena_Span} {a1 : List UInt8} {b0 : Nat} {v1 : Value} {res : (List UInt8)} (h0 : arena_Arena_Bytes a0 a1 = some res) : CallF X 91 [.val (.pointer (some ⟨b0, 0, none⟩)), .agg [.val (.int .i64 a0.fAt), .val (.int .i64 a0.fN)]] [.var b0 [.val v1] 142, .row v1 (List.map byteD a1) 1 5] (fun x => .sl 1 (List.map byteD res)) (fun x => [.var b0 [.val v1] 142, .row v1 (List.map byteD a1) 1 5]) := by
 unfold arena_Arena_Bytes at h0
 refine CallF.mkG (X := X) Try.func91 rfl rfl Try.ntmps91 rfl rfl ?_
 refine T.seq ?_
 refine T.region ?_
 refine TL.op1 (OpR.boxImm rfl rfl) rfl ?_
 refine TL.op1 (OpR.pure rfl) rfl ?_
 refine TL.nil ?_
 show T X _ _ _
 refine T.seq ?_
 refine T.region ?_
 refine TL.op1 (OpR.pure rfl) rfl ?_
 refine TL.op1 (OpR.pure rfl) rfl ?_
 obtain ⟨x1, hx1, h0⟩ := bnd_some h0
 rcases x1 with x1 | x1
 rotate_left
 · dsimp only at h0
   refine TL.op1 (OpR.call [0, 1] fn149 (arena_Arena_part_cx2 hx1) rfl rfl rfl (fun _ => rfl)) rfl ?_
   refine TL.op1 (OpR.pure rfl) rfl ?_
   refine TL.nil ?_
   show T X _ _ _
   refine T.seq ?_
   refine T.region ?_
   refine TL.op1 (OpR.pure rfl) rfl ?_
   refine TL.op1 (OpR.cast (OpR.pure rfl) (intE (lenM _ _))) rfl ?_
   obtain ⟨x5, hx5, h0⟩ := bnd_some h0
   refine TL.op (OpR.makeM byteD hx5 rfl rfl rfl rfl rfl rfl rfl rfl rfl rfl rfl (fun _ => rfl)) rfl (fun v6 => ?_)
   refine TL.op1 (OpR.pure rfl) rfl ?_
   refine TL.nil ?_
   show T X _ _ _
   refine T.seq ?_
   refine T.region ?_
   refine TL.op1 (OpR.pure rfl) rfl ?_
   refine TL.op1 (OpR.pure rfl) rfl ?_
   refine TL.op1 (OpR.copyM byteD 2 rfl rfl rfl rfl rfl rfl rfl rfl) rfl ?_
   refine TL.nil ?_
   show T X _ _ _
   refine T.seq ?_
   refine T.region ?_
   refine TL.op1 (OpR.pure rfl) rfl ?_
   refine TL.op1 (OpR.pure rfl) rfl ?_
   refine TL.nil ?_
   show T X _ _ _
   refine T.ret ?_
   obtain rfl := Option.some.inj h0
   exact PostG.retP (ks := [0, 1]) (Gst.trans (Gst.only [4] rfl) (Gst.trans (Gst.freezeRow 2 rfl rfl (ReS.cons (Re.base .all) ReS.nil) (ReO.same (ReO.same (ReO.same ReO.nil)))) (Gst.pick [0, 1] rfl rfl))) undef (ResL.cons (ResV.tmp rfl) ResL.nil) rfl rfl rfl rfl
 dsimp only at h0
 refine TL.op1 (OpR.call [0, 1] fn149 (arena_Arena_part_cx1 hx1) rfl rfl rfl (fun _ => rfl)) rfl ?_
 refine TL.op1 (OpR.pure rfl) rfl ?_
 refine TL.nil ?_
 show T X _ _ _
 refine T.seq ?_
 refine T.region ?_
 refine TL.op1 (OpR.pure rfl) rfl ?_
 obtain ⟨x2, hx2, h0⟩ := bnd_some h0
 refine TL.op1 (OpR.lenF byteD (Src.viewM byteD 1 hx2 rfl rfl) rfl rfl) rfl ?_
 obtain ⟨x3, hx3, h0⟩ := bnd_some h0
 refine TL.op (OpR.makeM byteD hx3 rfl rfl rfl rfl rfl rfl rfl rfl rfl rfl rfl (fun _ => rfl)) rfl (fun v4 => ?_)
 refine TL.op1 (OpR.pure rfl) rfl ?_
 refine TL.nil ?_
 show T X _ _ _
 refine T.seq ?_
 refine T.region ?_
 refine TL.op1 (OpR.pure rfl) rfl ?_
 refine TL.op1 (OpR.pure rfl) rfl ?_
 refine TL.op1 (OpR.copyF byteD 2 (Src.viewM byteD 1 hx2 rfl rfl) rfl rfl rfl rfl rfl rfl rfl) rfl ?_
 refine TL.nil ?_
 show T X _ _ _
 refine T.seq ?_
 refine T.region ?_
 refine TL.op1 (OpR.pure rfl) rfl ?_
 refine TL.op1 (OpR.pure rfl) rfl ?_
 refine TL.nil ?_
 show T X _ _ _
 refine T.ret ?_
 obtain rfl := Option.some.inj h0
 exact PostG.retP (ks := [0, 1]) (Gst.trans (Gst.only [4] rfl) (Gst.trans (Gst.freezeRow 2 rfl rfl (ReS.cons (Re.base .all) ReS.nil) (ReO.same (ReO.same (ReO.same ReO.nil)))) (Gst.pick [0, 1] rfl rfl))) undef (ResL.cons (ResV.tmp rfl) ResL.nil) rfl rfl rfl rfl
noncomputable def piece_Text_Flat.l1 (a0 : piece_Text) (a1 : List UInt8) (s4 : Int × (List UInt8)) : Option (Lp (Int × (List UInt8)) (List UInt8)) :=
  if s4.1 < (a0.fL.length : Int) then
    bnd (idx a0.fL s4.1) fun x13 =>
    bnd (arena_Arena_Bytes x13 a1) fun x15 =>
    bnd (app 1 s4.2 x15) fun x16 =>
    some (Lp.next (w64 (s4.1 + 1), x16))
  else
    some (Lp.done s4.2)
noncomputable def piece_Text_Flat (a0 : piece_Text) (a1 : List UInt8) : Option (List UInt8) :=
  bnd (loop (piece_Text_Flat.l1 a0 a1) (0, []) : Option (List UInt8)) fun t1 =>
  some t1
set_option maxHeartbeats 4000000 in
theorem piece_Text_Flat_c {a0 : piece_Text} {a1 : List UInt8} {b0 : Nat} {v1 : Value} {res : (List UInt8)} (h0 : piece_Text_Flat a0 a1 = some res) : CallF X 46 [.agg [.sl 2 (List.map e_arena_Span a0.fL), .val (.int .i64 a0.fN)], .val (.pointer (some ⟨b0, 0, none⟩))] [.var b0 [.val v1] 142, .row v1 (List.map byteD a1) 1 5] (fun x => .sl 1 (List.map byteD res)) (fun x => [.var b0 [.val v1] 142, .row v1 (List.map byteD a1) 1 5]) := by
 unfold piece_Text_Flat at h0
 refine CallF.mkG (X := X) Try.func46 rfl rfl Try.ntmps46 rfl rfl ?_
 refine T.seq ?_
 refine T.region ?_
 refine TL.op1 (OpR.boxImm rfl rfl) rfl ?_
 refine TL.op1 (OpR.pure rfl) rfl ?_
 refine TL.nil ?_
 show T X _ _ _
 refine T.seq ?_
 refine T.region ?_
 refine TL.op1 (OpR.pure rfl) rfl ?_
 refine TL.nil ?_
 show T X _ _ _
 refine T.seq ?_
 refine T.seq ?_
 refine T.region ?_
 refine TL.op1 (OpR.pure rfl) rfl ?_
 refine TL.op1 (OpR.pure rfl) rfl ?_
 refine TL.op1 (OpR.cast (OpR.pure rfl) (intE (lenM _ _))) rfl ?_
 refine TL.op1 (OpR.pure rfl) rfl ?_
 refine TL.nil ?_
 show T X _ _ _
 obtain ⟨t1, ht1, h0⟩ := bnd_some h0
 refine T.cutC (fun S' => ∃ y2 : Value, S' = ⟨[(5, .val y2), (4, .val (.slice none 0 0))], [.var b0 [.val v1] 142, .row v1 (List.map byteD a1) 1 5, .row y2 (List.map byteD t1) 1 5], 22⟩) (fun _ h => h) ?_ ?_
 rotate_left
 · rintro _ ⟨y2, rfl⟩
   show T X _ _ _
   refine T.seq ?_
   refine T.region ?_
   refine TL.op1 (OpR.pure rfl) rfl ?_
   refine TL.op1 (OpR.pure rfl) rfl ?_
   refine TL.nil ?_
   show T X _ _ _
   refine T.ret ?_
   obtain rfl := Option.some.inj h0
   exact PostG.retP (ks := [0, 1]) (Gst.trans (Gst.only [4] rfl) (Gst.trans (Gst.freezeRow 2 rfl rfl (ReS.cons (Re.base .all) ReS.nil) (ReO.same (ReO.same (ReO.same ReO.nil)))) (Gst.pick [0, 1] rfl rfl))) undef (ResL.cons (ResV.tmp rfl) ResL.nil) rfl rfl rfl rfl
 refine T.block ?_
 obtain ⟨n5, n10⟩ := loop_some ht1
 refine T.loop (fun n S' => ∃ S'', Gst S' S'' ∧ ∃ y3 : Value, ∃ s4 : Int × (List UInt8), S'' = ⟨[(11, .val (.int .i64 s4.1)), (10, .val (.int .i64 (a0.fL.length : Int))), (9, .sl 2 (List.map e_arena_Span a0.fL)), (5, .val y3), (4, .val (.slice none 0 0)), (1, .val (.pointer (some ⟨b0, 0, none⟩)))], [.var b0 [.val v1] 142, .row v1 (List.map byteD a1) 1 5, .row y3 (List.map byteD s4.2) 1 5], 22⟩ ∧ iter (piece_Text_Flat.l1 a0 a1) n s4 = some t1) n5 ?_ ?_
 · exact ⟨_, Gst.trans (Gst.only [1, 4, 5, 9, 10, 11] rfl) (Gst.nilRow (ow := [.var b0 [.val v1] 142, .row v1 (List.map byteD a1) 1 5]) 1 5 rfl), (.slice none 0 0), (0, []), rfl, n10⟩
 rintro n5 _ ⟨_, g, y3, s4, rfl, i9⟩
 refine T.ghost g ?_
 obtain ⟨m6, q7, rfl, q8, i9⟩ := iter_succ i9
 unfold piece_Text_Flat.l1 at q8
 refine T.seq ?_
 refine T.region ?_
 refine TL.op1 (OpR.pure rfl) rfl ?_
 refine TL.nil ?_
 show T X _ _ _
 refine T.seq ?_
 rcases ite_some q8 with ⟨c12, q8⟩ | ⟨c12, q8⟩
 rotate_left
 · refine T.condF rfl (decide_eq_false c12) ?_
   refine T.exit ?_
   obtain rfl := Option.some.inj q8
   obtain rfl : _ = _ := i9
   exact ⟨_, Gst.only [4, 5] rfl, y3, rfl⟩
 refine T.condT rfl (decide_eq_true c12) ?_
 refine T.skip ?_
 show T X _ _ _
 refine T.seq ?_
 refine T.block ?_
 refine T.seq ?_
 refine T.region ?_
 obtain ⟨x13, hx13, q8⟩ := bnd_some q8
 refine TL.op1 (OpR.indexM e_arena_Span hx13 rfl rfl rfl rfl rfl) rfl ?_
 refine TL.op1 (OpR.pure rfl) rfl ?_
 refine TL.op (OpR.alloc rfl rfl (fun _ => rfl)) rfl (fun p14 => ?_)
 refine TL.op0 (OpR.store 3 rfl rfl rfl rfl rfl rfl rfl rfl) ?_
 refine TL.nil ?_
 show T X _ _ _
 refine T.region ?_
 refine TL.op1 (OpR.pure rfl) rfl ?_
 refine TL.op1 (OpR.pure rfl) rfl ?_
 refine TL.op1 (OpR.loadPtr 3 rfl rfl rfl rfl) rfl ?_
 obtain ⟨x15, hx15, q8⟩ := bnd_some q8
 refine TL.op1 (OpR.call [0, 1] fn91 (arena_Arena_Bytes_c hx15) rfl rfl rfl (fun _ => rfl)) rfl ?_
 obtain ⟨x16, hx16, q8⟩ := bnd_some q8
 refine TL.op (OpR.appendM (m := x15) byteD 2 hx16 rfl rfl rfl rfl rfl rfl rfl rfl rfl (fun _ => rfl)) rfl (fun v17 => ?_)
 refine TL.op1 (OpR.pure rfl) rfl ?_
 refine TL.nil ?_
 show T X _ _ _
 refine T.region ?_
 refine TL.op1 (OpR.pure rfl) rfl ?_
 refine TL.op1 (OpR.pure rfl) rfl ?_
 refine TL.nil ?_
 obtain rfl := Option.some.inj q8
 exact ⟨m6, Nat.lt_succ_self _, _, Gst.trans (Gst.only [1, 4, 5, 9, 10, 11] rfl) (Gst.pick [0, 1, 2] rfl rfl), v17, (w64 (s4.1 + 1), x16), rfl, i9⟩
end Go.Proofs.Ytbcbggdgkdfciaa.S
