/- Printed by a program of this session's own (gen.py): Lean functions for Go functions, and the proofs that the Go code comes to their answers. -/
import Derived.Test.YtkjcogmngoogcaaG21xa
import Derived.Test.YtkjcogmngoogcaaG17xa
set_option linter.unusedVariables false
set_option linter.unusedSimpArgs false
set_option maxRecDepth 20000
namespace Go.Proofs.Ytkjcogmngoogcaa.S
open Go Go.Sm
attribute [local irreducible] T TL OpR CallT iter loop
noncomputable def law07_Plain (a0 : cell_Cell) (a1 : List UInt8) : Option ref07_Cell :=
  bnd (cell_Cell_Bytes a0 a1) fun x3 =>
  bnd (if a0.fKept = true then
    bnd (arena_Arena_Bytes a0.fRaw a1) fun x6 =>
    some x6
  else
    some [] : Option (List UInt8)) fun t4 =>
  some (⟨x3, t4, a0.fKept⟩ : ref07_Cell)
set_option maxHeartbeats 4000000 in
theorem law07_Plain_c {a0 : cell_Cell} {a1 : List UInt8} {b0 : Nat} {v1 : Value} {res : ref07_Cell} (h0 : law07_Plain a0 a1 = some res) : CallF X 47 [.val (.pointer (some ⟨b0, 0, none⟩)), .agg [.sl 2 (List.map e_arena_Span a0.fText.fL), .val (.int .i64 a0.fText.fN), .val (.int .i64 a0.fRaw.fAt), .val (.int .i64 a0.fRaw.fN), .val (.bool a0.fKept)]] [.var b0 [.val v1] 127, .row v1 (List.map byteD a1) 1 5] (fun x => .agg [.val (.string (bs res.fS)), .val (.string (bs res.fRaw)), .val (.bool res.fKept)]) (fun x => [.var b0 [.val v1] 127, .row v1 (List.map byteD a1) 1 5]) := by
 unfold law07_Plain at h0
 refine CallF.mkG (X := X) Try.func47 rfl rfl Try.ntmps47 rfl rfl ?_
 refine T.seq ?_
 refine T.region ?_
 refine TL.op1 (OpR.boxImm rfl rfl) rfl ?_
 refine TL.op (OpR.alloc rfl rfl (fun _ => rfl)) rfl (fun p1 => ?_)
 refine TL.nil ?_
 show T X _ _ _
 refine T.seq ?_
 obtain ⟨x3, hx3, h0⟩ := bnd_some h0
 refine T.drawS drawsX (fun env2 => [.agg [.sl 2 (List.map e_arena_Span a0.fText.fL), .val (.int .i64 a0.fText.fN), .val (.int .i64 a0.fRaw.fAt), .val (.int .i64 a0.fRaw.fN), .val (.bool a0.fKept)], .val (.pointer (some ⟨b0, 0, none⟩)), .sl 1 (List.map byteD x3), .val (.string (bs x3)), .nod [.val (.bool a0.fKept)], .val (.bool a0.fKept), .agg [.val (.string (bs x3)), .val (.string (bs [])), .val (.bool a0.fKept)], .val (.pointer (some ⟨(blk (env2 7)), 0, none⟩)), .dead]) (fun D env2 => [.var b0 [.val v1] 127, .row v1 (List.map byteD a1) 1 5, .var (blk p1) [.val (.string (bs [])), .val (.string (bs [])), .val (.bool false)] 87] ++ (bif D 7 then [(bif D 8 then .var (blk (env2 7)) [.val (.string (bs x3)), .val (.string (bs [])), .val (.bool a0.fKept)] 87 else .var (blk (env2 7)) [.val (.string (bs [])), .val (.string (bs [])), .val (.bool false)] 87)] else [])) [0, 0, 3, 7, 0, 16, 63, 0, 255] [0, 1, 3, 4, 5, 6, 7, 8, 9, 10, 11, 12] (fun env2 => [.var b0 [.val v1] 127, .row v1 (List.map byteD a1) 1 5, .var (blk p1) [.val (.string (bs [])), .val (.string (bs [])), .val (.bool false)] 87, .var (blk (env2 7)) [.val (.string (bs x3)), .val (.string (bs [])), .val (.bool a0.fKept)] 87]) (by decide +kernel) (by decide +kernel) (fun _ => rfl) (fun _ => rfl) ?_ (fun _ => rfl) (fun _ => rfl) ?_
 rotate_left
 · intro env2
   show T X _ _ _
   refine T.seq ?_
   refine T.seq ?_
   refine T.region ?_
   refine TL.op1 (OpR.pure rfl) rfl ?_
   refine TL.op1 (OpR.pure rfl) rfl ?_
   refine TL.nil ?_
   show T X _ _ _
   obtain ⟨t4, ht4, h0⟩ := bnd_some h0
   refine T.cutC (fun S' => S' = ⟨[(5, .val (.pointer (some ⟨(blk (env2 7)), 0, none⟩))), (4, .val (.pointer (some ⟨(blk p1), 0, none⟩)))], [.var b0 [.val v1] 127, .row v1 (List.map byteD a1) 1 5, .var (blk p1) [.val (.string (bs [])), .val (.string (bs [])), .val (.bool false)] 87, .var (blk (env2 7)) [.val (.string (bs x3)), .val (.string (bs t4)), .val (.bool a0.fKept)] 87], 22⟩) (fun _ h => h) ?_ ?_
   rotate_left
   · rintro _ rfl
     show T X _ _ _
     refine T.seq ?_
     refine T.region ?_
     refine TL.op1 (OpR.loadPtr 3 rfl rfl rfl rfl) rfl ?_
     refine TL.op0 (OpR.store 2 rfl rfl rfl rfl rfl rfl rfl rfl) ?_
     refine TL.nil ?_
     show T X _ _ _
     refine T.ret ?_
     obtain rfl := Option.some.inj h0
     exact PostG.retP (ks := [0, 1]) (Gst.trans (Gst.only [4] rfl) (Gst.pick [0, 1, 2] rfl rfl)) undef (ResL.cons (ResV.var 2 rfl rfl rfl rfl) ResL.nil) rfl rfl rfl rfl
   rcases ite_some ht4 with ⟨c5, ht4⟩ | ⟨c5, ht4⟩
   rotate_left
   · refine T.condF rfl (eq_false_of_ne_true c5) ?_
     refine T.skip ?_
     obtain rfl := Option.some.inj ht4
     exact ⟨_, Gst.only [4, 5] rfl, rfl⟩
   refine T.condT rfl (c5) ?_
   refine T.region ?_
   refine TL.op1 (OpR.pure rfl) rfl ?_
   refine TL.op1 (OpR.pure rfl) rfl ?_
   refine TL.op1 (OpR.pure rfl) rfl ?_
   obtain ⟨x6, hx6, ht4⟩ := bnd_some ht4
   refine TL.op1 (OpR.call [0, 1] fn72 (arena_Arena_Bytes_c hx6) rfl rfl rfl (fun _ => rfl)) rfl ?_
   refine TL.op1 (OpR.toStr (bs := x6) rfl rfl rfl rfl rfl rfl rfl) rfl ?_
   refine TL.op1 (OpR.pure rfl) rfl ?_
   refine TL.op0 (OpR.store 3 rfl rfl rfl rfl rfl rfl rfl rfl) ?_
   refine TL.nil ?_
   obtain rfl := Option.some.inj ht4
   exact ⟨_, Gst.only [4, 5] rfl, rfl⟩
 refine oS (d := .agg [.sl 2 (List.map e_arena_Span a0.fText.fL), .val (.int .i64 a0.fText.fN), .val (.int .i64 a0.fRaw.fAt), .val (.int .i64 a0.fRaw.fN), .val (.bool a0.fKept)]) (fun _ => Want.plain rfl) (fun _ => rfl) (fun _ _ _ => rfl) (fun _ _ => OpR.pure rfl) (fun _ _ _ _ _ _ _ => rfl) ?_
 refine oS (d := .val (.pointer (some ⟨b0, 0, none⟩))) (fun _ => Want.plain rfl) (fun _ => rfl) (fun _ _ _ => rfl) (fun _ _ => OpR.pure rfl) (fun _ _ _ _ _ _ _ => rfl) ?_
 refine OpsS.cons' true ?_ (fun _ _ _ _ _ _ _ => rfl) ?_
 · intro D env2 hA
   have e8 : D 8 = false := hA.no 8 _ rfl rfl
   rcases Bool.eq_false_or_eq_true (D 7) with e7 | e7
   rotate_left
   · exact OpS.yes (o0 := [.var b0 [.val v1] 127, .row v1 (List.map byteD a1) 1 5, .var (blk p1) [.val (.string (bs [])), .val (.string (bs [])), .val (.bool false)] 87]) (o1 := fun x => [.var b0 [.val v1] 127, .row v1 (List.map byteD a1) 1 5, .var (blk p1) [.val (.string (bs [])), .val (.string (bs [])), .val (.bool false)] 87]) (d := fun x => .sl 1 (List.map byteD x3)) (Want.plain rfl) (by first | rfl | simp only [e8, e7, cond_true, cond_false, List.cons_append, List.nil_append, List.append_nil]) (fun x => by first | rfl | simp only [ins_self, ins_ne D (show 2 ≠ 7 by decide), ins_ne D (show 2 ≠ 8 by decide), upd_self, upd_ne env2 x (show 2 ≠ 7 by decide), e8, e7, cond_true, cond_false, List.cons_append, List.nil_append, List.append_nil]) (fun x => rfl) (OpR.call [0, 1] fn73 (cell_Cell_Bytes_c hx3) rfl rfl rfl (fun _ => rfl))
   exact OpS.yes (o0 := [.var b0 [.val v1] 127, .row v1 (List.map byteD a1) 1 5, .var (blk p1) [.val (.string (bs [])), .val (.string (bs [])), .val (.bool false)] 87, .var (blk (env2 7)) [.val (.string (bs [])), .val (.string (bs [])), .val (.bool false)] 87]) (o1 := fun x => [.var b0 [.val v1] 127, .row v1 (List.map byteD a1) 1 5, .var (blk p1) [.val (.string (bs [])), .val (.string (bs [])), .val (.bool false)] 87, .var (blk (env2 7)) [.val (.string (bs [])), .val (.string (bs [])), .val (.bool false)] 87]) (d := fun x => .sl 1 (List.map byteD x3)) (Want.plain rfl) (by first | rfl | simp only [e8, e7, cond_true, cond_false, List.cons_append, List.nil_append, List.append_nil]) (fun x => by first | rfl | simp only [ins_self, ins_ne D (show 2 ≠ 7 by decide), ins_ne D (show 2 ≠ 8 by decide), upd_self, upd_ne env2 x (show 2 ≠ 7 by decide), e8, e7, cond_true, cond_false, List.cons_append, List.nil_append, List.append_nil]) (fun x => rfl) (OpR.call [0, 1] fn73 (cell_Cell_Bytes_c hx3) rfl rfl rfl (fun _ => rfl))
 refine oS (d := .val (.string (bs x3))) (fun _ => Want.plain rfl) (fun _ => rfl) (fun _ _ _ => rfl) (fun _ _ => OpR.toStr (bs := x3) rfl rfl rfl rfl rfl rfl rfl) (fun _ _ _ _ _ _ _ => rfl) ?_
 refine oS (d := .nod [.val (.bool a0.fKept)]) (fun _ => Want.plain rfl) (fun _ => rfl) (fun _ _ _ => rfl) (fun _ _ => OpR.pure rfl) (fun _ _ _ _ _ _ _ => rfl) ?_
 refine oS (d := .val (.bool a0.fKept)) (fun _ => Want.plain rfl) (fun _ => rfl) (fun _ _ _ => rfl) (fun _ _ => OpR.pure rfl) (fun _ _ _ _ _ _ _ => rfl) ?_
 refine oS (d := .agg [.val (.string (bs x3)), .val (.string (bs [])), .val (.bool a0.fKept)]) (fun _ => Want.plain rfl) (fun _ => rfl) (fun _ _ _ => rfl) (fun _ _ => OpR.build rfl rfl rfl rfl rfl) (fun _ _ _ _ _ _ _ => rfl) ?_
 refine OpsS.cons' true ?_ (fun D hA env2 x j hj hD => match j, hj, hD with | 0, _, _ => rfl | 1, _, _ => rfl | 2, _, _ => rfl | 3, _, _ => rfl | 4, _, _ => rfl | 5, _, _ => rfl | 6, _, _ => rfl | 7, hj, _ => absurd rfl hj | 8, _, _ => rfl | _ + 9, _, _ => rfl) ?_
 · intro D env2 hA
   have e8 : D 8 = false := hA.no 8 _ rfl rfl
   exact OpS.yes (o0 := [.var b0 [.val v1] 127, .row v1 (List.map byteD a1) 1 5, .var (blk p1) [.val (.string (bs [])), .val (.string (bs [])), .val (.bool false)] 87]) (o1 := fun x => [.var b0 [.val v1] 127, .row v1 (List.map byteD a1) 1 5, .var (blk p1) [.val (.string (bs [])), .val (.string (bs [])), .val (.bool false)] 87, .var (blk x) [.val (.string (bs [])), .val (.string (bs [])), .val (.bool false)] 87]) (d := fun x => .val (.pointer (some ⟨(blk x), 0, none⟩))) (Want.plain rfl) (by first | rfl | simp only [e8, hA.me, cond_true, cond_false, List.cons_append, List.nil_append, List.append_nil]) (fun x => by first | rfl | simp only [ins_self, ins_ne D (show 7 ≠ 8 by decide), upd_self, e8, hA.me, cond_true, cond_false, List.cons_append, List.nil_append, List.append_nil]) (fun x => rfl) (OpR.alloc rfl rfl (fun _ => rfl))
 refine OpsS.cons' true ?_ (fun _ _ _ _ _ _ _ => rfl) ?_
 · intro D env2 hA
   have e7 : D 7 = true := hA.yes 7 _ rfl rfl
   exact OpS.yes (o0 := [.var b0 [.val v1] 127, .row v1 (List.map byteD a1) 1 5, .var (blk p1) [.val (.string (bs [])), .val (.string (bs [])), .val (.bool false)] 87, .var (blk (env2 7)) [.val (.string (bs [])), .val (.string (bs [])), .val (.bool false)] 87]) (o1 := fun x => [.var b0 [.val v1] 127, .row v1 (List.map byteD a1) 1 5, .var (blk p1) [.val (.string (bs [])), .val (.string (bs [])), .val (.bool false)] 87, .var (blk (env2 7)) [.val (.string (bs x3)), .val (.string (bs [])), .val (.bool a0.fKept)] 87]) (d := fun x => .dead) (Want.plain rfl) (by first | rfl | simp only [e7, hA.me, cond_true, cond_false, List.cons_append, List.nil_append, List.append_nil]) (fun x => by first | rfl | simp only [ins_self, ins_ne D (show 8 ≠ 7 by decide), upd_self, upd_ne env2 x (show 8 ≠ 7 by decide), e7, hA.me, cond_true, cond_false, List.cons_append, List.nil_append, List.append_nil]) (fun x => rfl) (OpR.store 3 rfl rfl rfl rfl rfl rfl rfl rfl)
 exact trivial
end Go.Proofs.Ytkjcogmngoogcaa.S
