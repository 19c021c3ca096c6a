/- Printed by a program of this session's own (gen.py): Lean functions for Go functions, and the proofs that the Go code comes to their answers. -/
import Derived.Test.YtkjcogmngoogcaaG0
set_option linter.unusedVariables false
set_option linter.unusedSimpArgs false
set_option maxRecDepth 20000
namespace Go.Proofs.Ytkjcogmngoogcaa.S
open Go Go.Sm
attribute [local irreducible] T TL OpR CallT iter loop
noncomputable def arena_Join (a0 : arena_Span) (a1 : arena_Span) : Option (arena_Span × Bool) :=
  bnd (if a0.fN < 0 then
    some true
  else
    if a1.fN < 0 then
      some true
    else
      some (!(a1 == (⟨w64 (a0.fAt + a0.fN), a1.fN⟩ : arena_Span))) : Option Bool) fun t2 =>
  if t2 = true then
    some ((⟨0, 0⟩ : arena_Span), false)
  else
    some ((⟨a0.fAt, w64 (a0.fN + a1.fN)⟩ : arena_Span), true)
set_option maxHeartbeats 4000000 in
theorem arena_Join_c {a0 : arena_Span} {a1 : arena_Span} {res : arena_Span × Bool} (h0 : arena_Join a0 a1 = some res) : CallF X 86 [.agg [.val (.int .i64 a0.fAt), .val (.int .i64 a0.fN)], .agg [.val (.int .i64 a1.fAt), .val (.int .i64 a1.fN)]] [] (fun x => .tup [.agg [.val (.int .i64 res.1.fAt), .val (.int .i64 res.1.fN)], .val (.bool res.2)]) (fun x => []) := by
 unfold arena_Join at h0
 refine CallF.mkG (X := X) Try.func86 rfl rfl Try.ntmps86 rfl rfl ?_
 refine T.seq ?_
 refine T.region ?_
 refine TL.op1 (OpR.boxImm rfl rfl) rfl ?_
 refine TL.op1 (OpR.boxImm rfl rfl) rfl ?_
 refine TL.op (OpR.alloc rfl rfl (fun _ => rfl)) rfl (fun p1 => ?_)
 refine TL.op1 (OpR.pure rfl) rfl ?_
 refine TL.nil ?_
 show T X _ _ _
 refine T.seq ?_
 refine T.seq ?_
 obtain ⟨t2, ht2, h0⟩ := bnd_some h0
 refine T.cutC (fun S' => S' = ⟨[(25, .val (.bool t2)), (5, .val (.bool false)), (4, .val (.pointer (some ⟨(blk p1), 0, none⟩))), (3, .nod [.val (.int .i64 a1.fAt), .val (.int .i64 a1.fN)]), (2, .nod [.val (.int .i64 a0.fAt), .val (.int .i64 a0.fN)])], [.var (blk p1) [.val (.int .i64 0), .val (.int .i64 0)] 50], 35⟩) (fun _ h => h) ?_ ?_
 rotate_left
 · rintro _ rfl
   show T X _ _ _
   rcases ite_some h0 with ⟨c5, h0⟩ | ⟨c5, h0⟩
   · refine T.condT rfl (c5) ?_
     refine T.seq ?_
     refine T.region ?_
     refine TL.op1 (OpR.build rfl rfl rfl rfl rfl) rfl ?_
     refine TL.op0 (OpR.store 0 rfl rfl rfl rfl rfl rfl rfl rfl) ?_
     refine TL.op1 (OpR.pure rfl) rfl ?_
     refine TL.nil ?_
     show T X _ _ _
     refine T.ret ?_
     obtain rfl := Option.some.inj h0
     exact PostG.retP (ks := []) (Gst.only [4, 5] rfl) undef (ResL.cons (ResV.var 0 rfl rfl rfl rfl) (ResL.cons (ResV.tmp rfl) ResL.nil)) rfl rfl rfl rfl
   refine T.condF rfl (eq_false_of_ne_true c5) ?_
   refine T.skip ?_
   show T X _ _ _
   refine T.seq ?_
   refine T.region ?_
   refine TL.op1 (OpR.pure rfl) rfl ?_
   refine TL.op1 (OpR.pure rfl) rfl ?_
   refine TL.op1 (OpR.pure rfl) rfl ?_
   refine TL.op1 (OpR.pure rfl) rfl ?_
   refine TL.op1 (OpR.pure rfl) rfl ?_
   refine TL.op1 (OpR.pure rfl) rfl ?_
   refine TL.op1 (OpR.pure rfl) rfl ?_
   refine TL.op1 (OpR.build rfl rfl rfl rfl rfl) rfl ?_
   refine TL.op0 (OpR.store 0 rfl rfl rfl rfl rfl rfl rfl rfl) ?_
   refine TL.op1 (OpR.pure rfl) rfl ?_
   refine TL.nil ?_
   show T X _ _ _
   refine T.ret ?_
   obtain rfl := Option.some.inj h0
   exact PostG.retP (ks := []) (Gst.only [4, 5] rfl) undef (ResL.cons (ResV.var 0 rfl rfl rfl rfl) (ResL.cons (ResV.tmp rfl) ResL.nil)) rfl rfl rfl rfl
 refine T.region ?_
 refine TL.op1 (OpR.pure rfl) rfl ?_
 refine TL.op1 (OpR.pure rfl) rfl ?_
 refine TL.op1 (OpR.pure rfl) rfl ?_
 refine TL.op1 (OpR.pure rfl) rfl ?_
 rcases ite_some ht2 with ⟨c3, ht2⟩ | ⟨c3, ht2⟩
 · refine TL.off rfl rfl rfl rfl (decide_eq_true c3) rfl rfl ?_
   refine TL.off rfl rfl rfl rfl (decide_eq_true c3) rfl rfl ?_
   refine TL.off rfl rfl rfl rfl (decide_eq_true c3) rfl rfl ?_
   refine TL.op1 (OpR.pickT rfl (decide_eq_true c3) rfl) rfl ?_
   refine TL.op1 (OpR.pure rfl) rfl ?_
   refine TL.off rfl rfl rfl rfl rfl rfl rfl ?_
   refine TL.off rfl rfl rfl rfl rfl rfl rfl ?_
   refine TL.off rfl rfl rfl rfl rfl rfl rfl ?_
   refine TL.off rfl rfl rfl rfl rfl rfl rfl ?_
   refine TL.off rfl rfl rfl rfl rfl rfl rfl ?_
   refine TL.off rfl rfl rfl rfl rfl rfl rfl ?_
   refine TL.off rfl rfl rfl rfl rfl rfl rfl ?_
   refine TL.off rfl rfl rfl rfl rfl rfl rfl ?_
   refine TL.off rfl rfl rfl rfl rfl rfl rfl ?_
   refine TL.off rfl rfl rfl rfl rfl rfl rfl ?_
   refine TL.op1 (OpR.pickT rfl rfl rfl) rfl ?_
   refine TL.nil ?_
   obtain rfl := Option.some.inj ht2
   exact ⟨_, Gst.only [2, 3, 4, 5, 25] rfl, rfl⟩
 refine TL.on rfl rfl rfl rfl (decide_eq_false c3) ?_
 refine TL.op1 (OpR.pure rfl) rfl ?_
 refine TL.on rfl rfl rfl rfl (decide_eq_false c3) ?_
 refine TL.op1 (OpR.pure rfl) rfl ?_
 refine TL.on rfl rfl rfl rfl (decide_eq_false c3) ?_
 refine TL.op1 (OpR.pure rfl) rfl ?_
 refine TL.op1 (OpR.pickF rfl (decide_eq_false c3) rfl) rfl ?_
 refine TL.op1 (OpR.pure rfl) rfl ?_
 rcases ite_some ht2 with ⟨c4, ht2⟩ | ⟨c4, ht2⟩
 · refine TL.off rfl rfl rfl rfl (decide_eq_true c4) rfl rfl ?_
   refine TL.off rfl rfl rfl rfl (decide_eq_true c4) rfl rfl ?_
   refine TL.off rfl rfl rfl rfl (decide_eq_true c4) rfl rfl ?_
   refine TL.off rfl rfl rfl rfl (decide_eq_true c4) rfl rfl ?_
   refine TL.off rfl rfl rfl rfl (decide_eq_true c4) rfl rfl ?_
   refine TL.off rfl rfl rfl rfl (decide_eq_true c4) rfl rfl ?_
   refine TL.off rfl rfl rfl rfl (decide_eq_true c4) rfl rfl ?_
   refine TL.off rfl rfl rfl rfl (decide_eq_true c4) rfl rfl ?_
   refine TL.off rfl rfl rfl rfl (decide_eq_true c4) rfl rfl ?_
   refine TL.off rfl rfl rfl rfl (decide_eq_true c4) rfl rfl ?_
   refine TL.op1 (OpR.pickT rfl (decide_eq_true c4) rfl) rfl ?_
   refine TL.nil ?_
   obtain rfl := Option.some.inj ht2
   exact ⟨_, Gst.only [2, 3, 4, 5, 25] rfl, rfl⟩
 refine TL.on rfl rfl rfl rfl (decide_eq_false c4) ?_
 refine TL.op1 (OpR.pure rfl) rfl ?_
 refine TL.on rfl rfl rfl rfl (decide_eq_false c4) ?_
 refine TL.op1 (OpR.pure rfl) rfl ?_
 refine TL.on rfl rfl rfl rfl (decide_eq_false c4) ?_
 refine TL.op1 (OpR.pure rfl) rfl ?_
 refine TL.on rfl rfl rfl rfl (decide_eq_false c4) ?_
 refine TL.op1 (OpR.pure rfl) rfl ?_
 refine TL.on rfl rfl rfl rfl (decide_eq_false c4) ?_
 refine TL.op1 (OpR.pure rfl) rfl ?_
 refine TL.on rfl rfl rfl rfl (decide_eq_false c4) ?_
 refine TL.op1 (OpR.pure rfl) rfl ?_
 refine TL.on rfl rfl rfl rfl (decide_eq_false c4) ?_
 refine TL.op1 (OpR.pure rfl) rfl ?_
 refine TL.on rfl rfl rfl rfl (decide_eq_false c4) ?_
 refine TL.op1 (OpR.pure rfl) rfl ?_
 refine TL.on rfl rfl rfl rfl (decide_eq_false c4) ?_
 refine TL.op1 (OpR.build rfl rfl rfl rfl rfl) rfl ?_
 refine TL.on rfl rfl rfl rfl (decide_eq_false c4) ?_
 refine TL.op1 (OpR.cast (OpR.neStruct rfl rfl rfl rfl rfl (by kernel_rfl) (by kernel_rfl)) (boolE (congrArg (fun b => !b) (beq_arena_Span a1 (⟨w64 (a0.fAt + a0.fN), a1.fN⟩ : arena_Span))))) rfl ?_
 refine TL.op1 (OpR.pickF rfl (decide_eq_false c4) rfl) rfl ?_
 refine TL.nil ?_
 obtain rfl := Option.some.inj ht2
 exact ⟨_, Gst.only [2, 3, 4, 5, 25] rfl, rfl⟩
end Go.Proofs.Ytkjcogmngoogcaa.S
