/- Printed by a program of this session's own (gen.py): Lean functions for Go functions, and the proofs that the Go code comes to their answers. -/
import Derived.Test.YtlginjmkmfodmaaG0
set_option linter.unusedVariables false
set_option linter.unusedSimpArgs false
namespace Go.Proofs.Ytlginjmkmfodmaa.S
open Go Go.Sm
attribute [local irreducible] T TL OpR CallT iter loop
noncomputable def law03_ours (a0 : arena_Span) : Option ref03_Span :=
  some (⟨a0.fAt, a0.fN⟩ : ref03_Span)
set_option maxHeartbeats 4000000 in
theorem law03_ours_c {a0 : arena_Span} {res : ref03_Span} (h0 : law03_ours a0 = some res) : CallF X 28 [.agg [.val (.int .i64 a0.fAt), .val (.int .i64 a0.fN)]] [] (fun x => .agg [.val (.int .i64 res.fAt), .val (.int .i64 res.fN)]) (fun x => []) := by
 unfold law03_ours at h0
 refine CallF.mkG (X := X) Try.func28 rfl rfl Try.ntmps28 rfl rfl ?_
 refine T.seq ?_
 refine T.region ?_
 refine TL.op1 (OpR.boxImm rfl rfl) rfl ?_
 refine TL.op (OpR.alloc rfl rfl (fun _ => rfl)) rfl (fun p1 => ?_)
 refine TL.nil ?_
 show T X _ _ _
 refine T.seq ?_
 refine T.region ?_
 refine TL.op1 (OpR.pure rfl) rfl ?_
 refine TL.op1 (OpR.pure rfl) rfl ?_
 refine TL.op1 (OpR.pure rfl) rfl ?_
 refine TL.op1 (OpR.pure rfl) rfl ?_
 refine TL.op1 (OpR.build rfl rfl rfl rfl rfl) rfl ?_
 refine TL.op0 (OpR.store 0 rfl rfl rfl rfl rfl rfl rfl rfl) ?_
 refine TL.nil ?_
 show T X _ _ _
 refine T.ret ?_
 obtain rfl := Option.some.inj h0
 exact PostG.retP (ks := []) (Gst.only [2] rfl) undef (ResL.cons (ResV.var 0 rfl rfl rfl rfl) ResL.nil) rfl rfl rfl rfl
end Go.Proofs.Ytlginjmkmfodmaa.S
