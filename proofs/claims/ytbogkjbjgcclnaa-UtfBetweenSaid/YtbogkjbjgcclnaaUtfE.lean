/- Package utf: the document's own Class. -/
import Derived.Test.YtbogkjbjgcclnaaUtfD
namespace Go.Proofs.Ytbogkjbjgcclnaa
open Go Go.Am
attribute [local irreducible] T TL CallT Decidable.decide
set_option maxHeartbeats 2000000 in
theorem refClass_c (r : Int) : CallE X 34 [.val (.int .i64 r)] (.val (.int .i64 (classS r))) := by
  refine CallE.mk (X := X) Try.func34 rfl rfl Try.ntmps34 rfl rfl ?_
  repeat' (first | refine TL.pure rfl rfl ?_ | refine TL.done ?_ | refine TL.store' rfl rfl rfl rfl rfl rfl rfl rfl ?_ | refine TL.loadPtr rfl rfl rfl rfl rfl ?_ | refine TL.build rfl rfl rfl rfl rfl rfl ?_ | refine TL.pickT rfl rfl rfl ?_ | refine TL.pickF rfl rfl rfl ?_ | refine T.seq ?_ | refine T.region ?_ | refine T.condT rfl ?_ | refine T.condF rfl ?_ | refine TL.on rfl rfl rfl rfl ?_ | refine TL.offT rfl rfl rfl rfl rfl rfl ?_ | refine TL.offF rfl rfl rfl rfl rfl rfl ?_ | refine TL.offU rfl rfl rfl rfl rfl rfl ?_ | (refine T.condD rfl (fun _ => ?_) (fun _ => ?_) <;> try (exfalso; omega)) | (refine T.condE rfl (fun _ => ?_) (fun _ => ?_) <;> try (exfalso; omega)) | (refine T.condNe rfl (fun _ => ?_) (fun _ => ?_) <;> try (exfalso; omega)) | refine T.condN rfl (fun _ => ?_) (fun _ => ?_) | refine T.cond rfl (fun _ => ?_) (fun _ => ?_) | (refine TL.gD rfl rfl rfl rfl (fun _ => ?_) (fun _ => ?_) <;> try (exfalso; omega)) | (refine TL.gE rfl rfl rfl rfl (fun _ => ?_) (fun _ => ?_) <;> try (exfalso; omega)) | (refine TL.gNe rfl rfl rfl rfl (fun _ => ?_) (fun _ => ?_) <;> try (exfalso; omega)) | refine TL.gN rfl rfl rfl rfl (fun _ => ?_) (fun _ => ?_) | refine TL.gB rfl rfl rfl rfl (fun _ => ?_) (fun _ => ?_) | refine T.block ?_ | (refine T.exit ?_; show T X _ _ _) | refine TL.doneB ?_ | refine T.skipDone ?_ | refine T.skipDoneB ?_ | refine T.ret (T.retPost rfl ?_) | refine TL.nil (T.endPost rfl ?_))
  all_goals exact int_eq (by unfold classS; (repeat' split) <;> omega)
end Go.Proofs.Ytbogkjbjgcclnaa
