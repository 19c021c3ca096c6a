/- Printed by a program of this session's own (gen.py): Lean functions for Go functions, and the proofs that the Go code comes to their answers. -/
import Derived.Test.YtkjcogmngoogcaaG17xa
set_option linter.unusedVariables false
set_option linter.unusedSimpArgs false
set_option maxRecDepth 20000
namespace Go.Proofs.Ytkjcogmngoogcaa.S
open Go Go.Sm
attribute [local irreducible] T TL OpR CallT iter loop
noncomputable def cell_Cell_Empty (a0 : cell_Cell) : Option Bool :=
  bnd (piece_Text_Len a0.fText) fun x1 =>
  some (x1 == 0)
set_option maxHeartbeats 4000000 in
theorem cell_Cell_Empty_c {a0 : cell_Cell} {res : Bool} (h0 : cell_Cell_Empty a0 = some res) : CallF X 52 [.agg [.sl 2 (List.map e_arena_Span a0.fText.fL), .val (.int .i64 a0.fText.fN), .val (.int .i64 a0.fRaw.fAt), .val (.int .i64 a0.fRaw.fN), .val (.bool a0.fKept)]] [] (fun x => .val (.bool res)) (fun x => []) := by
 unfold cell_Cell_Empty at h0
 refine CallF.mkG (X := X) Try.func52 rfl rfl Try.ntmps52 rfl rfl ?_
 refine T.seq ?_
 refine T.region ?_
 refine TL.op1 (OpR.boxImm rfl rfl) rfl ?_
 refine TL.op1 (OpR.pure rfl) rfl ?_
 refine TL.nil ?_
 show T X _ _ _
 refine T.seq ?_
 refine T.region ?_
 refine TL.op1 (OpR.pure rfl) rfl ?_
 refine TL.op1 (OpR.pure rfl) rfl ?_
 obtain ⟨x1, hx1, h0⟩ := bnd_some h0
 refine TL.op1 (OpR.call0 fn38 (piece_Text_Len_c hx1) rfl) rfl ?_
 refine TL.op1 (OpR.pure rfl) rfl ?_
 refine TL.op1 (OpR.pure rfl) rfl ?_
 refine TL.nil ?_
 show T X _ _ _
 refine T.ret ?_
 obtain rfl := Option.some.inj h0
 exact PostG.retP (ks := []) (Gst.only [2] rfl) undef (ResL.cons (ResV.tmp rfl) ResL.nil) rfl rfl rfl rfl
end Go.Proofs.Ytkjcogmngoogcaa.S
