/- Printed by a program of this session's own (gen.py): Lean functions for Go functions, and the proofs that the Go code comes to their answers. -/
import Derived.Test.YtbcbggdgkdfciaaG1xa
set_option linter.unusedVariables false
set_option linter.unusedSimpArgs false
set_option maxRecDepth 20000
namespace Go.Proofs.Ytbcbggdgkdfciaa.S
open Go Go.Sm
attribute [local irreducible] T TL OpR CallT iter loop
noncomputable def row_Row_Hide (a0 : row_Row) (a1 : Bool) : Option row_Row :=
  bnd (slices_Clone_cell_Cell_cell_Cell a0.fCells) fun x3 =>
  some (⟨x3, a0.fEnd, a1⟩ : row_Row)
set_option maxHeartbeats 4000000 in
theorem row_Row_Hide_c {a0 : row_Row} {a1 : Bool} {res : row_Row} (h0 : row_Row_Hide a0 a1 = some res) : CallF X 37 [.agg [.sl 5 (List.map e_cell_Cell a0.fCells), .val (.int .i64 a0.fEnd), .val (.bool a0.fHidden)], .val (.bool a1)] [] (fun x => .agg [.sl 5 (List.map e_cell_Cell res.fCells), .val (.int .i64 res.fEnd), .val (.bool res.fHidden)]) (fun x => []) := by
 unfold row_Row_Hide at h0
 refine CallF.mkG (X := X) Try.func37 rfl rfl Try.ntmps37 rfl rfl ?_
 refine T.seq ?_
 refine T.region ?_
 refine TL.op (OpR.boxVar rfl rfl (fun _ => rfl)) rfl (fun p1 => ?_)
 refine TL.op (OpR.alloc rfl rfl (fun _ => rfl)) rfl (fun p2 => ?_)
 refine TL.nil ?_
 show T X _ _ _
 refine T.seq ?_
 refine T.region ?_
 refine TL.op1 (OpR.pure rfl) rfl ?_
 refine TL.op1 (OpR.loadPtr 0 rfl rfl rfl rfl) rfl ?_
 obtain ⟨x3, hx3, h0⟩ := bnd_some h0
 refine TL.op (OpR.call [] fn76 (slices_Clone_cell_Cell_cell_Cell_c hx3) rfl rfl rfl (fun _ => rfl)) rfl (fun w4 => ?_)
 refine TL.op1 (OpR.pure rfl) rfl ?_
 refine TL.op0 (OpR.store 0 rfl rfl rfl rfl rfl rfl rfl rfl) ?_
 refine TL.nil ?_
 show T X _ _ _
 refine T.seq ?_
 refine T.region ?_
 refine TL.op1 (OpR.pure rfl) rfl ?_
 refine TL.op1 (OpR.pure rfl) rfl ?_
 refine TL.op0 (OpR.store 0 rfl rfl rfl rfl rfl rfl rfl rfl) ?_
 refine TL.nil ?_
 show T X _ _ _
 refine T.seq ?_
 refine T.region ?_
 refine TL.op1 (OpR.loadPtr 0 rfl rfl rfl rfl) rfl ?_
 refine TL.op0 (OpR.store 1 rfl rfl rfl rfl rfl rfl rfl rfl) ?_
 refine TL.nil ?_
 show T X _ _ _
 refine T.ret ?_
 obtain rfl := Option.some.inj h0
 exact PostG.retP (ks := []) (Gst.trans (Gst.only [4] rfl) (Gst.trans (Gst.freezeRow 2 rfl rfl (ReS.cons Re.refl ReS.nil) (ReO.var (ReL.cons (Re.base .all) (ReL.cons Re.refl (ReL.cons Re.refl ReL.nil))) (ReO.var (ReL.cons (Re.base .all) (ReL.cons Re.refl (ReL.cons Re.refl ReL.nil))) (ReO.same ReO.nil)))) (Gst.pick [1] rfl rfl))) undef (ResL.cons (ResV.var 0 rfl rfl rfl rfl) ResL.nil) rfl rfl rfl rfl
end Go.Proofs.Ytbcbggdgkdfciaa.S
