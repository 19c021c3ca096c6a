/- Printed by a program of this session's own (gen.py): Lean functions for Go functions, and the proofs that the Go code comes to their answers. -/
import Derived.Test.YtkmdfaodbiknlaaG11xa
set_option linter.unusedVariables false
set_option linter.unusedSimpArgs false
set_option maxRecDepth 20000
namespace Go.Proofs.Ytkmdfaodbiknlaa.S
open Go Go.Sm
attribute [local irreducible] T TL OpR CallT iter loop
noncomputable def ref10_Stretch (a0 : List Int) (a1 : Int) (a2 : Int) : Option (Int × Int) :=
  bnd (ref09_Held a0 a1) fun x1 =>
  bnd (ref09_Held a0 a2) fun x2 =>
  bnd (if x2 < x1 then
    some x1
  else
    some x2 : Option Int) fun t3 =>
  some (x1, t3)
set_option maxHeartbeats 4000000 in
theorem ref10_Stretch_c {a0 : List Int} {a1 : Int} {a2 : Int} {res : Int × Int} (h0 : ref10_Stretch a0 a1 a2 = some res) : CallF X 34 [.sl 1 (List.map (eI .i64) a0), .val (.int .i64 a1), .val (.int .i64 a2)] [] (fun x => .tup [.val (.int .i64 res.1), .val (.int .i64 res.2)]) (fun x => []) := by
 unfold ref10_Stretch at h0
 refine CallF.mkG (X := X) rfl Try.func34 rfl rfl Try.ntmps34 rfl rfl ?_
 refine T.seq ?_
 refine T.region ?_
 refine TL.op1 (OpR.pure rfl) rfl ?_
 refine TL.op1 (OpR.pure rfl) rfl ?_
 refine TL.nil ?_
 show T X _ _ _
 refine T.seq ?_
 refine T.region ?_
 refine TL.op1 (OpR.pure rfl) rfl ?_
 refine TL.op1 (OpR.pure rfl) rfl ?_
 obtain ⟨x1, hx1, h0⟩ := bnd_some h0
 refine TL.op1 (OpR.call0 fn24 (ref09_Held_c hx1) rfl) rfl ?_
 refine TL.op1 (OpR.pure rfl) rfl ?_
 refine TL.nil ?_
 show T X _ _ _
 refine T.seq ?_
 refine T.region ?_
 refine TL.op1 (OpR.pure rfl) rfl ?_
 refine TL.op1 (OpR.pure rfl) rfl ?_
 obtain ⟨x2, hx2, h0⟩ := bnd_some h0
 refine TL.op1 (OpR.call0 fn24 (ref09_Held_c hx2) rfl) rfl ?_
 refine TL.op1 (OpR.pure rfl) rfl ?_
 refine TL.nil ?_
 show T X _ _ _
 refine T.seq ?_
 refine T.seq ?_
 refine T.region ?_
 refine TL.op1 (OpR.pure rfl) rfl ?_
 refine TL.op1 (OpR.pure rfl) rfl ?_
 refine TL.op1 (OpR.pure rfl) rfl ?_
 refine TL.nil ?_
 show T X _ _ _
 obtain ⟨t3, ht3, h0⟩ := bnd_some h0
 refine T.cutC (fun S' => S' = ⟨[(7, .val (.int .i64 0)), (6, .val (.int .i64 0)), (2, .val (.int .i64 t3)), (1, .val (.int .i64 x1))], [], 20⟩) (fun _ h => h) ?_ ?_
 rotate_left
 · rintro _ rfl
   show T X _ _ _
   refine T.seq ?_
   refine T.region ?_
   refine TL.op1 (OpR.pure rfl) rfl ?_
   refine TL.op1 (OpR.pure rfl) rfl ?_
   refine TL.op1 (OpR.pure rfl) rfl ?_
   refine TL.op1 (OpR.pure rfl) rfl ?_
   refine TL.nil ?_
   show T X _ _ _
   refine T.ret ?_
   obtain rfl := Option.some.inj h0
   exact PostG.retP (ks := []) (Gst.only [6, 7] rfl) undef (ResL.cons (ResV.tmp rfl) (ResL.cons (ResV.tmp rfl) ResL.nil)) rfl rfl rfl rfl
 rcases ite_some ht3 with ⟨c4, ht3⟩ | ⟨c4, ht3⟩
 rotate_left
 · refine T.condF rfl (decide_eq_false c4) ?_
   refine T.skip ?_
   obtain rfl := Option.some.inj ht3
   exact ⟨_, Gst.only [1, 2, 6, 7] rfl, rfl⟩
 refine T.condT rfl (decide_eq_true c4) ?_
 refine T.region ?_
 refine TL.op1 (OpR.pure rfl) rfl ?_
 refine TL.op1 (OpR.pure rfl) rfl ?_
 refine TL.nil ?_
 obtain rfl := Option.some.inj ht3
 exact ⟨_, Gst.only [1, 2, 6, 7] rfl, rfl⟩
end Go.Proofs.Ytkmdfaodbiknlaa.S
