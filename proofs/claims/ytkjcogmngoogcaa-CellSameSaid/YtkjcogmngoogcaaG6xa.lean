/- Printed by a program of this session's own (gen.py): Lean functions for Go functions, and the proofs that the Go code comes to their answers. -/
import Derived.Test.YtkjcogmngoogcaaG1xa
import Derived.Test.YtkjcogmngoogcaaG2xa
import Derived.Test.YtkjcogmngoogcaaG3xa
set_option linter.unusedVariables false
set_option linter.unusedSimpArgs false
set_option maxRecDepth 20000
namespace Go.Proofs.Ytkjcogmngoogcaa.S
open Go Go.Sm
attribute [local irreducible] T TL OpR CallT iter loop
noncomputable def law06_QuotePuts (a0 : List UInt8) : Option Bool :=
  bnd (law06_cut a0 400) fun x1 =>
  bnd (ref06_Put x1) fun x2 =>
  bnd (bnd (quote_Needs x1) fun x4 =>
  bnd (ref06_Needs x1) fun x5 =>
  if (x4 == x5) = true then
    bnd (quote_Put x1) fun x7 =>
    if x7 = x2 then
      bnd (quote_Width x1) fun x9 =>
      if x9 = (x2.length : Int) then
        bnd (law06_awake) fun x11 =>
        some x11
      else
        some false
    else
      some false
  else
    some false : Option Bool) fun t3 =>
  some t3
set_option maxHeartbeats 4000000 in
theorem law06_QuotePuts_c {a0 : List UInt8} {res : Bool} (h0 : law06_QuotePuts a0 = some res) : CallF X 3 [.val (.string (bs a0))] [] (fun x => .val (.bool res)) (fun x => []) := by
 unfold law06_QuotePuts at h0
 refine CallF.mkG (X := X) Try.func3 rfl rfl Try.ntmps3 rfl rfl ?_
 refine T.seq ?_
 refine T.region ?_
 refine TL.op1 (OpR.pure rfl) rfl ?_
 refine TL.nil ?_
 show T X _ _ _
 refine T.seq ?_
 refine T.region ?_
 refine TL.op1 (OpR.pure rfl) rfl ?_
 obtain ⟨x1, hx1, h0⟩ := bnd_some h0
 refine TL.op1 (OpR.call0 fn14 (law06_cut_c hx1) rfl) rfl ?_
 refine TL.op1 (OpR.pure rfl) rfl ?_
 refine TL.nil ?_
 show T X _ _ _
 refine T.seq ?_
 refine T.region ?_
 refine TL.op1 (OpR.pure rfl) rfl ?_
 obtain ⟨x2, hx2, h0⟩ := bnd_some h0
 refine TL.op1 (OpR.call0 fn15 (ref06_Put_c hx2) rfl) rfl ?_
 refine TL.op1 (OpR.pure rfl) rfl ?_
 refine TL.nil ?_
 show T X _ _ _
 refine T.seq ?_
 obtain ⟨t3, ht3, h0⟩ := bnd_some h0
 refine T.cutC (fun S' => S' = ⟨[(2, .val (.bool t3))], [], 33⟩) (fun _ h => h) ?_ ?_
 rotate_left
 · rintro _ rfl
   show T X _ _ _
   refine T.ret ?_
   obtain rfl := Option.some.inj h0
   exact PostG.retP (ks := []) (Gst.only [2] rfl) undef (ResL.cons (ResV.tmp rfl) ResL.nil) rfl rfl rfl rfl
 refine T.region ?_
 refine TL.op1 (OpR.pure rfl) rfl ?_
 refine TL.op1 (OpR.toBytesM rfl rfl rfl rfl rfl rfl rfl) rfl ?_
 obtain ⟨x4, hx4, ht3⟩ := bnd_some ht3
 refine TL.op1 (OpR.call0 fn16 (quote_Needs_c hx4) rfl) rfl ?_
 refine TL.op1 (OpR.pure rfl) rfl ?_
 obtain ⟨x5, hx5, ht3⟩ := bnd_some ht3
 refine TL.op1 (OpR.call0 fn17 (ref06_Needs_c hx5) rfl) rfl ?_
 refine TL.op1 (OpR.eqBool rfl rfl rfl rfl) rfl ?_
 refine TL.op1 (OpR.pure rfl) rfl ?_
 rcases ite_some ht3 with ⟨c6, ht3⟩ | ⟨c6, ht3⟩
 rotate_left
 · refine TL.off rfl rfl rfl rfl (eq_false_of_ne_true c6) rfl rfl ?_
   refine TL.off rfl rfl rfl rfl (eq_false_of_ne_true c6) rfl rfl ?_
   refine TL.off rfl rfl rfl rfl (eq_false_of_ne_true c6) rfl rfl ?_
   refine TL.off rfl rfl rfl rfl (eq_false_of_ne_true c6) rfl rfl ?_
   refine TL.off rfl rfl rfl rfl (eq_false_of_ne_true c6) rfl rfl ?_
   refine TL.off rfl rfl rfl rfl (eq_false_of_ne_true c6) rfl rfl ?_
   refine TL.op1 (OpR.pickF rfl (eq_false_of_ne_true c6) rfl) rfl ?_
   refine TL.op1 (OpR.pure rfl) rfl ?_
   refine TL.off rfl rfl rfl rfl rfl rfl rfl ?_
   refine TL.off rfl rfl rfl rfl rfl rfl rfl ?_
   refine TL.off rfl rfl rfl rfl rfl rfl rfl ?_
   refine TL.off rfl rfl rfl rfl rfl rfl rfl ?_
   refine TL.off rfl rfl rfl rfl rfl rfl rfl ?_
   refine TL.off rfl rfl rfl rfl rfl rfl rfl ?_
   refine TL.op1 (OpR.pickF rfl rfl rfl) rfl ?_
   refine TL.op1 (OpR.pure rfl) rfl ?_
   refine TL.off rfl rfl rfl rfl rfl rfl rfl ?_
   refine TL.op1 (OpR.pickF rfl rfl rfl) rfl ?_
   refine TL.op1 (OpR.pure rfl) rfl ?_
   refine TL.nil ?_
   obtain rfl := Option.some.inj ht3
   exact ⟨_, Gst.only [2] rfl, rfl⟩
 refine TL.on rfl rfl rfl rfl (c6) ?_
 refine TL.op1 (OpR.pure rfl) rfl ?_
 refine TL.on rfl rfl rfl rfl (c6) ?_
 refine TL.op1 (OpR.toBytesM rfl rfl rfl rfl rfl rfl rfl) rfl ?_
 refine TL.on rfl rfl rfl rfl (c6) ?_
 obtain ⟨x7, hx7, ht3⟩ := bnd_some ht3
 refine TL.op1 (OpR.call0 fn18 (quote_Put_c hx7) rfl) rfl ?_
 refine TL.on rfl rfl rfl rfl (c6) ?_
 refine TL.op1 (OpR.toStr (bs := x7) rfl rfl rfl rfl rfl rfl rfl) rfl ?_
 refine TL.on rfl rfl rfl rfl (c6) ?_
 refine TL.op1 (OpR.pure rfl) rfl ?_
 refine TL.on rfl rfl rfl rfl (c6) ?_
 refine TL.op1 (OpR.cast (OpR.pure rfl) (boolE (strEq _ _))) rfl ?_
 refine TL.op1 (OpR.pickT rfl (c6) rfl) rfl ?_
 refine TL.op1 (OpR.pure rfl) rfl ?_
 rcases ite_some ht3 with ⟨c8, ht3⟩ | ⟨c8, ht3⟩
 rotate_left
 · refine TL.off rfl rfl rfl rfl (beq_eq_false_iff_ne.2 c8) rfl rfl ?_
   refine TL.off rfl rfl rfl rfl (beq_eq_false_iff_ne.2 c8) rfl rfl ?_
   refine TL.off rfl rfl rfl rfl (beq_eq_false_iff_ne.2 c8) rfl rfl ?_
   refine TL.off rfl rfl rfl rfl (beq_eq_false_iff_ne.2 c8) rfl rfl ?_
   refine TL.off rfl rfl rfl rfl (beq_eq_false_iff_ne.2 c8) rfl rfl ?_
   refine TL.off rfl rfl rfl rfl (beq_eq_false_iff_ne.2 c8) rfl rfl ?_
   refine TL.op1 (OpR.pickF rfl (beq_eq_false_iff_ne.2 c8) rfl) rfl ?_
   refine TL.op1 (OpR.pure rfl) rfl ?_
   refine TL.off rfl rfl rfl rfl rfl rfl rfl ?_
   refine TL.op1 (OpR.pickF rfl rfl rfl) rfl ?_
   refine TL.op1 (OpR.pure rfl) rfl ?_
   refine TL.nil ?_
   obtain rfl := Option.some.inj ht3
   exact ⟨_, Gst.only [2] rfl, rfl⟩
 refine TL.on rfl rfl rfl rfl (beq_iff_eq.2 c8) ?_
 refine TL.op1 (OpR.pure rfl) rfl ?_
 refine TL.on rfl rfl rfl rfl (beq_iff_eq.2 c8) ?_
 refine TL.op1 (OpR.toBytesM rfl rfl rfl rfl rfl rfl rfl) rfl ?_
 refine TL.on rfl rfl rfl rfl (beq_iff_eq.2 c8) ?_
 obtain ⟨x9, hx9, ht3⟩ := bnd_some ht3
 refine TL.op1 (OpR.call0 fn19 (quote_Width_c hx9) rfl) rfl ?_
 refine TL.on rfl rfl rfl rfl (beq_iff_eq.2 c8) ?_
 refine TL.op1 (OpR.pure rfl) rfl ?_
 refine TL.on rfl rfl rfl rfl (beq_iff_eq.2 c8) ?_
 refine TL.op1 (OpR.cast (OpR.pure rfl) (intE (lenS _))) rfl ?_
 refine TL.on rfl rfl rfl rfl (beq_iff_eq.2 c8) ?_
 refine TL.op1 (OpR.pure rfl) rfl ?_
 refine TL.op1 (OpR.pickT rfl (beq_iff_eq.2 c8) rfl) rfl ?_
 refine TL.op1 (OpR.pure rfl) rfl ?_
 rcases ite_some ht3 with ⟨c10, ht3⟩ | ⟨c10, ht3⟩
 rotate_left
 · refine TL.off rfl rfl rfl rfl (beq_eq_false_iff_ne.2 c10) rfl rfl ?_
   refine TL.op1 (OpR.pickF rfl (beq_eq_false_iff_ne.2 c10) rfl) rfl ?_
   refine TL.op1 (OpR.pure rfl) rfl ?_
   refine TL.nil ?_
   obtain rfl := Option.some.inj ht3
   exact ⟨_, Gst.only [2] rfl, rfl⟩
 refine TL.on rfl rfl rfl rfl (beq_iff_eq.2 c10) ?_
 obtain ⟨x11, hx11, ht3⟩ := bnd_some ht3
 refine TL.op1 (OpR.call0 fn20 (law06_awake_c hx11) rfl) rfl ?_
 refine TL.op1 (OpR.pickT rfl (beq_iff_eq.2 c10) rfl) rfl ?_
 refine TL.op1 (OpR.pure rfl) rfl ?_
 refine TL.nil ?_
 obtain rfl := Option.some.inj ht3
 exact ⟨_, Gst.only [2] rfl, rfl⟩
end Go.Proofs.Ytkjcogmngoogcaa.S
