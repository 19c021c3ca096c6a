/- Printed by a program of this session's own (gen.py): Lean functions for Go functions, and the proofs that the Go code comes to their answers. -/
import Derived.Test.YtlginjmkmfodmaaDoorG0
set_option maxHeartbeats 4000000
set_option linter.unusedVariables false
set_option linter.unusedSimpArgs false
set_option maxRecDepth 20000
namespace Go.Proofs.YtlginjmkmfodmaaDoor.S
open Go Go.Sm
attribute [local irreducible] T TL OpR CallT iter loop
noncomputable def ref01_Put (a0 : Int) : Option (List UInt8) :=
  bnd (if a0 < 0 then
    some true
  else
    if a0 > 1114111 then
      some true
    else
      if a0 ≥ 55296 then
        some (decide (a0 ≤ 57343))
      else
        some false : Option Bool) fun t1 =>
  if t1 = true then
    some []
  else
    if a0 < 128 then
      some [ub a0]
    else
      if a0 < 2048 then
        some [ub (w64 (192 + (w64 (quo a0 63)))), ub (w64 (128 + (rem a0 63)))]
      else
        if a0 < 65536 then
          some [ub (w64 (224 + (w64 (quo a0 4095)))), ub (w64 (128 + (rem (w64 (quo a0 63)) 63))), ub (w64 (128 + (rem a0 63)))]
        else
          some [ub (w64 (240 + (w64 (quo a0 262143)))), ub (w64 (128 + (rem (w64 (quo a0 4095)) 63))), ub (w64 (128 + (rem (w64 (quo a0 63)) 63))), ub (w64 (128 + (rem a0 63)))]
theorem ref01_Put_c {a0 : Int} {res : (List UInt8)} (h0 : ref01_Put a0 = some res) : CallF X 28 [dN a0] [] (fun x => .val (.string (bs res))) (fun x => []) := by
 unfold ref01_Put at h0
 refine CallF.mkG (X := X) rfl Tryd.func28 rfl rfl Tryd.ntmps28 rfl rfl ?_
 refine aS ?_
 refine aA rfl rfl ?_
 refine aN rfl ?_
 refine T.seq ?_
 refine T.seq ?_
 obtain ⟨t1, ht1, h0⟩ := bS h0
 refine T.cutC (fun S' => S' = ⟨[(16, (dT t1)), (2, .val (.string (bs []))), (0, (dN a0))], [], 72⟩) (fun _ h => h) ?_ ?_
 · refine T.region ?_
   iterate 3 refine aA rfl rfl ?_
   rcases ite_some ht1 with ⟨c2, ht1⟩ | ⟨c2, ht1⟩
   · refine TL.off rfl rfl rfl rfl (decide_eq_true c2) rfl rfl ?_
     refine TL.off rfl rfl rfl rfl (decide_eq_true c2) rfl rfl ?_
     refine TL.op1 (OpR.pickT rfl (decide_eq_true c2) rfl) rfl ?_
     refine aA rfl rfl ?_
     refine TL.off rfl rfl rfl rfl rfl rfl rfl ?_
     refine TL.off rfl rfl rfl rfl rfl rfl rfl ?_
     refine TL.off rfl rfl rfl rfl rfl rfl rfl ?_
     refine TL.offU rfl rfl rfl rfl rfl rfl ?_
     refine TL.offU rfl rfl rfl rfl rfl rfl ?_
     refine TL.off rfl rfl rfl rfl rfl rfl rfl ?_
     refine TL.op1 (OpR.pickT rfl rfl rfl) rfl ?_
     refine TL.nil ?_
     obtain rfl := Option.some.inj ht1
     exact ⟨_, Gst.only [0, 2, 16] rfl, rfl⟩
   refine TL.on rfl rfl rfl rfl (decide_eq_false c2) ?_
   refine aA rfl rfl ?_
   refine TL.on rfl rfl rfl rfl (decide_eq_false c2) ?_
   refine aA rfl rfl ?_
   refine TL.op1 (OpR.pickF rfl (decide_eq_false c2) rfl) rfl ?_
   refine aA rfl rfl ?_
   rcases ite_some ht1 with ⟨c3, ht1⟩ | ⟨c3, ht1⟩
   · refine TL.off rfl rfl rfl rfl (decide_eq_true c3) rfl rfl ?_
     refine TL.off rfl rfl rfl rfl (decide_eq_true c3) rfl rfl ?_
     refine TL.off rfl rfl rfl rfl (decide_eq_true c3) rfl rfl ?_
     refine TL.offU rfl rfl rfl rfl rfl rfl ?_
     refine TL.offU rfl rfl rfl rfl rfl rfl ?_
     refine TL.off rfl rfl rfl rfl (decide_eq_true c3) rfl rfl ?_
     refine TL.op1 (OpR.pickT rfl (decide_eq_true c3) rfl) rfl ?_
     refine TL.nil ?_
     obtain rfl := Option.some.inj ht1
     exact ⟨_, Gst.only [0, 2, 16] rfl, rfl⟩
   refine TL.on rfl rfl rfl rfl (decide_eq_false c3) ?_
   refine aA rfl rfl ?_
   refine TL.on rfl rfl rfl rfl (decide_eq_false c3) ?_
   refine aA rfl rfl ?_
   refine TL.on rfl rfl rfl rfl (decide_eq_false c3) ?_
   refine aA rfl rfl ?_
   rcases ite_some ht1 with ⟨c4, ht1⟩ | ⟨c4, ht1⟩
   rotate_left
   · refine TL.off rfl rfl rfl rfl (decide_eq_false c4) rfl rfl ?_
     refine TL.off rfl rfl rfl rfl (decide_eq_false c4) rfl rfl ?_
     refine TL.on rfl rfl rfl rfl (decide_eq_false c3) ?_
     refine TL.op1 (OpR.pickF rfl (decide_eq_false c4) rfl) rfl ?_
     refine TL.op1 (OpR.pickF rfl (decide_eq_false c3) rfl) rfl ?_
     refine TL.nil ?_
     obtain rfl := Option.some.inj ht1
     exact ⟨_, Gst.only [0, 2, 16] rfl, rfl⟩
   refine TL.on rfl rfl rfl rfl (decide_eq_true c4) ?_
   refine aA rfl rfl ?_
   refine TL.on rfl rfl rfl rfl (decide_eq_true c4) ?_
   refine aA rfl rfl ?_
   refine TL.on rfl rfl rfl rfl (decide_eq_false c3) ?_
   refine TL.op1 (OpR.pickT rfl (decide_eq_true c4) rfl) rfl ?_
   refine TL.op1 (OpR.pickF rfl (decide_eq_false c3) rfl) rfl ?_
   refine TL.nil ?_
   obtain rfl := Option.some.inj ht1
   exact ⟨_, Gst.only [0, 2, 16] rfl, rfl⟩
 rintro _ rfl
 show T X _ _ _
 rcases ite_some h0 with ⟨c5, h0⟩ | ⟨c5, h0⟩
 · refine T.condT rfl (c5) ?_
   refine aS ?_
   refine aA rfl rfl ?_
   refine aN rfl ?_
   refine T.ret ?_
   obtain rfl := Option.some.inj h0
   exact rO [] [2] rfl undef (cT rfl ResL.nil) rfl rfl rfl rfl
 refine T.condF rfl (eq_false_of_ne_true c5) ?_
 refine aK rfl ?_
 refine T.seq ?_
 refine aS ?_
 iterate 2 refine aA rfl rfl ?_
 refine aN rfl ?_
 rcases ite_some h0 with ⟨c6, h0⟩ | ⟨c6, h0⟩
 · refine T.condT rfl (decide_eq_true c6) ?_
   refine aS ?_
   refine aA rfl rfl ?_
   refine TL.op1 (OpR.cast (OpR.pure rfl) (intE (ub_wrap _))) rfl ?_
   refine TL.op1 (OpR.lit rfl rfl rfl rfl rfl rfl rfl) rfl ?_
   refine TL.op1 (OpR.toStr (bs := [ub a0]) rfl rfl rfl rfl rfl rfl rfl) rfl ?_
   refine aA rfl rfl ?_
   refine aN rfl ?_
   refine T.ret ?_
   obtain rfl := Option.some.inj h0
   exact rO [] [2] rfl undef (cT rfl ResL.nil) rfl rfl rfl rfl
 refine T.condF rfl (decide_eq_false c6) ?_
 refine aK rfl ?_
 refine T.seq ?_
 refine aS ?_
 iterate 2 refine aA rfl rfl ?_
 refine aN rfl ?_
 rcases ite_some h0 with ⟨c7, h0⟩ | ⟨c7, h0⟩
 · refine T.condT rfl (decide_eq_true c7) ?_
   refine aS ?_
   iterate 3 refine aA rfl rfl ?_
   refine TL.op1 (OpR.cast (OpR.pure rfl) (intE (ub_wrap _))) rfl ?_
   iterate 3 refine aA rfl rfl ?_
   refine TL.op1 (OpR.cast (OpR.pure rfl) (intE (ub_wrap _))) rfl ?_
   refine TL.op1 (OpR.lit rfl rfl rfl rfl rfl rfl rfl) rfl ?_
   refine TL.op1 (OpR.toStr (bs := [ub (w64 (192 + (w64 (quo a0 63)))), ub (w64 (128 + (rem a0 63)))]) rfl rfl rfl rfl rfl rfl rfl) rfl ?_
   refine aA rfl rfl ?_
   refine aN rfl ?_
   refine T.ret ?_
   obtain rfl := Option.some.inj h0
   exact rO [] [2] rfl undef (cT rfl ResL.nil) rfl rfl rfl rfl
 refine T.condF rfl (decide_eq_false c7) ?_
 refine aK rfl ?_
 refine T.seq ?_
 refine aS ?_
 iterate 2 refine aA rfl rfl ?_
 refine aN rfl ?_
 rcases ite_some h0 with ⟨c8, h0⟩ | ⟨c8, h0⟩
 · refine T.condT rfl (decide_eq_true c8) ?_
   refine aS ?_
   iterate 3 refine aA rfl rfl ?_
   refine TL.op1 (OpR.cast (OpR.pure rfl) (intE (ub_wrap _))) rfl ?_
   iterate 4 refine aA rfl rfl ?_
   refine TL.op1 (OpR.cast (OpR.pure rfl) (intE (ub_wrap _))) rfl ?_
   iterate 3 refine aA rfl rfl ?_
   refine TL.op1 (OpR.cast (OpR.pure rfl) (intE (ub_wrap _))) rfl ?_
   refine TL.op1 (OpR.lit rfl rfl rfl rfl rfl rfl rfl) rfl ?_
   refine TL.op1 (OpR.toStr (bs := [ub (w64 (224 + (w64 (quo a0 4095)))), ub (w64 (128 + (rem (w64 (quo a0 63)) 63))), ub (w64 (128 + (rem a0 63)))]) rfl rfl rfl rfl rfl rfl rfl) rfl ?_
   refine aA rfl rfl ?_
   refine aN rfl ?_
   refine T.ret ?_
   obtain rfl := Option.some.inj h0
   exact rO [] [2] rfl undef (cT rfl ResL.nil) rfl rfl rfl rfl
 refine T.condF rfl (decide_eq_false c8) ?_
 refine aK rfl ?_
 refine aS ?_
 iterate 3 refine aA rfl rfl ?_
 refine TL.op1 (OpR.cast (OpR.pure rfl) (intE (ub_wrap _))) rfl ?_
 iterate 4 refine aA rfl rfl ?_
 refine TL.op1 (OpR.cast (OpR.pure rfl) (intE (ub_wrap _))) rfl ?_
 iterate 4 refine aA rfl rfl ?_
 refine TL.op1 (OpR.cast (OpR.pure rfl) (intE (ub_wrap _))) rfl ?_
 iterate 3 refine aA rfl rfl ?_
 refine TL.op1 (OpR.cast (OpR.pure rfl) (intE (ub_wrap _))) rfl ?_
 refine TL.op1 (OpR.lit rfl rfl rfl rfl rfl rfl rfl) rfl ?_
 refine TL.op1 (OpR.toStr (bs := [ub (w64 (240 + (w64 (quo a0 262143)))), ub (w64 (128 + (rem (w64 (quo a0 4095)) 63))), ub (w64 (128 + (rem (w64 (quo a0 63)) 63))), ub (w64 (128 + (rem a0 63)))]) rfl rfl rfl rfl rfl rfl rfl) rfl ?_
 refine aA rfl rfl ?_
 refine aN rfl ?_
 refine T.ret ?_
 obtain rfl := Option.some.inj h0
 exact rO [] [2] rfl undef (cT rfl ResL.nil) rfl rfl rfl rfl
noncomputable def ref22_Types (a0 : Int) : Option Bool :=
  bnd (if a0 ≥ 32 then
    if a0 = 127 then
      some false
    else
      bnd (ref01_Put a0) fun x4 =>
      some (!(x4 == []))
  else
    some false : Option Bool) fun t1 =>
  some t1
theorem ref22_Types_c {a0 : Int} {res : Bool} (h0 : ref22_Types a0 = some res) : CallF X 17 [dN a0] [] (fun x => (dT res)) (fun x => []) := by
 unfold ref22_Types at h0
 refine CallF.mkG (X := X) rfl Tryd.func17 rfl rfl Tryd.ntmps17 rfl rfl ?_
 refine aS ?_
 refine aA rfl rfl ?_
 refine aN rfl ?_
 refine T.seq ?_
 obtain ⟨t1, ht1, h0⟩ := bS h0
 refine T.cutC (fun S' => S' = ⟨[(2, (dT t1))], [], 14⟩) (fun _ h => h) ?_ ?_
 rotate_left
 · rintro _ rfl
   show T X _ _ _
   refine T.ret ?_
   obtain rfl := Option.some.inj h0
   exact rO [] [2] rfl undef (cT rfl ResL.nil) rfl rfl rfl rfl
 refine T.region ?_
 iterate 3 refine aA rfl rfl ?_
 rcases ite_some ht1 with ⟨c2, ht1⟩ | ⟨c2, ht1⟩
 rotate_left
 · refine TL.off rfl rfl rfl rfl (decide_eq_false c2) rfl rfl ?_
   refine TL.off rfl rfl rfl rfl (decide_eq_false c2) rfl rfl ?_
   refine TL.op1 (OpR.pickF rfl (decide_eq_false c2) rfl) rfl ?_
   refine aA rfl rfl ?_
   refine TL.off rfl rfl rfl rfl rfl rfl rfl ?_
   refine TL.off rfl rfl rfl rfl rfl rfl rfl ?_
   refine TL.off rfl rfl rfl rfl rfl rfl rfl ?_
   refine TL.op1 (OpR.pickF rfl rfl rfl) rfl ?_
   refine aA rfl rfl ?_
   refine TL.nil ?_
   obtain rfl := Option.some.inj ht1
   exact ⟨_, Gst.only [2] rfl, rfl⟩
 refine TL.on rfl rfl rfl rfl (decide_eq_true c2) ?_
 refine aA rfl rfl ?_
 refine TL.on rfl rfl rfl rfl (decide_eq_true c2) ?_
 refine aA rfl rfl ?_
 refine TL.op1 (OpR.pickT rfl (decide_eq_true c2) rfl) rfl ?_
 refine aA rfl rfl ?_
 rcases ite_some ht1 with ⟨c3, ht1⟩ | ⟨c3, ht1⟩
 · refine TL.off rfl rfl rfl rfl (not_t (beq_iff_eq.2 c3)) rfl rfl ?_
   refine TL.off rfl rfl rfl rfl (not_t (beq_iff_eq.2 c3)) rfl rfl ?_
   refine TL.off rfl rfl rfl rfl (not_t (beq_iff_eq.2 c3)) rfl rfl ?_
   refine TL.op1 (OpR.pickF rfl (not_t (beq_iff_eq.2 c3)) rfl) rfl ?_
   refine aA rfl rfl ?_
   refine TL.nil ?_
   obtain rfl := Option.some.inj ht1
   exact ⟨_, Gst.only [2] rfl, rfl⟩
 refine TL.on rfl rfl rfl rfl (not_f (beq_eq_false_iff_ne.2 c3)) ?_
 refine aA rfl rfl ?_
 refine TL.on rfl rfl rfl rfl (not_f (beq_eq_false_iff_ne.2 c3)) ?_
 obtain ⟨x4, hx4, ht1⟩ := bS ht1
 refine TL.op1 (OpR.call0 fn28 (ref01_Put_c hx4) rfl) rfl ?_
 refine TL.on rfl rfl rfl rfl (not_f (beq_eq_false_iff_ne.2 c3)) ?_
 refine TL.op1 (OpR.cast (OpR.pure rfl) (boolE (strNe _ _))) rfl ?_
 refine TL.op1 (OpR.pickT rfl (not_f (beq_eq_false_iff_ne.2 c3)) rfl) rfl ?_
 refine aA rfl rfl ?_
 refine TL.nil ?_
 obtain rfl := Option.some.inj ht1
 exact ⟨_, Gst.only [2] rfl, rfl⟩
noncomputable def ref22_Is (a0 : Int) : Option Bool :=
  bnd (if a0 ≥ (-6) then
    if a0 ≤ 27 then
      if a0 = 0 then
        if a0 = 127 then
          some true
        else
          bnd (ref22_Types a0) fun x6 =>
          some x6
      else
        some true
    else
      if a0 = 127 then
        some true
      else
        bnd (ref22_Types a0) fun x8 =>
        some x8
  else
    if a0 = 127 then
      some true
    else
      bnd (ref22_Types a0) fun x10 =>
      some x10 : Option Bool) fun t1 =>
  some t1
theorem ref22_Is_c {a0 : Int} {res : Bool} (h0 : ref22_Is a0 = some res) : CallF X 13 [dN a0] [] (fun x => (dT res)) (fun x => []) := by
 unfold ref22_Is at h0
 refine CallF.mkG (X := X) rfl Tryd.func13 rfl rfl Tryd.ntmps13 rfl rfl ?_
 refine aS ?_
 refine aA rfl rfl ?_
 refine aN rfl ?_
 refine T.seq ?_
 obtain ⟨t1, ht1, h0⟩ := bS h0
 refine T.cutC (fun S' => S' = ⟨[(2, (dT t1))], [], 21⟩) (fun _ h => h) ?_ ?_
 rotate_left
 · rintro _ rfl
   show T X _ _ _
   refine T.ret ?_
   obtain rfl := Option.some.inj h0
   exact rO [] [2] rfl undef (cT rfl ResL.nil) rfl rfl rfl rfl
 refine T.region ?_
 iterate 3 refine aA rfl rfl ?_
 rcases ite_some ht1 with ⟨c2, ht1⟩ | ⟨c2, ht1⟩
 rotate_left
 · refine TL.off rfl rfl rfl rfl (decide_eq_false c2) rfl rfl ?_
   refine TL.off rfl rfl rfl rfl (decide_eq_false c2) rfl rfl ?_
   refine TL.op1 (OpR.pickF rfl (decide_eq_false c2) rfl) rfl ?_
   refine aA rfl rfl ?_
   refine TL.off rfl rfl rfl rfl rfl rfl rfl ?_
   refine TL.off rfl rfl rfl rfl rfl rfl rfl ?_
   refine TL.op1 (OpR.pickF rfl rfl rfl) rfl ?_
   refine aA rfl rfl ?_
   refine TL.on rfl rfl rfl rfl rfl ?_
   refine aA rfl rfl ?_
   refine TL.on rfl rfl rfl rfl rfl ?_
   refine aA rfl rfl ?_
   refine TL.op1 (OpR.pickF rfl rfl rfl) rfl ?_
   refine aA rfl rfl ?_
   rcases ite_some ht1 with ⟨c9, ht1⟩ | ⟨c9, ht1⟩
   · refine TL.off rfl rfl rfl rfl (beq_iff_eq.2 c9) rfl rfl ?_
     refine TL.off rfl rfl rfl rfl (beq_iff_eq.2 c9) rfl rfl ?_
     refine TL.op1 (OpR.pickT rfl (beq_iff_eq.2 c9) rfl) rfl ?_
     refine aA rfl rfl ?_
     refine TL.nil ?_
     obtain rfl := Option.some.inj ht1
     exact ⟨_, Gst.only [2] rfl, rfl⟩
   refine TL.on rfl rfl rfl rfl (beq_eq_false_iff_ne.2 c9) ?_
   refine aA rfl rfl ?_
   refine TL.on rfl rfl rfl rfl (beq_eq_false_iff_ne.2 c9) ?_
   obtain ⟨x10, hx10, ht1⟩ := bS ht1
   refine TL.op1 (OpR.call0 fn17 (ref22_Types_c hx10) rfl) rfl ?_
   refine TL.op1 (OpR.pickF rfl (beq_eq_false_iff_ne.2 c9) rfl) rfl ?_
   refine aA rfl rfl ?_
   refine TL.nil ?_
   obtain rfl := Option.some.inj ht1
   exact ⟨_, Gst.only [2] rfl, rfl⟩
 refine TL.on rfl rfl rfl rfl (decide_eq_true c2) ?_
 refine aA rfl rfl ?_
 refine TL.on rfl rfl rfl rfl (decide_eq_true c2) ?_
 refine aA rfl rfl ?_
 refine TL.op1 (OpR.pickT rfl (decide_eq_true c2) rfl) rfl ?_
 refine aA rfl rfl ?_
 rcases ite_some ht1 with ⟨c3, ht1⟩ | ⟨c3, ht1⟩
 rotate_left
 · refine TL.off rfl rfl rfl rfl (decide_eq_false c3) rfl rfl ?_
   refine TL.off rfl rfl rfl rfl (decide_eq_false c3) rfl rfl ?_
   refine TL.op1 (OpR.pickF rfl (decide_eq_false c3) rfl) rfl ?_
   refine aA rfl rfl ?_
   refine TL.on rfl rfl rfl rfl rfl ?_
   refine aA rfl rfl ?_
   refine TL.on rfl rfl rfl rfl rfl ?_
   refine aA rfl rfl ?_
   refine TL.op1 (OpR.pickF rfl rfl rfl) rfl ?_
   refine aA rfl rfl ?_
   rcases ite_some ht1 with ⟨c7, ht1⟩ | ⟨c7, ht1⟩
   · refine TL.off rfl rfl rfl rfl (beq_iff_eq.2 c7) rfl rfl ?_
     refine TL.off rfl rfl rfl rfl (beq_iff_eq.2 c7) rfl rfl ?_
     refine TL.op1 (OpR.pickT rfl (beq_iff_eq.2 c7) rfl) rfl ?_
     refine aA rfl rfl ?_
     refine TL.nil ?_
     obtain rfl := Option.some.inj ht1
     exact ⟨_, Gst.only [2] rfl, rfl⟩
   refine TL.on rfl rfl rfl rfl (beq_eq_false_iff_ne.2 c7) ?_
   refine aA rfl rfl ?_
   refine TL.on rfl rfl rfl rfl (beq_eq_false_iff_ne.2 c7) ?_
   obtain ⟨x8, hx8, ht1⟩ := bS ht1
   refine TL.op1 (OpR.call0 fn17 (ref22_Types_c hx8) rfl) rfl ?_
   refine TL.op1 (OpR.pickF rfl (beq_eq_false_iff_ne.2 c7) rfl) rfl ?_
   refine aA rfl rfl ?_
   refine TL.nil ?_
   obtain rfl := Option.some.inj ht1
   exact ⟨_, Gst.only [2] rfl, rfl⟩
 refine TL.on rfl rfl rfl rfl (decide_eq_true c3) ?_
 refine aA rfl rfl ?_
 refine TL.on rfl rfl rfl rfl (decide_eq_true c3) ?_
 refine aA rfl rfl ?_
 refine TL.op1 (OpR.pickT rfl (decide_eq_true c3) rfl) rfl ?_
 refine aA rfl rfl ?_
 rcases ite_some ht1 with ⟨c4, ht1⟩ | ⟨c4, ht1⟩
 rotate_left
 · refine TL.off rfl rfl rfl rfl (not_f (beq_eq_false_iff_ne.2 c4)) rfl rfl ?_
   refine TL.off rfl rfl rfl rfl (not_f (beq_eq_false_iff_ne.2 c4)) rfl rfl ?_
   refine TL.op1 (OpR.pickT rfl (not_f (beq_eq_false_iff_ne.2 c4)) rfl) rfl ?_
   refine aA rfl rfl ?_
   refine TL.off rfl rfl rfl rfl rfl rfl rfl ?_
   refine TL.off rfl rfl rfl rfl rfl rfl rfl ?_
   refine TL.op1 (OpR.pickT rfl rfl rfl) rfl ?_
   refine aA rfl rfl ?_
   refine TL.nil ?_
   obtain rfl := Option.some.inj ht1
   exact ⟨_, Gst.only [2] rfl, rfl⟩
 refine TL.on rfl rfl rfl rfl (not_t (beq_iff_eq.2 c4)) ?_
 refine aA rfl rfl ?_
 refine TL.on rfl rfl rfl rfl (not_t (beq_iff_eq.2 c4)) ?_
 refine aA rfl rfl ?_
 refine TL.op1 (OpR.pickF rfl (not_t (beq_iff_eq.2 c4)) rfl) rfl ?_
 refine aA rfl rfl ?_
 rcases ite_some ht1 with ⟨c5, ht1⟩ | ⟨c5, ht1⟩
 · refine TL.off rfl rfl rfl rfl (beq_iff_eq.2 c5) rfl rfl ?_
   refine TL.off rfl rfl rfl rfl (beq_iff_eq.2 c5) rfl rfl ?_
   refine TL.op1 (OpR.pickT rfl (beq_iff_eq.2 c5) rfl) rfl ?_
   refine aA rfl rfl ?_
   refine TL.nil ?_
   obtain rfl := Option.some.inj ht1
   exact ⟨_, Gst.only [2] rfl, rfl⟩
 refine TL.on rfl rfl rfl rfl (beq_eq_false_iff_ne.2 c5) ?_
 refine aA rfl rfl ?_
 refine TL.on rfl rfl rfl rfl (beq_eq_false_iff_ne.2 c5) ?_
 obtain ⟨x6, hx6, ht1⟩ := bS ht1
 refine TL.op1 (OpR.call0 fn17 (ref22_Types_c hx6) rfl) rfl ?_
 refine TL.op1 (OpR.pickF rfl (beq_eq_false_iff_ne.2 c5) rfl) rfl ?_
 refine aA rfl rfl ?_
 refine TL.nil ?_
 obtain rfl := Option.some.inj ht1
 exact ⟨_, Gst.only [2] rfl, rfl⟩
noncomputable def ref22_Text (a0 : Int) : Option (List UInt8) :=
  bnd (ref22_Is a0) fun x1 =>
  if x1 = true then
    if a0 < 0 then
      bnd (idx [[60, 76, 101, 102, 116, 62], [60, 82, 105, 103, 104, 116, 62], [60, 85, 112, 62], [60, 68, 111, 119, 110, 62], [60, 72, 111, 109, 101, 62], [60, 69, 110, 100, 62]] (w64 ((-1) - a0))) fun x4 =>
      some x4
    else
      if a0 = 60 then
        some [60, 108, 116, 62]
      else
        if a0 = 8 then
          some [60, 66, 83, 62]
        else
          if a0 = 9 then
            some [60, 84, 97, 98, 62]
          else
            if a0 = 13 then
              some [60, 67, 82, 62]
            else
              if a0 = 27 then
                some [60, 69, 115, 99, 62]
              else
                if a0 = 127 then
                  some [60, 68, 101, 108, 62]
                else
                  if a0 < 27 then
                    bnd (catS [60, 67, 45] [ub (w64 (96 + a0))]) fun x12 =>
                    bnd (catS x12 [62]) fun x13 =>
                    some x13
                  else
                    bnd (ref01_Put a0) fun x14 =>
                    some x14
  else
    some []
theorem ref22_Text_c {a0 : Int} {res : (List UInt8)} (h0 : ref22_Text a0 = some res) : CallF X 19 [dN a0] [] (fun x => .val (.string (bs res))) (fun x => []) := by
 unfold ref22_Text at h0
 refine CallF.mkG (X := X) rfl Tryd.func19 rfl rfl Tryd.ntmps19 rfl rfl ?_
 refine aS ?_
 refine aA rfl rfl ?_
 refine aN rfl ?_
 refine T.seq ?_
 refine aS ?_
 refine aA rfl rfl ?_
 obtain ⟨x1, hx1, h0⟩ := bS h0
 refine TL.op1 (OpR.call0 fn13 (ref22_Is_c hx1) rfl) rfl ?_
 refine aA rfl rfl ?_
 refine aN rfl ?_
 rcases ite_some h0 with ⟨c2, h0⟩ | ⟨c2, h0⟩
 rotate_left
 · refine T.condT rfl (not_f (eq_false_of_ne_true c2)) ?_
   refine aS ?_
   refine aA rfl rfl ?_
   refine aN rfl ?_
   refine T.ret ?_
   obtain rfl := Option.some.inj h0
   exact rO [] [2] rfl undef (cT rfl ResL.nil) rfl rfl rfl rfl
 refine T.condF rfl (not_t (c2)) ?_
 refine aK rfl ?_
 refine T.seq ?_
 refine aS ?_
 iterate 2 refine aA rfl rfl ?_
 refine aN rfl ?_
 rcases ite_some h0 with ⟨c3, h0⟩ | ⟨c3, h0⟩
 · refine T.condT rfl (decide_eq_true c3) ?_
   refine aS ?_
   refine TL.op1 (OpR.lit rfl rfl rfl rfl rfl rfl rfl) rfl ?_
   refine aA rfl rfl ?_
   refine aN rfl ?_
   refine aS ?_
   iterate 3 refine aA rfl rfl ?_
   obtain ⟨x4, hx4, h0⟩ := bS h0
   refine TL.op1 (OpR.indexM eS hx4 rfl rfl rfl rfl rfl) rfl ?_
   iterate 2 refine aA rfl rfl ?_
   refine aN rfl ?_
   refine T.ret ?_
   obtain rfl := Option.some.inj h0
   exact rO [] [2] rfl undef (cT rfl ResL.nil) rfl rfl rfl rfl
 refine T.condF rfl (decide_eq_false c3) ?_
 refine aK rfl ?_
 refine T.seq ?_
 refine aS ?_
 iterate 2 refine aA rfl rfl ?_
 refine aN rfl ?_
 rcases ite_some h0 with ⟨c5, h0⟩ | ⟨c5, h0⟩
 · refine T.condT rfl (beq_iff_eq.2 c5) ?_
   refine aS ?_
   refine aA rfl rfl ?_
   refine aN rfl ?_
   refine T.ret ?_
   obtain rfl := Option.some.inj h0
   exact rO [] [2] rfl undef (cT rfl ResL.nil) rfl rfl rfl rfl
 refine T.condF rfl (beq_eq_false_iff_ne.2 c5) ?_
 refine aK rfl ?_
 refine T.seq ?_
 refine aS ?_
 iterate 2 refine aA rfl rfl ?_
 refine aN rfl ?_
 rcases ite_some h0 with ⟨c6, h0⟩ | ⟨c6, h0⟩
 · refine T.condT rfl (beq_iff_eq.2 c6) ?_
   refine aS ?_
   refine aA rfl rfl ?_
   refine aN rfl ?_
   refine T.ret ?_
   obtain rfl := Option.some.inj h0
   exact rO [] [2] rfl undef (cT rfl ResL.nil) rfl rfl rfl rfl
 refine T.condF rfl (beq_eq_false_iff_ne.2 c6) ?_
 refine aK rfl ?_
 refine T.seq ?_
 refine aS ?_
 iterate 2 refine aA rfl rfl ?_
 refine aN rfl ?_
 rcases ite_some h0 with ⟨c7, h0⟩ | ⟨c7, h0⟩
 · refine T.condT rfl (beq_iff_eq.2 c7) ?_
   refine aS ?_
   refine aA rfl rfl ?_
   refine aN rfl ?_
   refine T.ret ?_
   obtain rfl := Option.some.inj h0
   exact rO [] [2] rfl undef (cT rfl ResL.nil) rfl rfl rfl rfl
 refine T.condF rfl (beq_eq_false_iff_ne.2 c7) ?_
 refine aK rfl ?_
 refine T.seq ?_
 refine aS ?_
 iterate 2 refine aA rfl rfl ?_
 refine aN rfl ?_
 rcases ite_some h0 with ⟨c8, h0⟩ | ⟨c8, h0⟩
 · refine T.condT rfl (beq_iff_eq.2 c8) ?_
   refine aS ?_
   refine aA rfl rfl ?_
   refine aN rfl ?_
   refine T.ret ?_
   obtain rfl := Option.some.inj h0
   exact rO [] [2] rfl undef (cT rfl ResL.nil) rfl rfl rfl rfl
 refine T.condF rfl (beq_eq_false_iff_ne.2 c8) ?_
 refine aK rfl ?_
 refine T.seq ?_
 refine aS ?_
 iterate 2 refine aA rfl rfl ?_
 refine aN rfl ?_
 rcases ite_some h0 with ⟨c9, h0⟩ | ⟨c9, h0⟩
 · refine T.condT rfl (beq_iff_eq.2 c9) ?_
   refine aS ?_
   refine aA rfl rfl ?_
   refine aN rfl ?_
   refine T.ret ?_
   obtain rfl := Option.some.inj h0
   exact rO [] [2] rfl undef (cT rfl ResL.nil) rfl rfl rfl rfl
 refine T.condF rfl (beq_eq_false_iff_ne.2 c9) ?_
 refine aK rfl ?_
 refine T.seq ?_
 refine aS ?_
 iterate 2 refine aA rfl rfl ?_
 refine aN rfl ?_
 rcases ite_some h0 with ⟨c10, h0⟩ | ⟨c10, h0⟩
 · refine T.condT rfl (beq_iff_eq.2 c10) ?_
   refine aS ?_
   refine aA rfl rfl ?_
   refine aN rfl ?_
   refine T.ret ?_
   obtain rfl := Option.some.inj h0
   exact rO [] [2] rfl undef (cT rfl ResL.nil) rfl rfl rfl rfl
 refine T.condF rfl (beq_eq_false_iff_ne.2 c10) ?_
 refine aK rfl ?_
 refine T.seq ?_
 refine aS ?_
 iterate 2 refine aA rfl rfl ?_
 refine aN rfl ?_
 rcases ite_some h0 with ⟨c11, h0⟩ | ⟨c11, h0⟩
 rotate_left
 · refine T.condF rfl (decide_eq_false c11) ?_
   refine aK rfl ?_
   refine aS ?_
   refine aA rfl rfl ?_
   obtain ⟨x14, hx14, h0⟩ := bS h0
   refine TL.op1 (OpR.call0 fn28 (ref01_Put_c hx14) rfl) rfl ?_
   refine aA rfl rfl ?_
   refine aN rfl ?_
   refine T.ret ?_
   obtain rfl := Option.some.inj h0
   exact rO [] [2] rfl undef (cT rfl ResL.nil) rfl rfl rfl rfl
 refine T.condT rfl (decide_eq_true c11) ?_
 refine aS ?_
 iterate 2 refine aA rfl rfl ?_
 refine TL.op1 (OpR.cast (OpR.pure rfl) (intE (ub_wrap _))) rfl ?_
 refine TL.op1 (OpR.lit rfl rfl rfl rfl rfl rfl rfl) rfl ?_
 refine TL.op1 (OpR.toStr (bs := [ub (w64 (96 + a0))]) rfl rfl rfl rfl rfl rfl rfl) rfl ?_
 obtain ⟨x12, hx12, h0⟩ := bS h0
 refine TL.op1 (OpR.concatM hx12 rfl rfl) rfl ?_
 obtain ⟨x13, hx13, h0⟩ := bS h0
 refine TL.op1 (OpR.concatM hx13 rfl rfl) rfl ?_
 refine aA rfl rfl ?_
 refine aN rfl ?_
 refine T.ret ?_
 obtain rfl := Option.some.inj h0
 exact rO [] [2] rfl undef (cT rfl ResL.nil) rfl rfl rfl rfl
end Go.Proofs.YtlginjmkmfodmaaDoor.S
