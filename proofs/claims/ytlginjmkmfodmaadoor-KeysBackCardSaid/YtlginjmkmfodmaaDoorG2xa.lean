/- Printed by a program of this session's own (gen.py): Lean functions for Go functions, and the proofs that the Go code comes to their answers. -/
import Derived.Test.YtlginjmkmfodmaaDoorG1xa
import Derived.Test.YtlginjmkmfodmaaDoorG3xa
set_option maxHeartbeats 4000000
set_option linter.unusedVariables false
set_option linter.unusedSimpArgs false
set_option maxRecDepth 20000
namespace Go.Proofs.YtlginjmkmfodmaaDoor.S
open Go Go.Sm
attribute [local irreducible] T TL OpR CallT iter loop
noncomputable def keys_Is (a0 : Int) : Option Bool :=
  bnd (if a0 ≥ (-6) then
    some (decide (a0 ≤ (-1)))
  else
    some false : Option Bool) fun t1 =>
  bnd (if t1 = true then
    some t1
  else
    if a0 ≥ 1 then
      some (decide (a0 ≤ 26))
    else
      some false : Option Bool) fun t3 =>
  if t3 = true then
    some true
  else
    bnd (if a0 = 27 then
      some true
    else
      if a0 = 127 then
        some true
      else
        bnd (keys_Types a0) fun x10 =>
        some x10 : Option Bool) fun t7 =>
    some t7
theorem keys_Is_c {a0 : Int} {res : Bool} (h0 : keys_Is a0 = some res) : CallF X 15 [dN a0] [] (fun x => (dT res)) (fun x => []) := by
 unfold keys_Is at h0
 refine CallF.mkG (X := X) rfl Tryd.func15 rfl rfl Tryd.ntmps15 rfl rfl ?_
 refine aS ?_
 refine aA rfl rfl ?_
 refine aN rfl ?_
 refine T.seq ?_
 refine T.block ?_
 refine T.seq ?_
 refine T.seq ?_
 obtain ⟨t1, ht1, h0⟩ := bS h0
 refine T.cutC (fun S' => S' = ⟨[(3, (dT t1)), (2, (dT false)), (0, (dN a0))], [], 26⟩) (fun _ h => h) ?_ ?_
 · refine T.region ?_
   iterate 3 refine aA rfl rfl ?_
   rcases ite_some ht1 with ⟨c2, ht1⟩ | ⟨c2, ht1⟩
   rotate_left
   · refine TL.off rfl rfl rfl rfl (decide_eq_false c2) rfl rfl ?_
     refine TL.off rfl rfl rfl rfl (decide_eq_false c2) rfl rfl ?_
     refine TL.op1 (OpR.pickF rfl (decide_eq_false c2) rfl) rfl ?_
     refine aA rfl rfl ?_
     refine TL.nil ?_
     obtain rfl := Option.some.inj ht1
     exact ⟨_, Gst.only [0, 2, 3] rfl, rfl⟩
   refine TL.on rfl rfl rfl rfl (decide_eq_true c2) ?_
   refine aA rfl rfl ?_
   refine TL.on rfl rfl rfl rfl (decide_eq_true c2) ?_
   refine aA rfl rfl ?_
   refine TL.op1 (OpR.pickT rfl (decide_eq_true c2) rfl) rfl ?_
   refine aA rfl rfl ?_
   refine TL.nil ?_
   obtain rfl := Option.some.inj ht1
   exact ⟨_, Gst.only [0, 2, 3] rfl, rfl⟩
 rintro _ rfl
 show T X _ _ _
 obtain ⟨t3, ht3, h0⟩ := bS h0
 refine T.cutC (fun S' => S' = ⟨[(3, (dT t3)), (2, (dT false)), (0, (dN a0))], [], 26⟩) (fun _ h => h) ?_ ?_
 · rcases ite_some ht3 with ⟨c4, ht3⟩ | ⟨c4, ht3⟩
   · refine T.condT rfl (c4) ?_
     refine T.skip ?_
     obtain rfl := Option.some.inj ht3
     exact ⟨_, Gst.only [0, 2, 3] rfl, rfl⟩
   refine T.condF rfl (eq_false_of_ne_true c4) ?_
   refine T.region ?_
   iterate 3 refine aA rfl rfl ?_
   rcases ite_some ht3 with ⟨c5, ht3⟩ | ⟨c5, ht3⟩
   rotate_left
   · refine TL.off rfl rfl rfl rfl (decide_eq_false c5) rfl rfl ?_
     refine TL.off rfl rfl rfl rfl (decide_eq_false c5) rfl rfl ?_
     refine TL.op1 (OpR.pickF rfl (decide_eq_false c5) rfl) rfl ?_
     refine aA rfl rfl ?_
     refine TL.nil ?_
     obtain rfl := Option.some.inj ht3
     exact ⟨_, Gst.only [0, 2, 3] rfl, rfl⟩
   refine TL.on rfl rfl rfl rfl (decide_eq_true c5) ?_
   refine aA rfl rfl ?_
   refine TL.on rfl rfl rfl rfl (decide_eq_true c5) ?_
   refine aA rfl rfl ?_
   refine TL.op1 (OpR.pickT rfl (decide_eq_true c5) rfl) rfl ?_
   refine aA rfl rfl ?_
   refine TL.nil ?_
   obtain rfl := Option.some.inj ht3
   exact ⟨_, Gst.only [0, 2, 3] rfl, rfl⟩
 rintro _ rfl
 show T X _ _ _
 rcases ite_some h0 with ⟨c6, h0⟩ | ⟨c6, h0⟩
 · refine T.condT rfl (c6) ?_
   refine aS ?_
   refine aA rfl rfl ?_
   refine aN rfl ?_
   refine T.ret ?_
   obtain rfl := Option.some.inj h0
   exact rO [] [2] rfl undef (cT rfl ResL.nil) rfl rfl rfl rfl
 refine T.condF rfl (eq_false_of_ne_true c6) ?_
 refine aK rfl ?_
 refine T.seq ?_
 obtain ⟨t7, ht7, h0⟩ := bS h0
 refine T.cutC (fun S' => S' = ⟨[(2, (dT t7))], [], 26⟩) (fun _ h => h) ?_ ?_
 rotate_left
 · rintro _ rfl
   show T X _ _ _
   refine T.ret ?_
   obtain rfl := Option.some.inj h0
   exact rO [] [2] rfl undef (cT rfl ResL.nil) rfl rfl rfl rfl
 refine T.region ?_
 iterate 3 refine aA rfl rfl ?_
 rcases ite_some ht7 with ⟨c8, ht7⟩ | ⟨c8, ht7⟩
 · refine TL.off rfl rfl rfl rfl (beq_iff_eq.2 c8) rfl rfl ?_
   refine TL.off rfl rfl rfl rfl (beq_iff_eq.2 c8) rfl rfl ?_
   refine TL.op1 (OpR.pickT rfl (beq_iff_eq.2 c8) rfl) rfl ?_
   refine aA rfl rfl ?_
   refine TL.off rfl rfl rfl rfl rfl rfl rfl ?_
   refine TL.off rfl rfl rfl rfl rfl rfl rfl ?_
   refine TL.op1 (OpR.pickT rfl rfl rfl) rfl ?_
   refine aA rfl rfl ?_
   refine TL.nil ?_
   obtain rfl := Option.some.inj ht7
   exact ⟨_, Gst.only [2] rfl, rfl⟩
 refine TL.on rfl rfl rfl rfl (beq_eq_false_iff_ne.2 c8) ?_
 refine aA rfl rfl ?_
 refine TL.on rfl rfl rfl rfl (beq_eq_false_iff_ne.2 c8) ?_
 refine aA rfl rfl ?_
 refine TL.op1 (OpR.pickF rfl (beq_eq_false_iff_ne.2 c8) rfl) rfl ?_
 refine aA rfl rfl ?_
 rcases ite_some ht7 with ⟨c9, ht7⟩ | ⟨c9, ht7⟩
 · refine TL.off rfl rfl rfl rfl (beq_iff_eq.2 c9) rfl rfl ?_
   refine TL.off rfl rfl rfl rfl (beq_iff_eq.2 c9) rfl rfl ?_
   refine TL.op1 (OpR.pickT rfl (beq_iff_eq.2 c9) rfl) rfl ?_
   refine aA rfl rfl ?_
   refine TL.nil ?_
   obtain rfl := Option.some.inj ht7
   exact ⟨_, Gst.only [2] rfl, rfl⟩
 refine TL.on rfl rfl rfl rfl (beq_eq_false_iff_ne.2 c9) ?_
 refine aA rfl rfl ?_
 refine TL.on rfl rfl rfl rfl (beq_eq_false_iff_ne.2 c9) ?_
 obtain ⟨x10, hx10, ht7⟩ := bS ht7
 refine TL.op1 (OpR.call0 fn16 (keys_Types_c hx10) rfl) rfl ?_
 refine TL.op1 (OpR.pickF rfl (beq_eq_false_iff_ne.2 c9) rfl) rfl ?_
 refine aA rfl rfl ?_
 refine TL.nil ?_
 obtain rfl := Option.some.inj ht7
 exact ⟨_, Gst.only [2] rfl, rfl⟩
noncomputable def ref22_Ctrl (a0 : UInt8) : Option Int :=
  bnd (if (a0.toNat : Int) < 97 then
    some true
  else
    some (decide ((a0.toNat : Int) > 122)) : Option Bool) fun t1 =>
  if t1 = true then
    some 0
  else
    some (w64 ((a0.toNat : Int) - 96))
theorem ref22_Ctrl_c {a0 : UInt8} {res : Int} (h0 : ref22_Ctrl a0 = some res) : CallF X 21 [.val (.int .u8 (a0.toNat : Int))] [] (fun x => (dN res)) (fun x => []) := by
 unfold ref22_Ctrl at h0
 refine CallF.mkG (X := X) rfl Tryd.func21 rfl rfl Tryd.ntmps21 rfl rfl ?_
 refine aS ?_
 refine aA rfl rfl ?_
 refine aN rfl ?_
 refine T.seq ?_
 refine T.seq ?_
 obtain ⟨t1, ht1, h0⟩ := bS h0
 refine T.cutC (fun S' => S' = ⟨[(8, (dT t1)), (2, (dN 0)), (0, .val (.int .u8 (a0.toNat : Int)))], [], 12⟩) (fun _ h => h) ?_ ?_
 · refine T.region ?_
   iterate 3 refine aA rfl rfl ?_
   rcases ite_some ht1 with ⟨c2, ht1⟩ | ⟨c2, ht1⟩
   · refine TL.off rfl rfl rfl rfl (decide_eq_true c2) rfl rfl ?_
     refine TL.off rfl rfl rfl rfl (decide_eq_true c2) rfl rfl ?_
     refine TL.op1 (OpR.pickT rfl (decide_eq_true c2) rfl) rfl ?_
     refine TL.nil ?_
     obtain rfl := Option.some.inj ht1
     exact ⟨_, Gst.only [0, 2, 8] rfl, rfl⟩
   refine TL.on rfl rfl rfl rfl (decide_eq_false c2) ?_
   refine aA rfl rfl ?_
   refine TL.on rfl rfl rfl rfl (decide_eq_false c2) ?_
   refine aA rfl rfl ?_
   refine TL.op1 (OpR.pickF rfl (decide_eq_false c2) rfl) rfl ?_
   refine TL.nil ?_
   obtain rfl := Option.some.inj ht1
   exact ⟨_, Gst.only [0, 2, 8] rfl, rfl⟩
 rintro _ rfl
 show T X _ _ _
 rcases ite_some h0 with ⟨c3, h0⟩ | ⟨c3, h0⟩
 · refine T.condT rfl (c3) ?_
   refine aS ?_
   refine aA rfl rfl ?_
   refine aN rfl ?_
   refine T.ret ?_
   obtain rfl := Option.some.inj h0
   exact rO [] [2] rfl undef (cT rfl ResL.nil) rfl rfl rfl rfl
 refine T.condF rfl (eq_false_of_ne_true c3) ?_
 refine aK rfl ?_
 refine aS ?_
 refine aA rfl rfl ?_
 refine TL.op1 (OpR.cast (OpR.pure rfl) (intE (w64_u8 _))) rfl ?_
 iterate 2 refine aA rfl rfl ?_
 refine aN rfl ?_
 refine T.ret ?_
 obtain rfl := Option.some.inj h0
 exact rO [] [2] rfl undef (cT rfl ResL.nil) rfl rfl rfl rfl
noncomputable def law22_KeysTell (a0 : Int) (a1 : UInt8) : Option Bool :=
  bnd (bnd (keys_Is a0) fun x2 =>
  bnd (ref22_Is a0) fun x3 =>
  if (x2 == x3) = true then
    bnd (keys_Types a0) fun x5 =>
    bnd (ref22_Types a0) fun x6 =>
    if (x5 == x6) = true then
      bnd (keys_Text a0) fun x8 =>
      bnd (ref22_Text a0) fun x9 =>
      if x8 = x9 then
        bnd (keys_Ctrl a1) fun x11 =>
        bnd (ref22_Ctrl a1) fun x12 =>
        if x11 = x12 then
          bnd (law22_awake) fun x14 =>
          some x14
        else
          some false
      else
        some false
    else
      some false
  else
    some false : Option Bool) fun t1 =>
  some t1
theorem law22_KeysTell_c {a0 : Int} {a1 : UInt8} {res : Bool} (h0 : law22_KeysTell a0 a1 = some res) : CallF X 6 [dN a0, .val (.int .u8 (a1.toNat : Int))] [] (fun x => (dT res)) (fun x => []) := by
 unfold law22_KeysTell at h0
 refine CallF.mkG (X := X) rfl Tryd.func6 rfl rfl Tryd.ntmps6 rfl rfl ?_
 refine aS ?_
 refine aA rfl rfl ?_
 refine aN rfl ?_
 refine T.seq ?_
 obtain ⟨t1, ht1, h0⟩ := bS h0
 refine T.cutC (fun S' => S' = ⟨[(4, (dT t1))], [], 34⟩) (fun _ h => h) ?_ ?_
 rotate_left
 · rintro _ rfl
   show T X _ _ _
   refine T.ret ?_
   obtain rfl := Option.some.inj h0
   exact rO [] [4] rfl undef (cT rfl ResL.nil) rfl rfl rfl rfl
 refine T.region ?_
 refine aA rfl rfl ?_
 obtain ⟨x2, hx2, ht1⟩ := bS ht1
 refine TL.op1 (OpR.call0 fn15 (keys_Is_c hx2) rfl) rfl ?_
 refine aA rfl rfl ?_
 obtain ⟨x3, hx3, ht1⟩ := bS ht1
 refine TL.op1 (OpR.call0 fn13 (ref22_Is_c hx3) rfl) rfl ?_
 refine TL.op1 (OpR.eqBool rfl rfl rfl rfl) rfl ?_
 refine aA rfl rfl ?_
 rcases ite_some ht1 with ⟨c4, ht1⟩ | ⟨c4, ht1⟩
 rotate_left
 · refine TL.off rfl rfl rfl rfl (eq_false_of_ne_true c4) rfl rfl ?_
   refine TL.off rfl rfl rfl rfl (eq_false_of_ne_true c4) rfl rfl ?_
   refine TL.off rfl rfl rfl rfl (eq_false_of_ne_true c4) rfl rfl ?_
   refine TL.off rfl rfl rfl rfl (eq_false_of_ne_true c4) rfl rfl ?_
   refine TL.off rfl rfl rfl rfl (eq_false_of_ne_true c4) rfl rfl ?_
   refine TL.op1 (OpR.pickF rfl (eq_false_of_ne_true c4) rfl) rfl ?_
   refine aA rfl rfl ?_
   refine TL.off rfl rfl rfl rfl rfl rfl rfl ?_
   refine TL.off rfl rfl rfl rfl rfl rfl rfl ?_
   refine TL.off rfl rfl rfl rfl rfl rfl rfl ?_
   refine TL.off rfl rfl rfl rfl rfl rfl rfl ?_
   refine TL.off rfl rfl rfl rfl rfl rfl rfl ?_
   refine TL.op1 (OpR.pickF rfl rfl rfl) rfl ?_
   refine aA rfl rfl ?_
   refine TL.off rfl rfl rfl rfl rfl rfl rfl ?_
   refine TL.off rfl rfl rfl rfl rfl rfl rfl ?_
   refine TL.off rfl rfl rfl rfl rfl rfl rfl ?_
   refine TL.off rfl rfl rfl rfl rfl rfl rfl ?_
   refine TL.off rfl rfl rfl rfl rfl rfl rfl ?_
   refine TL.op1 (OpR.pickF rfl rfl rfl) rfl ?_
   refine aA rfl rfl ?_
   refine TL.off rfl rfl rfl rfl rfl rfl rfl ?_
   refine TL.op1 (OpR.pickF rfl rfl rfl) rfl ?_
   refine aA rfl rfl ?_
   refine TL.nil ?_
   obtain rfl := Option.some.inj ht1
   exact ⟨_, Gst.only [4] rfl, rfl⟩
 refine TL.on rfl rfl rfl rfl (c4) ?_
 refine aA rfl rfl ?_
 refine TL.on rfl rfl rfl rfl (c4) ?_
 obtain ⟨x5, hx5, ht1⟩ := bS ht1
 refine TL.op1 (OpR.call0 fn16 (keys_Types_c hx5) rfl) rfl ?_
 refine TL.on rfl rfl rfl rfl (c4) ?_
 refine aA rfl rfl ?_
 refine TL.on rfl rfl rfl rfl (c4) ?_
 obtain ⟨x6, hx6, ht1⟩ := bS ht1
 refine TL.op1 (OpR.call0 fn17 (ref22_Types_c hx6) rfl) rfl ?_
 refine TL.on rfl rfl rfl rfl (c4) ?_
 refine TL.op1 (OpR.eqBool rfl rfl rfl rfl) rfl ?_
 refine TL.op1 (OpR.pickT rfl (c4) rfl) rfl ?_
 refine aA rfl rfl ?_
 rcases ite_some ht1 with ⟨c7, ht1⟩ | ⟨c7, ht1⟩
 rotate_left
 · refine TL.off rfl rfl rfl rfl (eq_false_of_ne_true c7) rfl rfl ?_
   refine TL.off rfl rfl rfl rfl (eq_false_of_ne_true c7) rfl rfl ?_
   refine TL.off rfl rfl rfl rfl (eq_false_of_ne_true c7) rfl rfl ?_
   refine TL.off rfl rfl rfl rfl (eq_false_of_ne_true c7) rfl rfl ?_
   refine TL.off rfl rfl rfl rfl (eq_false_of_ne_true c7) rfl rfl ?_
   refine TL.op1 (OpR.pickF rfl (eq_false_of_ne_true c7) rfl) rfl ?_
   refine aA rfl rfl ?_
   refine TL.off rfl rfl rfl rfl rfl rfl rfl ?_
   refine TL.off rfl rfl rfl rfl rfl rfl rfl ?_
   refine TL.off rfl rfl rfl rfl rfl rfl rfl ?_
   refine TL.off rfl rfl rfl rfl rfl rfl rfl ?_
   refine TL.off rfl rfl rfl rfl rfl rfl rfl ?_
   refine TL.op1 (OpR.pickF rfl rfl rfl) rfl ?_
   refine aA rfl rfl ?_
   refine TL.off rfl rfl rfl rfl rfl rfl rfl ?_
   refine TL.op1 (OpR.pickF rfl rfl rfl) rfl ?_
   refine aA rfl rfl ?_
   refine TL.nil ?_
   obtain rfl := Option.some.inj ht1
   exact ⟨_, Gst.only [4] rfl, rfl⟩
 refine TL.on rfl rfl rfl rfl (c7) ?_
 refine aA rfl rfl ?_
 refine TL.on rfl rfl rfl rfl (c7) ?_
 obtain ⟨x8, hx8, ht1⟩ := bS ht1
 refine TL.op1 (OpR.call0 fn18 (keys_Text_c hx8) rfl) rfl ?_
 refine TL.on rfl rfl rfl rfl (c7) ?_
 refine aA rfl rfl ?_
 refine TL.on rfl rfl rfl rfl (c7) ?_
 obtain ⟨x9, hx9, ht1⟩ := bS ht1
 refine TL.op1 (OpR.call0 fn19 (ref22_Text_c hx9) rfl) rfl ?_
 refine TL.on rfl rfl rfl rfl (c7) ?_
 refine TL.op1 (OpR.cast (OpR.pure rfl) (boolE (strEq _ _))) rfl ?_
 refine TL.op1 (OpR.pickT rfl (c7) rfl) rfl ?_
 refine aA rfl rfl ?_
 rcases ite_some ht1 with ⟨c10, ht1⟩ | ⟨c10, ht1⟩
 rotate_left
 · refine TL.off rfl rfl rfl rfl (beq_eq_false_iff_ne.2 c10) rfl rfl ?_
   refine TL.off rfl rfl rfl rfl (beq_eq_false_iff_ne.2 c10) rfl rfl ?_
   refine TL.off rfl rfl rfl rfl (beq_eq_false_iff_ne.2 c10) rfl rfl ?_
   refine TL.off rfl rfl rfl rfl (beq_eq_false_iff_ne.2 c10) rfl rfl ?_
   refine TL.off rfl rfl rfl rfl (beq_eq_false_iff_ne.2 c10) rfl rfl ?_
   refine TL.op1 (OpR.pickF rfl (beq_eq_false_iff_ne.2 c10) rfl) rfl ?_
   refine aA rfl rfl ?_
   refine TL.off rfl rfl rfl rfl rfl rfl rfl ?_
   refine TL.op1 (OpR.pickF rfl rfl rfl) rfl ?_
   refine aA rfl rfl ?_
   refine TL.nil ?_
   obtain rfl := Option.some.inj ht1
   exact ⟨_, Gst.only [4] rfl, rfl⟩
 refine TL.on rfl rfl rfl rfl (beq_iff_eq.2 c10) ?_
 refine aA rfl rfl ?_
 refine TL.on rfl rfl rfl rfl (beq_iff_eq.2 c10) ?_
 obtain ⟨x11, hx11, ht1⟩ := bS ht1
 refine TL.op1 (OpR.call0 fn20 (keys_Ctrl_c hx11) rfl) rfl ?_
 refine TL.on rfl rfl rfl rfl (beq_iff_eq.2 c10) ?_
 refine aA rfl rfl ?_
 refine TL.on rfl rfl rfl rfl (beq_iff_eq.2 c10) ?_
 obtain ⟨x12, hx12, ht1⟩ := bS ht1
 refine TL.op1 (OpR.call0 fn21 (ref22_Ctrl_c hx12) rfl) rfl ?_
 refine TL.on rfl rfl rfl rfl (beq_iff_eq.2 c10) ?_
 refine aA rfl rfl ?_
 refine TL.op1 (OpR.pickT rfl (beq_iff_eq.2 c10) rfl) rfl ?_
 refine aA rfl rfl ?_
 rcases ite_some ht1 with ⟨c13, ht1⟩ | ⟨c13, ht1⟩
 rotate_left
 · refine TL.off rfl rfl rfl rfl (beq_eq_false_iff_ne.2 c13) rfl rfl ?_
   refine TL.op1 (OpR.pickF rfl (beq_eq_false_iff_ne.2 c13) rfl) rfl ?_
   refine aA rfl rfl ?_
   refine TL.nil ?_
   obtain rfl := Option.some.inj ht1
   exact ⟨_, Gst.only [4] rfl, rfl⟩
 refine TL.on rfl rfl rfl rfl (beq_iff_eq.2 c13) ?_
 obtain ⟨x14, hx14, ht1⟩ := bS ht1
 refine TL.op1 (OpR.call0 fn12 (law22_awake_c hx14) rfl) rfl ?_
 refine TL.op1 (OpR.pickT rfl (beq_iff_eq.2 c13) rfl) rfl ?_
 refine aA rfl rfl ?_
 refine TL.nil ?_
 obtain rfl := Option.some.inj ht1
 exact ⟨_, Gst.only [4] rfl, rfl⟩
end Go.Proofs.YtlginjmkmfodmaaDoor.S
