/- Printed by a program of this session's own (gen.py): Lean functions for Go functions, and the proofs that the Go code comes to their answers. -/
import Derived.Test.YtlginjmkmfodmaaG1xa
set_option linter.unusedVariables false
set_option linter.unusedSimpArgs false
namespace Go.Proofs.Ytlginjmkmfodmaa.S
open Go Go.Sm
attribute [local irreducible] T TL OpR CallT iter loop
noncomputable def ref01_Prev.l1 (a1 : Int) (x1 : (List Int)) (s3 : Int × Int) : Option (Lp (Int × Int) Int) :=
  if s3.2 < (x1.length : Int) then
    bnd (idx x1 s3.2) fun x12 =>
    bnd (if x12 < a1 then
      some x12
    else
      some s3.1 : Option Int) fun t13 =>
    some (Lp.next (t13, w64 (s3.2 + 1)))
  else
    some (Lp.done s3.1)
noncomputable def ref01_Prev (a0 : List UInt8) (a1 : Int) : Option Int :=
  bnd (ref01_Bounds a0) fun x1 =>
  bnd (loop (ref01_Prev.l1 a1 x1) (0, 0) : Option Int) fun t2 =>
  some t2
set_option maxHeartbeats 4000000 in
theorem ref01_Prev_c {a0 : List UInt8} {a1 : Int} {res : Int} (h0 : ref01_Prev a0 a1 = some res) : CallF X 54 [.val (.string (bs a0)), .val (.int .i64 a1)] [] (fun x => .val (.int .i64 res)) (fun x => []) := by
 unfold ref01_Prev at h0
 refine CallF.mkG (X := X) Try.func54 rfl rfl Try.ntmps54 rfl rfl ?_
 refine T.seq ?_
 refine T.region ?_
 refine TL.op1 (OpR.pure rfl) rfl ?_
 refine TL.nil ?_
 show T X _ _ _
 refine T.seq ?_
 refine T.region ?_
 refine TL.op1 (OpR.pure rfl) rfl ?_
 refine TL.nil ?_
 show T X _ _ _
 refine T.seq ?_
 refine T.seq ?_
 refine T.region ?_
 refine TL.op1 (OpR.pure rfl) rfl ?_
 obtain ⟨x1, hx1, h0⟩ := bnd_some h0
 refine TL.op1 (OpR.call0 fn34 (ref01_Bounds_c hx1) rfl) rfl ?_
 refine TL.op1 (OpR.cast (OpR.pure rfl) (intE (lenM _ _))) rfl ?_
 refine TL.op1 (OpR.pure rfl) rfl ?_
 refine TL.nil ?_
 show T X _ _ _
 obtain ⟨t2, ht2, h0⟩ := bnd_some h0
 refine T.cutC (fun S' => S' = ⟨[(5, .val (.int .i64 t2)), (4, .val (.int .i64 0))], [], 21⟩) (fun _ h => h) ?_ ?_
 rotate_left
 · rintro _ rfl
   show T X _ _ _
   refine T.seq ?_
   refine T.region ?_
   refine TL.op1 (OpR.pure rfl) rfl ?_
   refine TL.op1 (OpR.pure rfl) rfl ?_
   refine TL.nil ?_
   show T X _ _ _
   refine T.ret ?_
   obtain rfl := Option.some.inj h0
   exact PostG.retP (ks := []) (Gst.only [4] rfl) undef (ResL.cons (ResV.tmp rfl) ResL.nil) rfl rfl rfl rfl
 refine T.block ?_
 obtain ⟨n4, n9⟩ := loop_some ht2
 refine T.loop (fun n S' => ∃ S'', Gst S' S'' ∧ ∃ s3 : Int × Int, S'' = ⟨[(11, .val (.int .i64 s3.2)), (10, .val (.int .i64 (x1.length : Int))), (9, .sl 1 (List.map (eI .i64) x1)), (5, .val (.int .i64 s3.1)), (4, .val (.int .i64 0)), (1, .val (.int .i64 a1))], [], 21⟩ ∧ iter (ref01_Prev.l1 a1 x1) n s3 = some t2) n4 ?_ ?_
 · exact ⟨_, Gst.only [1, 4, 5, 9, 10, 11] rfl, (0, 0), rfl, n9⟩
 rintro n4 _ ⟨_, g, s3, rfl, i8⟩
 refine T.ghost g ?_
 obtain ⟨m5, q6, rfl, q7, i8⟩ := iter_succ i8
 unfold ref01_Prev.l1 at q7
 refine T.seq ?_
 refine T.region ?_
 refine TL.op1 (OpR.pure rfl) rfl ?_
 refine TL.nil ?_
 show T X _ _ _
 refine T.seq ?_
 rcases ite_some q7 with ⟨c11, q7⟩ | ⟨c11, q7⟩
 rotate_left
 · refine T.condF rfl (decide_eq_false c11) ?_
   refine T.exit ?_
   obtain rfl := Option.some.inj q7
   obtain rfl : _ = _ := i8
   exact ⟨_, Gst.only [4, 5] rfl, rfl⟩
 refine T.condT rfl (decide_eq_true c11) ?_
 refine T.skip ?_
 show T X _ _ _
 refine T.seq ?_
 refine T.block ?_
 refine T.seq ?_
 refine T.region ?_
 obtain ⟨x12, hx12, q7⟩ := bnd_some q7
 refine TL.op1 (OpR.indexM (eI .i64) hx12 rfl rfl rfl rfl rfl) rfl ?_
 refine TL.op1 (OpR.pure rfl) rfl ?_
 refine TL.op1 (OpR.pure rfl) rfl ?_
 refine TL.nil ?_
 show T X _ _ _
 refine T.seq ?_
 refine T.region ?_
 refine TL.op1 (OpR.pure rfl) rfl ?_
 refine TL.op1 (OpR.pure rfl) rfl ?_
 refine TL.op1 (OpR.pure rfl) rfl ?_
 refine TL.nil ?_
 show T X _ _ _
 obtain ⟨t13, ht13, q7⟩ := bnd_some q7
 refine T.cutC (fun S' => S' = ⟨[(11, .val (.int .i64 s3.2)), (10, .val (.int .i64 (x1.length : Int))), (9, .sl 1 (List.map (eI .i64) x1)), (5, .val (.int .i64 t13)), (4, .val (.int .i64 0)), (1, .val (.int .i64 a1))], [], 21⟩) (fun _ h => h) ?_ ?_
 rotate_left
 · rintro _ rfl
   show T X _ _ _
   refine T.region ?_
   refine TL.op1 (OpR.pure rfl) rfl ?_
   refine TL.op1 (OpR.pure rfl) rfl ?_
   refine TL.nil ?_
   obtain rfl := Option.some.inj q7
   exact ⟨m5, Nat.lt_succ_self _, _, Gst.only [1, 4, 5, 9, 10, 11] rfl, (t13, w64 (s3.2 + 1)), rfl, i8⟩
 rcases ite_some ht13 with ⟨c14, ht13⟩ | ⟨c14, ht13⟩
 rotate_left
 · refine T.condF rfl (decide_eq_false c14) ?_
   refine T.skip ?_
   obtain rfl := Option.some.inj ht13
   exact ⟨_, Gst.only [1, 4, 5, 9, 10, 11] rfl, rfl⟩
 refine T.condT rfl (decide_eq_true c14) ?_
 refine T.region ?_
 refine TL.op1 (OpR.pure rfl) rfl ?_
 refine TL.op1 (OpR.pure rfl) rfl ?_
 refine TL.nil ?_
 obtain rfl := Option.some.inj ht13
 exact ⟨_, Gst.only [1, 4, 5, 9, 10, 11] rfl, rfl⟩
noncomputable def ref01_Class (a0 : Int) : Option Int :=
  bnd (if a0 = 32 then
    some true
  else
    if a0 ≥ 9 then
      some (decide (a0 ≤ 13))
    else
      some false : Option Bool) fun t1 =>
  if t1 = true then
    some 0
  else
    bnd (if a0 > 127 then
      some true
    else
      if a0 = 95 then
        some true
      else
        if a0 ≥ 48 then
          if a0 ≤ 57 then
            some true
          else
            if a0 ≥ 65 then
              if a0 ≤ 90 then
                some true
              else
                if a0 ≥ 97 then
                  some (decide (a0 ≤ 122))
                else
                  some false
            else
              if a0 ≥ 97 then
                some (decide (a0 ≤ 122))
              else
                some false
        else
          if a0 ≥ 65 then
            if a0 ≤ 90 then
              some true
            else
              if a0 ≥ 97 then
                some (decide (a0 ≤ 122))
              else
                some false
          else
            if a0 ≥ 97 then
              some (decide (a0 ≤ 122))
            else
              some false : Option Bool) fun t5 =>
    if t5 = true then
      some 1
    else
      some 2
set_option maxHeartbeats 4000000 in
theorem ref01_Class_c {a0 : Int} {res : Int} (h0 : ref01_Class a0 = some res) : CallF X 75 [.val (.int .i64 a0)] [] (fun x => .val (.int .i64 res)) (fun x => []) := by
 unfold ref01_Class at h0
 refine CallF.mkG (X := X) Try.func75 rfl rfl Try.ntmps75 rfl rfl ?_
 refine T.seq ?_
 refine T.region ?_
 refine TL.op1 (OpR.pure rfl) rfl ?_
 refine TL.nil ?_
 show T X _ _ _
 refine T.seq ?_
 refine T.seq ?_
 obtain ⟨t1, ht1, h0⟩ := bnd_some h0
 refine T.cutC (fun S' => S' = ⟨[(12, .val (.bool t1)), (2, .val (.int .i64 0)), (0, .val (.int .i64 a0))], [], 43⟩) (fun _ h => h) ?_ ?_
 · refine T.region ?_
   refine TL.op1 (OpR.pure rfl) rfl ?_
   refine TL.op1 (OpR.pure rfl) rfl ?_
   refine TL.op1 (OpR.pure rfl) rfl ?_
   rcases ite_some ht1 with ⟨c2, ht1⟩ | ⟨c2, ht1⟩
   · refine TL.off rfl rfl rfl rfl (beq_iff_eq.2 c2) rfl rfl ?_
     refine TL.off rfl rfl rfl rfl (beq_iff_eq.2 c2) rfl rfl ?_
     refine TL.off rfl rfl rfl rfl (beq_iff_eq.2 c2) rfl rfl ?_
     refine TL.offU rfl rfl rfl rfl rfl rfl ?_
     refine TL.offU rfl rfl rfl rfl rfl rfl ?_
     refine TL.off rfl rfl rfl rfl (beq_iff_eq.2 c2) rfl rfl ?_
     refine TL.op1 (OpR.pickT rfl (beq_iff_eq.2 c2) rfl) rfl ?_
     refine TL.nil ?_
     obtain rfl := Option.some.inj ht1
     exact ⟨_, Gst.only [0, 2, 12] rfl, rfl⟩
   refine TL.on rfl rfl rfl rfl (beq_eq_false_iff_ne.2 c2) ?_
   refine TL.op1 (OpR.pure rfl) rfl ?_
   refine TL.on rfl rfl rfl rfl (beq_eq_false_iff_ne.2 c2) ?_
   refine TL.op1 (OpR.pure rfl) rfl ?_
   refine TL.on rfl rfl rfl rfl (beq_eq_false_iff_ne.2 c2) ?_
   refine TL.op1 (OpR.pure rfl) rfl ?_
   rcases ite_some ht1 with ⟨c3, ht1⟩ | ⟨c3, ht1⟩
   rotate_left
   · refine TL.off rfl rfl rfl rfl (decide_eq_false c3) rfl rfl ?_
     refine TL.off rfl rfl rfl rfl (decide_eq_false c3) rfl rfl ?_
     refine TL.on rfl rfl rfl rfl (beq_eq_false_iff_ne.2 c2) ?_
     refine TL.op1 (OpR.pickF rfl (decide_eq_false c3) rfl) rfl ?_
     refine TL.op1 (OpR.pickF rfl (beq_eq_false_iff_ne.2 c2) rfl) rfl ?_
     refine TL.nil ?_
     obtain rfl := Option.some.inj ht1
     exact ⟨_, Gst.only [0, 2, 12] rfl, rfl⟩
   refine TL.on rfl rfl rfl rfl (decide_eq_true c3) ?_
   refine TL.op1 (OpR.pure rfl) rfl ?_
   refine TL.on rfl rfl rfl rfl (decide_eq_true c3) ?_
   refine TL.op1 (OpR.pure rfl) rfl ?_
   refine TL.on rfl rfl rfl rfl (beq_eq_false_iff_ne.2 c2) ?_
   refine TL.op1 (OpR.pickT rfl (decide_eq_true c3) rfl) rfl ?_
   refine TL.op1 (OpR.pickF rfl (beq_eq_false_iff_ne.2 c2) rfl) rfl ?_
   refine TL.nil ?_
   obtain rfl := Option.some.inj ht1
   exact ⟨_, Gst.only [0, 2, 12] rfl, rfl⟩
 rintro _ rfl
 show T X _ _ _
 rcases ite_some h0 with ⟨c4, h0⟩ | ⟨c4, h0⟩
 · refine T.condT rfl (c4) ?_
   refine T.seq ?_
   refine T.region ?_
   refine TL.op1 (OpR.pure rfl) rfl ?_
   refine TL.nil ?_
   show T X _ _ _
   refine T.ret ?_
   obtain rfl := Option.some.inj h0
   exact PostG.retP (ks := []) (Gst.only [2] rfl) undef (ResL.cons (ResV.tmp rfl) ResL.nil) rfl rfl rfl rfl
 refine T.condF rfl (eq_false_of_ne_true c4) ?_
 refine T.skip ?_
 show T X _ _ _
 refine T.seq ?_
 refine T.seq ?_
 obtain ⟨t5, ht5, h0⟩ := bnd_some h0
 refine T.cutC (fun S' => S' = ⟨[(42, .val (.bool t5)), (2, .val (.int .i64 0))], [], 43⟩) (fun _ h => h) ?_ ?_
 rotate_left
 · rintro _ rfl
   show T X _ _ _
   rcases ite_some h0 with ⟨c18, h0⟩ | ⟨c18, h0⟩
   · refine T.condT rfl (c18) ?_
     refine T.seq ?_
     refine T.region ?_
     refine TL.op1 (OpR.pure rfl) rfl ?_
     refine TL.nil ?_
     show T X _ _ _
     refine T.ret ?_
     obtain rfl := Option.some.inj h0
     exact PostG.retP (ks := []) (Gst.only [2] rfl) undef (ResL.cons (ResV.tmp rfl) ResL.nil) rfl rfl rfl rfl
   refine T.condF rfl (eq_false_of_ne_true c18) ?_
   refine T.skip ?_
   show T X _ _ _
   refine T.seq ?_
   refine T.region ?_
   refine TL.op1 (OpR.pure rfl) rfl ?_
   refine TL.nil ?_
   show T X _ _ _
   refine T.ret ?_
   obtain rfl := Option.some.inj h0
   exact PostG.retP (ks := []) (Gst.only [2] rfl) undef (ResL.cons (ResV.tmp rfl) ResL.nil) rfl rfl rfl rfl
 refine T.region ?_
 refine TL.op1 (OpR.pure rfl) rfl ?_
 refine TL.op1 (OpR.pure rfl) rfl ?_
 refine TL.op1 (OpR.pure rfl) rfl ?_
 rcases ite_some ht5 with ⟨c6, ht5⟩ | ⟨c6, ht5⟩
 · refine TL.off rfl rfl rfl rfl (decide_eq_true c6) rfl rfl ?_
   refine TL.off rfl rfl rfl rfl (decide_eq_true c6) rfl rfl ?_
   refine TL.op1 (OpR.pickT rfl (decide_eq_true c6) rfl) rfl ?_
   refine TL.op1 (OpR.pure rfl) rfl ?_
   refine TL.off rfl rfl rfl rfl rfl rfl rfl ?_
   refine TL.off rfl rfl rfl rfl rfl rfl rfl ?_
   refine TL.off rfl rfl rfl rfl rfl rfl rfl ?_
   refine TL.offU rfl rfl rfl rfl rfl rfl ?_
   refine TL.offU rfl rfl rfl rfl rfl rfl ?_
   refine TL.off rfl rfl rfl rfl rfl rfl rfl ?_
   refine TL.op1 (OpR.pickT rfl rfl rfl) rfl ?_
   refine TL.op1 (OpR.pure rfl) rfl ?_
   refine TL.off rfl rfl rfl rfl rfl rfl rfl ?_
   refine TL.off rfl rfl rfl rfl rfl rfl rfl ?_
   refine TL.off rfl rfl rfl rfl rfl rfl rfl ?_
   refine TL.offU rfl rfl rfl rfl rfl rfl ?_
   refine TL.offU rfl rfl rfl rfl rfl rfl ?_
   refine TL.off rfl rfl rfl rfl rfl rfl rfl ?_
   refine TL.op1 (OpR.pickT rfl rfl rfl) rfl ?_
   refine TL.op1 (OpR.pure rfl) rfl ?_
   refine TL.off rfl rfl rfl rfl rfl rfl rfl ?_
   refine TL.off rfl rfl rfl rfl rfl rfl rfl ?_
   refine TL.off rfl rfl rfl rfl rfl rfl rfl ?_
   refine TL.offU rfl rfl rfl rfl rfl rfl ?_
   refine TL.offU rfl rfl rfl rfl rfl rfl ?_
   refine TL.off rfl rfl rfl rfl rfl rfl rfl ?_
   refine TL.op1 (OpR.pickT rfl rfl rfl) rfl ?_
   refine TL.nil ?_
   obtain rfl := Option.some.inj ht5
   exact ⟨_, Gst.only [2, 42] rfl, rfl⟩
 refine TL.on rfl rfl rfl rfl (decide_eq_false c6) ?_
 refine TL.op1 (OpR.pure rfl) rfl ?_
 refine TL.on rfl rfl rfl rfl (decide_eq_false c6) ?_
 refine TL.op1 (OpR.pure rfl) rfl ?_
 refine TL.op1 (OpR.pickF rfl (decide_eq_false c6) rfl) rfl ?_
 refine TL.op1 (OpR.pure rfl) rfl ?_
 rcases ite_some ht5 with ⟨c7, ht5⟩ | ⟨c7, ht5⟩
 · refine TL.off rfl rfl rfl rfl (beq_iff_eq.2 c7) rfl rfl ?_
   refine TL.off rfl rfl rfl rfl (beq_iff_eq.2 c7) rfl rfl ?_
   refine TL.off rfl rfl rfl rfl (beq_iff_eq.2 c7) rfl rfl ?_
   refine TL.offU rfl rfl rfl rfl rfl rfl ?_
   refine TL.offU rfl rfl rfl rfl rfl rfl ?_
   refine TL.off rfl rfl rfl rfl (beq_iff_eq.2 c7) rfl rfl ?_
   refine TL.op1 (OpR.pickT rfl (beq_iff_eq.2 c7) rfl) rfl ?_
   refine TL.op1 (OpR.pure rfl) rfl ?_
   refine TL.off rfl rfl rfl rfl rfl rfl rfl ?_
   refine TL.off rfl rfl rfl rfl rfl rfl rfl ?_
   refine TL.off rfl rfl rfl rfl rfl rfl rfl ?_
   refine TL.offU rfl rfl rfl rfl rfl rfl ?_
   refine TL.offU rfl rfl rfl rfl rfl rfl ?_
   refine TL.off rfl rfl rfl rfl rfl rfl rfl ?_
   refine TL.op1 (OpR.pickT rfl rfl rfl) rfl ?_
   refine TL.op1 (OpR.pure rfl) rfl ?_
   refine TL.off rfl rfl rfl rfl rfl rfl rfl ?_
   refine TL.off rfl rfl rfl rfl rfl rfl rfl ?_
   refine TL.off rfl rfl rfl rfl rfl rfl rfl ?_
   refine TL.offU rfl rfl rfl rfl rfl rfl ?_
   refine TL.offU rfl rfl rfl rfl rfl rfl ?_
   refine TL.off rfl rfl rfl rfl rfl rfl rfl ?_
   refine TL.op1 (OpR.pickT rfl rfl rfl) rfl ?_
   refine TL.nil ?_
   obtain rfl := Option.some.inj ht5
   exact ⟨_, Gst.only [2, 42] rfl, rfl⟩
 refine TL.on rfl rfl rfl rfl (beq_eq_false_iff_ne.2 c7) ?_
 refine TL.op1 (OpR.pure rfl) rfl ?_
 refine TL.on rfl rfl rfl rfl (beq_eq_false_iff_ne.2 c7) ?_
 refine TL.op1 (OpR.pure rfl) rfl ?_
 refine TL.on rfl rfl rfl rfl (beq_eq_false_iff_ne.2 c7) ?_
 refine TL.op1 (OpR.pure rfl) rfl ?_
 rcases ite_some ht5 with ⟨c8, ht5⟩ | ⟨c8, ht5⟩
 rotate_left
 · refine TL.off rfl rfl rfl rfl (decide_eq_false c8) rfl rfl ?_
   refine TL.off rfl rfl rfl rfl (decide_eq_false c8) rfl rfl ?_
   refine TL.on rfl rfl rfl rfl (beq_eq_false_iff_ne.2 c7) ?_
   refine TL.op1 (OpR.pickF rfl (decide_eq_false c8) rfl) rfl ?_
   refine TL.op1 (OpR.pickF rfl (beq_eq_false_iff_ne.2 c7) rfl) rfl ?_
   refine TL.op1 (OpR.pure rfl) rfl ?_
   refine TL.on rfl rfl rfl rfl rfl ?_
   refine TL.op1 (OpR.pure rfl) rfl ?_
   refine TL.on rfl rfl rfl rfl rfl ?_
   refine TL.op1 (OpR.pure rfl) rfl ?_
   refine TL.on rfl rfl rfl rfl rfl ?_
   refine TL.op1 (OpR.pure rfl) rfl ?_
   rcases ite_some ht5 with ⟨c14, ht5⟩ | ⟨c14, ht5⟩
   rotate_left
   · refine TL.off rfl rfl rfl rfl (decide_eq_false c14) rfl rfl ?_
     refine TL.off rfl rfl rfl rfl (decide_eq_false c14) rfl rfl ?_
     refine TL.on rfl rfl rfl rfl rfl ?_
     refine TL.op1 (OpR.pickF rfl (decide_eq_false c14) rfl) rfl ?_
     refine TL.op1 (OpR.pickF rfl rfl rfl) rfl ?_
     refine TL.op1 (OpR.pure rfl) rfl ?_
     refine TL.on rfl rfl rfl rfl rfl ?_
     refine TL.op1 (OpR.pure rfl) rfl ?_
     refine TL.on rfl rfl rfl rfl rfl ?_
     refine TL.op1 (OpR.pure rfl) rfl ?_
     refine TL.on rfl rfl rfl rfl rfl ?_
     refine TL.op1 (OpR.pure rfl) rfl ?_
     rcases ite_some ht5 with ⟨c17, ht5⟩ | ⟨c17, ht5⟩
     rotate_left
     · refine TL.off rfl rfl rfl rfl (decide_eq_false c17) rfl rfl ?_
       refine TL.off rfl rfl rfl rfl (decide_eq_false c17) rfl rfl ?_
       refine TL.on rfl rfl rfl rfl rfl ?_
       refine TL.op1 (OpR.pickF rfl (decide_eq_false c17) rfl) rfl ?_
       refine TL.op1 (OpR.pickF rfl rfl rfl) rfl ?_
       refine TL.nil ?_
       obtain rfl := Option.some.inj ht5
       exact ⟨_, Gst.only [2, 42] rfl, rfl⟩
     refine TL.on rfl rfl rfl rfl (decide_eq_true c17) ?_
     refine TL.op1 (OpR.pure rfl) rfl ?_
     refine TL.on rfl rfl rfl rfl (decide_eq_true c17) ?_
     refine TL.op1 (OpR.pure rfl) rfl ?_
     refine TL.on rfl rfl rfl rfl rfl ?_
     refine TL.op1 (OpR.pickT rfl (decide_eq_true c17) rfl) rfl ?_
     refine TL.op1 (OpR.pickF rfl rfl rfl) rfl ?_
     refine TL.nil ?_
     obtain rfl := Option.some.inj ht5
     exact ⟨_, Gst.only [2, 42] rfl, rfl⟩
   refine TL.on rfl rfl rfl rfl (decide_eq_true c14) ?_
   refine TL.op1 (OpR.pure rfl) rfl ?_
   refine TL.on rfl rfl rfl rfl (decide_eq_true c14) ?_
   refine TL.op1 (OpR.pure rfl) rfl ?_
   refine TL.on rfl rfl rfl rfl rfl ?_
   refine TL.op1 (OpR.pickT rfl (decide_eq_true c14) rfl) rfl ?_
   refine TL.op1 (OpR.pickF rfl rfl rfl) rfl ?_
   refine TL.op1 (OpR.pure rfl) rfl ?_
   rcases ite_some ht5 with ⟨c15, ht5⟩ | ⟨c15, ht5⟩
   · refine TL.off rfl rfl rfl rfl (decide_eq_true c15) rfl rfl ?_
     refine TL.off rfl rfl rfl rfl (decide_eq_true c15) rfl rfl ?_
     refine TL.off rfl rfl rfl rfl (decide_eq_true c15) rfl rfl ?_
     refine TL.offU rfl rfl rfl rfl rfl rfl ?_
     refine TL.offU rfl rfl rfl rfl rfl rfl ?_
     refine TL.off rfl rfl rfl rfl (decide_eq_true c15) rfl rfl ?_
     refine TL.op1 (OpR.pickT rfl (decide_eq_true c15) rfl) rfl ?_
     refine TL.nil ?_
     obtain rfl := Option.some.inj ht5
     exact ⟨_, Gst.only [2, 42] rfl, rfl⟩
   refine TL.on rfl rfl rfl rfl (decide_eq_false c15) ?_
   refine TL.op1 (OpR.pure rfl) rfl ?_
   refine TL.on rfl rfl rfl rfl (decide_eq_false c15) ?_
   refine TL.op1 (OpR.pure rfl) rfl ?_
   refine TL.on rfl rfl rfl rfl (decide_eq_false c15) ?_
   refine TL.op1 (OpR.pure rfl) rfl ?_
   rcases ite_some ht5 with ⟨c16, ht5⟩ | ⟨c16, ht5⟩
   rotate_left
   · refine TL.off rfl rfl rfl rfl (decide_eq_false c16) rfl rfl ?_
     refine TL.off rfl rfl rfl rfl (decide_eq_false c16) rfl rfl ?_
     refine TL.on rfl rfl rfl rfl (decide_eq_false c15) ?_
     refine TL.op1 (OpR.pickF rfl (decide_eq_false c16) rfl) rfl ?_
     refine TL.op1 (OpR.pickF rfl (decide_eq_false c15) rfl) rfl ?_
     refine TL.nil ?_
     obtain rfl := Option.some.inj ht5
     exact ⟨_, Gst.only [2, 42] rfl, rfl⟩
   refine TL.on rfl rfl rfl rfl (decide_eq_true c16) ?_
   refine TL.op1 (OpR.pure rfl) rfl ?_
   refine TL.on rfl rfl rfl rfl (decide_eq_true c16) ?_
   refine TL.op1 (OpR.pure rfl) rfl ?_
   refine TL.on rfl rfl rfl rfl (decide_eq_false c15) ?_
   refine TL.op1 (OpR.pickT rfl (decide_eq_true c16) rfl) rfl ?_
   refine TL.op1 (OpR.pickF rfl (decide_eq_false c15) rfl) rfl ?_
   refine TL.nil ?_
   obtain rfl := Option.some.inj ht5
   exact ⟨_, Gst.only [2, 42] rfl, rfl⟩
 refine TL.on rfl rfl rfl rfl (decide_eq_true c8) ?_
 refine TL.op1 (OpR.pure rfl) rfl ?_
 refine TL.on rfl rfl rfl rfl (decide_eq_true c8) ?_
 refine TL.op1 (OpR.pure rfl) rfl ?_
 refine TL.on rfl rfl rfl rfl (beq_eq_false_iff_ne.2 c7) ?_
 refine TL.op1 (OpR.pickT rfl (decide_eq_true c8) rfl) rfl ?_
 refine TL.op1 (OpR.pickF rfl (beq_eq_false_iff_ne.2 c7) rfl) rfl ?_
 refine TL.op1 (OpR.pure rfl) rfl ?_
 rcases ite_some ht5 with ⟨c9, ht5⟩ | ⟨c9, ht5⟩
 · refine TL.off rfl rfl rfl rfl (decide_eq_true c9) rfl rfl ?_
   refine TL.off rfl rfl rfl rfl (decide_eq_true c9) rfl rfl ?_
   refine TL.off rfl rfl rfl rfl (decide_eq_true c9) rfl rfl ?_
   refine TL.offU rfl rfl rfl rfl rfl rfl ?_
   refine TL.offU rfl rfl rfl rfl rfl rfl ?_
   refine TL.off rfl rfl rfl rfl (decide_eq_true c9) rfl rfl ?_
   refine TL.op1 (OpR.pickT rfl (decide_eq_true c9) rfl) rfl ?_
   refine TL.op1 (OpR.pure rfl) rfl ?_
   refine TL.off rfl rfl rfl rfl rfl rfl rfl ?_
   refine TL.off rfl rfl rfl rfl rfl rfl rfl ?_
   refine TL.off rfl rfl rfl rfl rfl rfl rfl ?_
   refine TL.offU rfl rfl rfl rfl rfl rfl ?_
   refine TL.offU rfl rfl rfl rfl rfl rfl ?_
   refine TL.off rfl rfl rfl rfl rfl rfl rfl ?_
   refine TL.op1 (OpR.pickT rfl rfl rfl) rfl ?_
   refine TL.nil ?_
   obtain rfl := Option.some.inj ht5
   exact ⟨_, Gst.only [2, 42] rfl, rfl⟩
 refine TL.on rfl rfl rfl rfl (decide_eq_false c9) ?_
 refine TL.op1 (OpR.pure rfl) rfl ?_
 refine TL.on rfl rfl rfl rfl (decide_eq_false c9) ?_
 refine TL.op1 (OpR.pure rfl) rfl ?_
 refine TL.on rfl rfl rfl rfl (decide_eq_false c9) ?_
 refine TL.op1 (OpR.pure rfl) rfl ?_
 rcases ite_some ht5 with ⟨c10, ht5⟩ | ⟨c10, ht5⟩
 rotate_left
 · refine TL.off rfl rfl rfl rfl (decide_eq_false c10) rfl rfl ?_
   refine TL.off rfl rfl rfl rfl (decide_eq_false c10) rfl rfl ?_
   refine TL.on rfl rfl rfl rfl (decide_eq_false c9) ?_
   refine TL.op1 (OpR.pickF rfl (decide_eq_false c10) rfl) rfl ?_
   refine TL.op1 (OpR.pickF rfl (decide_eq_false c9) rfl) rfl ?_
   refine TL.op1 (OpR.pure rfl) rfl ?_
   refine TL.on rfl rfl rfl rfl rfl ?_
   refine TL.op1 (OpR.pure rfl) rfl ?_
   refine TL.on rfl rfl rfl rfl rfl ?_
   refine TL.op1 (OpR.pure rfl) rfl ?_
   refine TL.on rfl rfl rfl rfl rfl ?_
   refine TL.op1 (OpR.pure rfl) rfl ?_
   rcases ite_some ht5 with ⟨c13, ht5⟩ | ⟨c13, ht5⟩
   rotate_left
   · refine TL.off rfl rfl rfl rfl (decide_eq_false c13) rfl rfl ?_
     refine TL.off rfl rfl rfl rfl (decide_eq_false c13) rfl rfl ?_
     refine TL.on rfl rfl rfl rfl rfl ?_
     refine TL.op1 (OpR.pickF rfl (decide_eq_false c13) rfl) rfl ?_
     refine TL.op1 (OpR.pickF rfl rfl rfl) rfl ?_
     refine TL.nil ?_
     obtain rfl := Option.some.inj ht5
     exact ⟨_, Gst.only [2, 42] rfl, rfl⟩
   refine TL.on rfl rfl rfl rfl (decide_eq_true c13) ?_
   refine TL.op1 (OpR.pure rfl) rfl ?_
   refine TL.on rfl rfl rfl rfl (decide_eq_true c13) ?_
   refine TL.op1 (OpR.pure rfl) rfl ?_
   refine TL.on rfl rfl rfl rfl rfl ?_
   refine TL.op1 (OpR.pickT rfl (decide_eq_true c13) rfl) rfl ?_
   refine TL.op1 (OpR.pickF rfl rfl rfl) rfl ?_
   refine TL.nil ?_
   obtain rfl := Option.some.inj ht5
   exact ⟨_, Gst.only [2, 42] rfl, rfl⟩
 refine TL.on rfl rfl rfl rfl (decide_eq_true c10) ?_
 refine TL.op1 (OpR.pure rfl) rfl ?_
 refine TL.on rfl rfl rfl rfl (decide_eq_true c10) ?_
 refine TL.op1 (OpR.pure rfl) rfl ?_
 refine TL.on rfl rfl rfl rfl (decide_eq_false c9) ?_
 refine TL.op1 (OpR.pickT rfl (decide_eq_true c10) rfl) rfl ?_
 refine TL.op1 (OpR.pickF rfl (decide_eq_false c9) rfl) rfl ?_
 refine TL.op1 (OpR.pure rfl) rfl ?_
 rcases ite_some ht5 with ⟨c11, ht5⟩ | ⟨c11, ht5⟩
 · refine TL.off rfl rfl rfl rfl (decide_eq_true c11) rfl rfl ?_
   refine TL.off rfl rfl rfl rfl (decide_eq_true c11) rfl rfl ?_
   refine TL.off rfl rfl rfl rfl (decide_eq_true c11) rfl rfl ?_
   refine TL.offU rfl rfl rfl rfl rfl rfl ?_
   refine TL.offU rfl rfl rfl rfl rfl rfl ?_
   refine TL.off rfl rfl rfl rfl (decide_eq_true c11) rfl rfl ?_
   refine TL.op1 (OpR.pickT rfl (decide_eq_true c11) rfl) rfl ?_
   refine TL.nil ?_
   obtain rfl := Option.some.inj ht5
   exact ⟨_, Gst.only [2, 42] rfl, rfl⟩
 refine TL.on rfl rfl rfl rfl (decide_eq_false c11) ?_
 refine TL.op1 (OpR.pure rfl) rfl ?_
 refine TL.on rfl rfl rfl rfl (decide_eq_false c11) ?_
 refine TL.op1 (OpR.pure rfl) rfl ?_
 refine TL.on rfl rfl rfl rfl (decide_eq_false c11) ?_
 refine TL.op1 (OpR.pure rfl) rfl ?_
 rcases ite_some ht5 with ⟨c12, ht5⟩ | ⟨c12, ht5⟩
 rotate_left
 · refine TL.off rfl rfl rfl rfl (decide_eq_false c12) rfl rfl ?_
   refine TL.off rfl rfl rfl rfl (decide_eq_false c12) rfl rfl ?_
   refine TL.on rfl rfl rfl rfl (decide_eq_false c11) ?_
   refine TL.op1 (OpR.pickF rfl (decide_eq_false c12) rfl) rfl ?_
   refine TL.op1 (OpR.pickF rfl (decide_eq_false c11) rfl) rfl ?_
   refine TL.nil ?_
   obtain rfl := Option.some.inj ht5
   exact ⟨_, Gst.only [2, 42] rfl, rfl⟩
 refine TL.on rfl rfl rfl rfl (decide_eq_true c12) ?_
 refine TL.op1 (OpR.pure rfl) rfl ?_
 refine TL.on rfl rfl rfl rfl (decide_eq_true c12) ?_
 refine TL.op1 (OpR.pure rfl) rfl ?_
 refine TL.on rfl rfl rfl rfl (decide_eq_false c11) ?_
 refine TL.op1 (OpR.pickT rfl (decide_eq_true c12) rfl) rfl ?_
 refine TL.op1 (OpR.pickF rfl (decide_eq_false c11) rfl) rfl ?_
 refine TL.nil ?_
 obtain rfl := Option.some.inj ht5
 exact ⟨_, Gst.only [2, 42] rfl, rfl⟩
noncomputable def ref30_class (a0 : List UInt8) (a1 : Int) : Option Int :=
  bnd (ref01_Prev a0 a1) fun x1 =>
  bnd (ref01_At a0 x1) fun x2 =>
  bnd (ref01_Class x2.1) fun x3 =>
  some x3
set_option maxHeartbeats 4000000 in
theorem ref30_class_c {a0 : List UInt8} {a1 : Int} {res : Int} (h0 : ref30_class a0 a1 = some res) : CallF X 70 [.val (.string (bs a0)), .val (.int .i64 a1)] [] (fun x => .val (.int .i64 res)) (fun x => []) := by
 unfold ref30_class at h0
 refine CallF.mkG (X := X) Try.func70 rfl rfl Try.ntmps70 rfl rfl ?_
 refine T.seq ?_
 refine T.region ?_
 refine TL.op1 (OpR.pure rfl) rfl ?_
 refine TL.nil ?_
 show T X _ _ _
 refine T.seq ?_
 refine T.region ?_
 refine TL.op1 (OpR.pure rfl) rfl ?_
 refine TL.op1 (OpR.pure rfl) rfl ?_
 refine TL.op1 (OpR.pure rfl) rfl ?_
 obtain ⟨x1, hx1, h0⟩ := bnd_some h0
 refine TL.op1 (OpR.call0 fn54 (ref01_Prev_c hx1) rfl) rfl ?_
 obtain ⟨x2, hx2, h0⟩ := bnd_some h0
 refine TL.op1 (OpR.call0 fn44 (ref01_At_c hx2) rfl) rfl ?_
 refine TL.op1 (OpR.pure rfl) rfl ?_
 refine TL.op1 (OpR.pure rfl) rfl ?_
 refine TL.op1 (OpR.pure rfl) rfl ?_
 refine TL.op1 (OpR.pure rfl) rfl ?_
 refine TL.op1 (OpR.pure rfl) rfl ?_
 refine TL.nil ?_
 show T X _ _ _
 refine T.seq ?_
 refine T.region ?_
 refine TL.op1 (OpR.pure rfl) rfl ?_
 obtain ⟨x3, hx3, h0⟩ := bnd_some h0
 refine TL.op1 (OpR.call0 fn75 (ref01_Class_c hx3) rfl) rfl ?_
 refine TL.op1 (OpR.pure rfl) rfl ?_
 refine TL.nil ?_
 show T X _ _ _
 refine T.ret ?_
 obtain rfl := Option.some.inj h0
 exact PostG.retP (ks := []) (Gst.only [4] rfl) undef (ResL.cons (ResV.tmp rfl) ResL.nil) rfl rfl rfl rfl
noncomputable def ref30_word.l1 (a0 : List UInt8) (s2 : Int) : Option (Lp Int Int) :=
  bnd (if s2 > 0 then
    bnd (ref30_class a0 s2) fun x12 =>
    some (x12 == 0)
  else
    some false : Option Bool) fun t10 =>
  if t10 = true then
    bnd (ref01_Prev a0 s2) fun x14 =>
    some (Lp.next x14)
  else
    some (Lp.done s2)
noncomputable def ref30_word.l2 (a0 : List UInt8) (x16 : Int) (s18 : Int) : Option (Lp Int Int) :=
  bnd (if s18 > 0 then
    bnd (ref30_class a0 s18) fun x28 =>
    some (x28 == x16)
  else
    some false : Option Bool) fun t26 =>
  if t26 = true then
    bnd (ref01_Prev a0 s18) fun x30 =>
    some (Lp.next x30)
  else
    some (Lp.done s18)
noncomputable def ref30_word (a0 : List UInt8) (a1 : Int) : Option Int :=
  bnd (loop (ref30_word.l1 a0) a1 : Option Int) fun t1 =>
  if t1 = 0 then
    some 0
  else
    bnd (ref30_class a0 t1) fun x16 =>
    bnd (loop (ref30_word.l2 a0 x16) t1 : Option Int) fun t17 =>
    some t17
set_option maxHeartbeats 4000000 in
theorem ref30_word_c {a0 : List UInt8} {a1 : Int} {res : Int} (h0 : ref30_word a0 a1 = some res) : CallF X 55 [.val (.string (bs a0)), .val (.int .i64 a1)] [] (fun x => .val (.int .i64 res)) (fun x => []) := by
 unfold ref30_word at h0
 refine CallF.mkG (X := X) Try.func55 rfl rfl Try.ntmps55 rfl rfl ?_
 refine T.seq ?_
 refine T.region ?_
 refine TL.op1 (OpR.pure rfl) rfl ?_
 refine TL.nil ?_
 show T X _ _ _
 refine T.seq ?_
 obtain ⟨t1, ht1, h0⟩ := bnd_some h0
 refine T.cutC (fun S' => S' = ⟨[(4, .val (.int .i64 0)), (1, .val (.int .i64 t1)), (0, .val (.string (bs a0)))], [], 35⟩) (fun _ h => h) ?_ ?_
 · refine T.block ?_
   obtain ⟨n3, n8⟩ := loop_some ht1
   refine T.loop (fun n S' => ∃ S'', Gst S' S'' ∧ ∃ s2 : Int, S'' = ⟨[(4, .val (.int .i64 0)), (1, .val (.int .i64 s2)), (0, .val (.string (bs a0)))], [], 35⟩ ∧ iter (ref30_word.l1 a0) n s2 = some t1) n3 ?_ ?_
   · exact ⟨_, Gst.only [0, 1, 4] rfl, a1, rfl, n8⟩
   rintro n3 _ ⟨_, g, s2, rfl, i7⟩
   refine T.ghost g ?_
   obtain ⟨m4, q5, rfl, q6, i7⟩ := iter_succ i7
   unfold ref30_word.l1 at q6
   refine T.seq ?_
   refine T.seq ?_
   obtain ⟨t10, ht10, q6⟩ := bnd_some q6
   refine T.cutC (fun S' => S' = ⟨[(13, .val (.bool t10)), (4, .val (.int .i64 0)), (1, .val (.int .i64 s2)), (0, .val (.string (bs a0)))], [], 35⟩) (fun _ h => h) ?_ ?_
   rotate_left
   · rintro _ rfl
     show T X _ _ _
     rcases ite_some q6 with ⟨c13, q6⟩ | ⟨c13, q6⟩
     rotate_left
     · refine T.condF rfl (eq_false_of_ne_true c13) ?_
       refine T.exit ?_
       obtain rfl := Option.some.inj q6
       obtain rfl : _ = _ := i7
       exact ⟨_, Gst.only [0, 1, 4] rfl, rfl⟩
     refine T.condT rfl (c13) ?_
     refine T.skip ?_
     show T X _ _ _
     refine T.block ?_
     refine T.region ?_
     refine TL.op1 (OpR.pure rfl) rfl ?_
     refine TL.op1 (OpR.pure rfl) rfl ?_
     obtain ⟨x14, hx14, q6⟩ := bnd_some q6
     refine TL.op1 (OpR.call0 fn54 (ref01_Prev_c hx14) rfl) rfl ?_
     refine TL.op1 (OpR.pure rfl) rfl ?_
     refine TL.nil ?_
     obtain rfl := Option.some.inj q6
     exact ⟨m4, Nat.lt_succ_self _, _, Gst.only [0, 1, 4] rfl, x14, rfl, i7⟩
   refine T.region ?_
   refine TL.op1 (OpR.pure rfl) rfl ?_
   refine TL.op1 (OpR.pure rfl) rfl ?_
   refine TL.op1 (OpR.pure rfl) rfl ?_
   rcases ite_some ht10 with ⟨c11, ht10⟩ | ⟨c11, ht10⟩
   rotate_left
   · refine TL.off rfl rfl rfl rfl (decide_eq_false c11) rfl rfl ?_
     refine TL.off rfl rfl rfl rfl (decide_eq_false c11) rfl rfl ?_
     refine TL.off rfl rfl rfl rfl (decide_eq_false c11) rfl rfl ?_
     refine TL.off rfl rfl rfl rfl (decide_eq_false c11) rfl rfl ?_
     refine TL.op1 (OpR.pickF rfl (decide_eq_false c11) rfl) rfl ?_
     refine TL.nil ?_
     obtain rfl := Option.some.inj ht10
     exact ⟨_, Gst.only [0, 1, 4, 13] rfl, rfl⟩
   refine TL.on rfl rfl rfl rfl (decide_eq_true c11) ?_
   refine TL.op1 (OpR.pure rfl) rfl ?_
   refine TL.on rfl rfl rfl rfl (decide_eq_true c11) ?_
   refine TL.op1 (OpR.pure rfl) rfl ?_
   refine TL.on rfl rfl rfl rfl (decide_eq_true c11) ?_
   obtain ⟨x12, hx12, ht10⟩ := bnd_some ht10
   refine TL.op1 (OpR.call0 fn70 (ref30_class_c hx12) rfl) rfl ?_
   refine TL.on rfl rfl rfl rfl (decide_eq_true c11) ?_
   refine TL.op1 (OpR.pure rfl) rfl ?_
   refine TL.op1 (OpR.pickT rfl (decide_eq_true c11) rfl) rfl ?_
   refine TL.nil ?_
   obtain rfl := Option.some.inj ht10
   exact ⟨_, Gst.only [0, 1, 4, 13] rfl, rfl⟩
 rintro _ rfl
 show T X _ _ _
 refine T.seq ?_
 refine T.seq ?_
 refine T.region ?_
 refine TL.op1 (OpR.pure rfl) rfl ?_
 refine TL.op1 (OpR.pure rfl) rfl ?_
 refine TL.nil ?_
 show T X _ _ _
 rcases ite_some h0 with ⟨c15, h0⟩ | ⟨c15, h0⟩
 · refine T.condT rfl (beq_iff_eq.2 c15) ?_
   refine T.seq ?_
   refine T.region ?_
   refine TL.op1 (OpR.pure rfl) rfl ?_
   refine TL.nil ?_
   show T X _ _ _
   refine T.ret ?_
   obtain rfl := Option.some.inj h0
   exact PostG.retP (ks := []) (Gst.only [4] rfl) undef (ResL.cons (ResV.tmp rfl) ResL.nil) rfl rfl rfl rfl
 refine T.condF rfl (beq_eq_false_iff_ne.2 c15) ?_
 refine T.skip ?_
 show T X _ _ _
 refine T.seq ?_
 refine T.region ?_
 refine TL.op1 (OpR.pure rfl) rfl ?_
 refine TL.op1 (OpR.pure rfl) rfl ?_
 obtain ⟨x16, hx16, h0⟩ := bnd_some h0
 refine TL.op1 (OpR.call0 fn70 (ref30_class_c hx16) rfl) rfl ?_
 refine TL.op1 (OpR.pure rfl) rfl ?_
 refine TL.nil ?_
 show T X _ _ _
 refine T.seq ?_
 obtain ⟨t17, ht17, h0⟩ := bnd_some h0
 refine T.cutC (fun S' => S' = ⟨[(4, .val (.int .i64 0)), (1, .val (.int .i64 t17))], [], 35⟩) (fun _ h => h) ?_ ?_
 rotate_left
 · rintro _ rfl
   show T X _ _ _
   refine T.seq ?_
   refine T.region ?_
   refine TL.op1 (OpR.pure rfl) rfl ?_
   refine TL.op1 (OpR.pure rfl) rfl ?_
   refine TL.nil ?_
   show T X _ _ _
   refine T.ret ?_
   obtain rfl := Option.some.inj h0
   exact PostG.retP (ks := []) (Gst.only [4] rfl) undef (ResL.cons (ResV.tmp rfl) ResL.nil) rfl rfl rfl rfl
 refine T.block ?_
 obtain ⟨n19, n24⟩ := loop_some ht17
 refine T.loop (fun n S' => ∃ S'', Gst S' S'' ∧ ∃ s18 : Int, S'' = ⟨[(5, .val (.int .i64 x16)), (4, .val (.int .i64 0)), (1, .val (.int .i64 s18)), (0, .val (.string (bs a0)))], [], 35⟩ ∧ iter (ref30_word.l2 a0 x16) n s18 = some t17) n19 ?_ ?_
 · exact ⟨_, Gst.only [0, 1, 4, 5] rfl, t1, rfl, n24⟩
 rintro n19 _ ⟨_, g, s18, rfl, i23⟩
 refine T.ghost g ?_
 obtain ⟨m20, q21, rfl, q22, i23⟩ := iter_succ i23
 unfold ref30_word.l2 at q22
 refine T.seq ?_
 refine T.seq ?_
 obtain ⟨t26, ht26, q22⟩ := bnd_some q22
 refine T.cutC (fun S' => S' = ⟨[(30, .val (.bool t26)), (5, .val (.int .i64 x16)), (4, .val (.int .i64 0)), (1, .val (.int .i64 s18)), (0, .val (.string (bs a0)))], [], 35⟩) (fun _ h => h) ?_ ?_
 rotate_left
 · rintro _ rfl
   show T X _ _ _
   rcases ite_some q22 with ⟨c29, q22⟩ | ⟨c29, q22⟩
   rotate_left
   · refine T.condF rfl (eq_false_of_ne_true c29) ?_
     refine T.exit ?_
     obtain rfl := Option.some.inj q22
     obtain rfl : _ = _ := i23
     exact ⟨_, Gst.only [1, 4] rfl, rfl⟩
   refine T.condT rfl (c29) ?_
   refine T.skip ?_
   show T X _ _ _
   refine T.block ?_
   refine T.region ?_
   refine TL.op1 (OpR.pure rfl) rfl ?_
   refine TL.op1 (OpR.pure rfl) rfl ?_
   obtain ⟨x30, hx30, q22⟩ := bnd_some q22
   refine TL.op1 (OpR.call0 fn54 (ref01_Prev_c hx30) rfl) rfl ?_
   refine TL.op1 (OpR.pure rfl) rfl ?_
   refine TL.nil ?_
   obtain rfl := Option.some.inj q22
   exact ⟨m20, Nat.lt_succ_self _, _, Gst.only [0, 1, 4, 5] rfl, x30, rfl, i23⟩
 refine T.region ?_
 refine TL.op1 (OpR.pure rfl) rfl ?_
 refine TL.op1 (OpR.pure rfl) rfl ?_
 refine TL.op1 (OpR.pure rfl) rfl ?_
 rcases ite_some ht26 with ⟨c27, ht26⟩ | ⟨c27, ht26⟩
 rotate_left
 · refine TL.off rfl rfl rfl rfl (decide_eq_false c27) rfl rfl ?_
   refine TL.off rfl rfl rfl rfl (decide_eq_false c27) rfl rfl ?_
   refine TL.off rfl rfl rfl rfl (decide_eq_false c27) rfl rfl ?_
   refine TL.off rfl rfl rfl rfl (decide_eq_false c27) rfl rfl ?_
   refine TL.off rfl rfl rfl rfl (decide_eq_false c27) rfl rfl ?_
   refine TL.op1 (OpR.pickF rfl (decide_eq_false c27) rfl) rfl ?_
   refine TL.nil ?_
   obtain rfl := Option.some.inj ht26
   exact ⟨_, Gst.only [0, 1, 4, 5, 30] rfl, rfl⟩
 refine TL.on rfl rfl rfl rfl (decide_eq_true c27) ?_
 refine TL.op1 (OpR.pure rfl) rfl ?_
 refine TL.on rfl rfl rfl rfl (decide_eq_true c27) ?_
 refine TL.op1 (OpR.pure rfl) rfl ?_
 refine TL.on rfl rfl rfl rfl (decide_eq_true c27) ?_
 obtain ⟨x28, hx28, ht26⟩ := bnd_some ht26
 refine TL.op1 (OpR.call0 fn70 (ref30_class_c hx28) rfl) rfl ?_
 refine TL.on rfl rfl rfl rfl (decide_eq_true c27) ?_
 refine TL.op1 (OpR.pure rfl) rfl ?_
 refine TL.on rfl rfl rfl rfl (decide_eq_true c27) ?_
 refine TL.op1 (OpR.pure rfl) rfl ?_
 refine TL.op1 (OpR.pickT rfl (decide_eq_true c27) rfl) rfl ?_
 refine TL.nil ?_
 obtain rfl := Option.some.inj ht26
 exact ⟨_, Gst.only [0, 1, 4, 5, 30] rfl, rfl⟩
noncomputable def ref01_Next.l1 (a1 : Int) (x1 : (List Int)) (s4 : Int) : Option (Lp Int (Ex Unit Int)) :=
  if s4 < (x1.length : Int) then
    bnd (idx x1 s4) fun x13 =>
    if x13 > a1 then
      some (Lp.done (Ex.ret x13))
    else
      some (Lp.next (w64 (s4 + 1)))
  else
    some (Lp.done (Ex.brk ()))
noncomputable def ref01_Next (a0 : List UInt8) (a1 : Int) : Option Int :=
  bnd (ref01_Bounds a0) fun x1 =>
  bnd (loop (ref01_Next.l1 a1 x1) 0 : Option (Ex Unit Int)) fun t2 => match t2 with
    | .brk u3 =>
      some (a0.length : Int)
    | .ret u3 => some u3
set_option maxHeartbeats 4000000 in
theorem ref01_Next_c {a0 : List UInt8} {a1 : Int} {res : Int} (h0 : ref01_Next a0 a1 = some res) : CallF X 56 [.val (.string (bs a0)), .val (.int .i64 a1)] [] (fun x => .val (.int .i64 res)) (fun x => []) := by
 unfold ref01_Next at h0
 refine CallF.mkG (X := X) Try.func56 rfl rfl Try.ntmps56 rfl rfl ?_
 refine T.seq ?_
 refine T.region ?_
 refine TL.op1 (OpR.pure rfl) rfl ?_
 refine TL.nil ?_
 show T X _ _ _
 refine T.seq ?_
 refine T.seq ?_
 refine T.region ?_
 refine TL.op1 (OpR.pure rfl) rfl ?_
 obtain ⟨x1, hx1, h0⟩ := bnd_some h0
 refine TL.op1 (OpR.call0 fn34 (ref01_Bounds_c hx1) rfl) rfl ?_
 refine TL.op1 (OpR.cast (OpR.pure rfl) (intE (lenM _ _))) rfl ?_
 refine TL.op1 (OpR.pure rfl) rfl ?_
 refine TL.nil ?_
 show T X _ _ _
 obtain ⟨t2, ht2, h0⟩ := bnd_some h0
 refine T.cutC (fun S' => ∃ u3, t2 = Ex.brk u3 ∧ S' = ⟨[(4, .val (.int .i64 0)), (0, .val (.string (bs a0)))], [], 21⟩) (fun _ h => h) ?_ ?_
 rotate_left
 · rintro _ ⟨u3, rfl, rfl⟩
   show T X _ _ _
   refine T.seq ?_
   refine T.region ?_
   refine TL.op1 (OpR.pure rfl) rfl ?_
   refine TL.op1 (OpR.cast (OpR.pure rfl) (intE (lenS _))) rfl ?_
   refine TL.op1 (OpR.pure rfl) rfl ?_
   refine TL.nil ?_
   show T X _ _ _
   refine T.ret ?_
   obtain rfl := Option.some.inj h0
   exact PostG.retP (ks := []) (Gst.only [4] rfl) undef (ResL.cons (ResV.tmp rfl) ResL.nil) rfl rfl rfl rfl
 refine T.block ?_
 obtain ⟨n5, n10⟩ := loop_some ht2
 refine T.loop (fun n S' => ∃ S'', Gst S' S'' ∧ ∃ s4 : Int, S'' = ⟨[(10, .val (.int .i64 s4)), (9, .val (.int .i64 (x1.length : Int))), (8, .sl 1 (List.map (eI .i64) x1)), (4, .val (.int .i64 0)), (1, .val (.int .i64 a1)), (0, .val (.string (bs a0)))], [], 21⟩ ∧ iter (ref01_Next.l1 a1 x1) n s4 = some t2) n5 ?_ ?_
 · exact ⟨_, Gst.only [0, 1, 4, 8, 9, 10] rfl, 0, rfl, n10⟩
 rintro n5 _ ⟨_, g, s4, rfl, i9⟩
 refine T.ghost g ?_
 obtain ⟨m6, q7, rfl, q8, i9⟩ := iter_succ i9
 unfold ref01_Next.l1 at q8
 refine T.seq ?_
 refine T.region ?_
 refine TL.op1 (OpR.pure rfl) rfl ?_
 refine TL.nil ?_
 show T X _ _ _
 refine T.seq ?_
 rcases ite_some q8 with ⟨c12, q8⟩ | ⟨c12, q8⟩
 rotate_left
 · refine T.condF rfl (decide_eq_false c12) ?_
   refine T.exit ?_
   obtain rfl := Option.some.inj q8
   obtain rfl : _ = _ := i9
   exact ⟨_, Gst.only [0, 4] rfl, _, rfl, rfl⟩
 refine T.condT rfl (decide_eq_true c12) ?_
 refine T.skip ?_
 show T X _ _ _
 refine T.seq ?_
 refine T.block ?_
 refine T.seq ?_
 refine T.region ?_
 obtain ⟨x13, hx13, q8⟩ := bnd_some q8
 refine TL.op1 (OpR.indexM (eI .i64) hx13 rfl rfl rfl rfl rfl) rfl ?_
 refine TL.op1 (OpR.pure rfl) rfl ?_
 refine TL.op1 (OpR.pure rfl) rfl ?_
 refine TL.nil ?_
 show T X _ _ _
 refine T.seq ?_
 refine T.region ?_
 refine TL.op1 (OpR.pure rfl) rfl ?_
 refine TL.op1 (OpR.pure rfl) rfl ?_
 refine TL.op1 (OpR.pure rfl) rfl ?_
 refine TL.nil ?_
 show T X _ _ _
 rcases ite_some q8 with ⟨c14, q8⟩ | ⟨c14, q8⟩
 rotate_left
 · refine T.condF rfl (decide_eq_false c14) ?_
   refine T.skip ?_
   show T X _ _ _
   refine T.region ?_
   refine TL.op1 (OpR.pure rfl) rfl ?_
   refine TL.op1 (OpR.pure rfl) rfl ?_
   refine TL.nil ?_
   obtain rfl := Option.some.inj q8
   exact ⟨m6, Nat.lt_succ_self _, _, Gst.only [0, 1, 4, 8, 9, 10] rfl, w64 (s4 + 1), rfl, i9⟩
 refine T.condT rfl (decide_eq_true c14) ?_
 refine T.seq ?_
 refine T.region ?_
 refine TL.op1 (OpR.pure rfl) rfl ?_
 refine TL.op1 (OpR.pure rfl) rfl ?_
 refine TL.nil ?_
 show T X _ _ _
 refine T.ret ?_
 obtain rfl := Option.some.inj q8
 obtain rfl : _ = _ := i9
 obtain rfl := Option.some.inj h0
 exact PostG.retP (ks := []) (Gst.only [4] rfl) undef (ResL.cons (ResV.tmp rfl) ResL.nil) rfl rfl rfl rfl
noncomputable def ref30_Raw (a0 : ref30_Text) (a1 : Int) : Option (ref30_Text × Bool) :=
  bnd (ref30_Bound a0.fS a0.fAt) fun x3 =>
  bnd (cut a0.fS 0 x3) fun x5 =>
  bnd (cut a0.fS x3 (a0.fS.length : Int)) fun x6 =>
  bnd (bnd (ref22_Types a1) fun x8 =>
  if x8 = true then
    some true
  else
    some (a1 == 10) : Option Bool) fun t7 =>
  if t7 = true then
    bnd (ref01_Put a1) fun x12 =>
    bnd (catS x5 x12) fun x13 =>
    bnd (catS x13 x6) fun x14 =>
    bnd (ref01_Put a1) fun x15 =>
    some ((⟨x14, w64 (x3 + (x15.length : Int))⟩ : ref30_Text), true)
  else
    bnd (if a1 = 8 then
      bnd (ref01_Prev a0.fS x3) fun x18 =>
      some x18
    else
      some x3 : Option Int) fun t16 =>
    bnd (if a1 = 21 then
      some 0
    else
      some t16 : Option Int) fun t19 =>
    bnd (if a1 = 23 then
      bnd (ref30_word a0.fS x3) fun x23 =>
      some x23
    else
      some t19 : Option Int) fun t21 =>
    bnd (if a1 = 8 then
      some true
    else
      if a1 = 21 then
        some true
      else
        some (a1 == 23) : Option Bool) fun t24 =>
    if t24 = true then
      bnd (cut a0.fS 0 t21) fun x28 =>
      bnd (catS x28 x6) fun x29 =>
      some ((⟨x29, t21⟩ : ref30_Text), true)
    else
      if a1 = 127 then
        bnd (ref01_Next a0.fS x3) fun x32 =>
        bnd (cut a0.fS x32 (a0.fS.length : Int)) fun x33 =>
        bnd (catS x5 x33) fun x34 =>
        some ((⟨x34, x3⟩ : ref30_Text), true)
      else
        if a1 = (-1) then
          bnd (ref01_Prev a0.fS x3) fun x37 =>
          some ((⟨a0.fS, x37⟩ : ref30_Text), true)
        else
          if a1 = (-2) then
            bnd (ref01_Next a0.fS x3) fun x40 =>
            some ((⟨a0.fS, x40⟩ : ref30_Text), true)
          else
            if a1 = (-5) then
              some ((⟨a0.fS, 0⟩ : ref30_Text), true)
            else
              if a1 = (-6) then
                some ((⟨a0.fS, (a0.fS.length : Int)⟩ : ref30_Text), true)
              else
                some ((⟨a0.fS, x3⟩ : ref30_Text), false)
set_option maxHeartbeats 4000000 in
theorem ref30_Raw_c {a0 : ref30_Text} {a1 : Int} {res : ref30_Text × Bool} (h0 : ref30_Raw a0 a1 = some res) : CallF X 37 [.agg [.val (.string (bs a0.fS)), .val (.int .i64 a0.fAt)], .val (.int .i64 a1)] [] (fun x => .tup [.agg [.val (.string (bs res.1.fS)), .val (.int .i64 res.1.fAt)], .val (.bool res.2)]) (fun x => []) := by
 unfold ref30_Raw at h0
 refine CallF.mkG (X := X) Try.func37 rfl rfl Try.ntmps37 rfl rfl ?_
 refine T.seq ?_
 refine T.region ?_
 refine TL.op (OpR.boxVar rfl rfl (fun _ => rfl)) rfl (fun p1 => ?_)
 refine TL.op (OpR.alloc rfl rfl (fun _ => rfl)) rfl (fun p2 => ?_)
 refine TL.op1 (OpR.pure rfl) rfl ?_
 refine TL.nil ?_
 show T X _ _ _
 refine T.seq ?_
 refine T.region ?_
 refine TL.op1 (OpR.pure rfl) rfl ?_
 refine TL.op1 (OpR.loadPtr 0 rfl rfl rfl rfl) rfl ?_
 refine TL.op1 (OpR.pure rfl) rfl ?_
 refine TL.op1 (OpR.loadPtr 0 rfl rfl rfl rfl) rfl ?_
 obtain ⟨x3, hx3, h0⟩ := bnd_some h0
 refine TL.op1 (OpR.call0 fn10 (ref30_Bound_c hx3) rfl) rfl ?_
 refine TL.op1 (OpR.pure rfl) rfl ?_
 refine TL.op0 (OpR.store 0 rfl rfl rfl rfl rfl rfl rfl rfl) ?_
 refine TL.nil ?_
 show T X _ _ _
 refine T.seq ?_
 obtain ⟨x5, hx5, h0⟩ := bnd_some h0
 obtain ⟨x6, hx6, h0⟩ := bnd_some h0
 refine T.drawQ drawsX [.val (.pointer (some ⟨(blk p1), 0, none⟩)), .val (.string (bs a0.fS)), .val (.pointer (some ⟨(blk p1), 1, none⟩)), .val (.int .i64 x3), .val (.string (bs x5)), .val (.pointer (some ⟨(blk p1), 0, none⟩)), .val (.string (bs a0.fS)), .val (.pointer (some ⟨(blk p1), 1, none⟩)), .val (.int .i64 x3), .val (.string (bs x6)), .val (.string (bs x5)), .val (.string (bs x6))] [0, 1, 2, 4, 5, 6, 7, 9, 10, 11, 12, 13, 14, 15, 16, 17, 18, 19, 20, 21, 22, 23, 24] (by decide +kernel) rfl ?_ rfl ?_
 · refine OpsQ.yes (Want.plain rfl) rfl (OpR.pure rfl) ?_
   refine OpsQ.yes (Want.plain rfl) rfl (OpR.loadPtr 0 rfl rfl rfl rfl) ?_
   refine OpsQ.yes (Want.plain rfl) rfl (OpR.pure rfl) ?_
   refine OpsQ.yes (Want.plain rfl) rfl (OpR.loadPtr 0 rfl rfl rfl rfl) ?_
   refine OpsQ.yes (Want.plain rfl) rfl (OpR.sliceS hx5 rfl rfl rfl BdM.none (BdM.some rfl)) ?_
   refine OpsQ.yes (Want.plain rfl) rfl (OpR.pure rfl) ?_
   refine OpsQ.yes (Want.plain rfl) rfl (OpR.loadPtr 0 rfl rfl rfl rfl) ?_
   refine OpsQ.yes (Want.plain rfl) rfl (OpR.pure rfl) ?_
   refine OpsQ.yes (Want.plain rfl) rfl (OpR.loadPtr 0 rfl rfl rfl rfl) ?_
   refine OpsQ.yes (Want.plain rfl) rfl (OpR.sliceS hx6 rfl rfl rfl (BdM.some rfl) BdM.none) ?_
   refine OpsQ.yes (Want.plain rfl) rfl (OpR.pure rfl) ?_
   refine OpsQ.yes (Want.plain rfl) rfl (OpR.pure rfl) ?_
   exact OpsQ.nil
 show T X _ _ _
 refine T.seq ?_
 refine T.seq ?_
 obtain ⟨t7, ht7, h0⟩ := bnd_some h0
 refine T.cutC (fun S' => S' = ⟨[(30, .val (.bool t7)), (7, .val (.string (bs x6))), (6, .val (.string (bs x5))), (5, .val (.bool false)), (4, .val (.pointer (some ⟨(blk p2), 0, none⟩))), (2, .val (.pointer (some ⟨(blk p1), 0, none⟩))), (1, .val (.int .i64 a1))], [.var (blk p1) [.val (.string (bs a0.fS)), .val (.int .i64 x3)] 27, .var (blk p2) [.val (.string (bs [])), .val (.int .i64 0)] 27], 129⟩) (fun _ h => h) ?_ ?_
 · refine T.region ?_
   refine TL.op1 (OpR.pure rfl) rfl ?_
   obtain ⟨x8, hx8, ht7⟩ := bnd_some ht7
   refine TL.op1 (OpR.call0 fn14 (ref22_Types_c hx8) rfl) rfl ?_
   refine TL.op1 (OpR.pure rfl) rfl ?_
   rcases ite_some ht7 with ⟨c9, ht7⟩ | ⟨c9, ht7⟩
   · refine TL.off rfl rfl rfl rfl (c9) rfl rfl ?_
     refine TL.off rfl rfl rfl rfl (c9) rfl rfl ?_
     refine TL.op1 (OpR.pickT rfl (c9) rfl) rfl ?_
     refine TL.nil ?_
     obtain rfl := Option.some.inj ht7
     exact ⟨_, Gst.only [1, 2, 4, 5, 6, 7, 30] rfl, rfl⟩
   refine TL.on rfl rfl rfl rfl (eq_false_of_ne_true c9) ?_
   refine TL.op1 (OpR.pure rfl) rfl ?_
   refine TL.on rfl rfl rfl rfl (eq_false_of_ne_true c9) ?_
   refine TL.op1 (OpR.pure rfl) rfl ?_
   refine TL.op1 (OpR.pickF rfl (eq_false_of_ne_true c9) rfl) rfl ?_
   refine TL.nil ?_
   obtain rfl := Option.some.inj ht7
   exact ⟨_, Gst.only [1, 2, 4, 5, 6, 7, 30] rfl, rfl⟩
 rintro _ rfl
 show T X _ _ _
 rcases ite_some h0 with ⟨c10, h0⟩ | ⟨c10, h0⟩
 · refine T.condT rfl (c10) ?_
   refine T.seq ?_
   obtain ⟨x12, hx12, h0⟩ := bnd_some h0
   obtain ⟨x13, hx13, h0⟩ := bnd_some h0
   obtain ⟨x14, hx14, h0⟩ := bnd_some h0
   obtain ⟨x15, hx15, h0⟩ := bnd_some h0
   refine T.drawS drawsX (fun env11 => [.val (.string (bs x5)), .val (.int .i64 a1), .val (.string (bs x12)), .val (.string (bs x13)), .val (.string (bs x6)), .val (.string (bs x14)), .val (.pointer (some ⟨(blk p1), 1, none⟩)), .val (.int .i64 x3), .val (.int .i64 a1), .val (.string (bs x15)), .val (.int .i64 (x15.length : Int)), .val (.int .i64 (w64 (x3 + (x15.length : Int)))), .agg [.val (.string (bs x14)), .val (.int .i64 (w64 (x3 + (x15.length : Int))))], .dead, .val (.bool true)]) (fun D env11 => [.var (blk p1) [.val (.string (bs a0.fS)), .val (.int .i64 x3)] 27, (bif D 13 then .var (blk p2) [.val (.string (bs x14)), .val (.int .i64 (w64 (x3 + (x15.length : Int))))] 27 else .var (blk p2) [.val (.string (bs [])), .val (.int .i64 0)] 27)]) [0, 0, 2, 7, 0, 31, 0, 64, 0, 262, 774, 1990, 4095, 8191, 16383] [1, 2, 4, 5, 6, 7, 30, 31, 32, 33, 34, 35, 36, 37, 38, 39, 40, 41, 42, 43] (fun env11 => [.var (blk p1) [.val (.string (bs a0.fS)), .val (.int .i64 x3)] 27, .var (blk p2) [.val (.string (bs x14)), .val (.int .i64 (w64 (x3 + (x15.length : Int))))] 27]) (by decide +kernel) (by decide +kernel) (fun _ => rfl) (fun _ => rfl) ?_ (fun _ => rfl) (fun _ => rfl) ?_
   rotate_left
   · intro env11
     show T X _ _ _
     refine T.ret ?_
     obtain rfl := Option.some.inj h0
     exact PostG.retP (ks := []) (Gst.trans (Gst.only [4, 5] rfl) (Gst.pick [1] rfl rfl)) undef (ResL.cons (ResV.var 0 rfl rfl rfl rfl) (ResL.cons (ResV.tmp rfl) ResL.nil)) rfl rfl rfl rfl
   refine oS (d := .val (.string (bs x5))) (fun _ => Want.plain rfl) (fun _ => rfl) (fun _ _ _ => rfl) (fun _ _ => OpR.pure rfl) (fun _ _ _ _ _ _ _ => rfl) ?_
   refine oS (d := .val (.int .i64 a1)) (fun _ => Want.plain rfl) (fun _ => rfl) (fun _ _ _ => rfl) (fun _ _ => OpR.pure rfl) (fun _ _ _ _ _ _ _ => rfl) ?_
   refine oS (d := .val (.string (bs x12))) (fun _ => Want.plain rfl) (fun _ => rfl) (fun _ _ _ => rfl) (fun _ _ => OpR.call0 fn38 (ref01_Put_c hx12) rfl) (fun _ _ _ _ _ _ _ => rfl) ?_
   refine oS (d := .val (.string (bs x13))) (fun _ => Want.plain rfl) (fun _ => rfl) (fun _ _ _ => rfl) (fun _ _ => OpR.concatM hx13 rfl rfl) (fun _ _ _ _ _ _ _ => rfl) ?_
   refine oS (d := .val (.string (bs x6))) (fun _ => Want.plain rfl) (fun _ => rfl) (fun _ _ _ => rfl) (fun _ _ => OpR.pure rfl) (fun _ _ _ _ _ _ _ => rfl) ?_
   refine oS (d := .val (.string (bs x14))) (fun _ => Want.plain rfl) (fun _ => rfl) (fun _ _ _ => rfl) (fun _ _ => OpR.concatM hx14 rfl rfl) (fun _ _ _ _ _ _ _ => rfl) ?_
   refine oS (d := .val (.pointer (some ⟨(blk p1), 1, none⟩))) (fun _ => Want.plain rfl) (fun _ => rfl) (fun _ _ _ => rfl) (fun _ _ => OpR.pure rfl) (fun _ _ _ _ _ _ _ => rfl) ?_
   refine oS (d := .val (.int .i64 x3)) (fun _ => Want.plain rfl) (fun _ => rfl) (fun _ _ _ => rfl) (fun _ _ => OpR.loadPtr 0 rfl rfl rfl rfl) (fun _ _ _ _ _ _ _ => rfl) ?_
   refine oS (d := .val (.int .i64 a1)) (fun _ => Want.plain rfl) (fun _ => rfl) (fun _ _ _ => rfl) (fun _ _ => OpR.pure rfl) (fun _ _ _ _ _ _ _ => rfl) ?_
   refine oS (d := .val (.string (bs x15))) (fun _ => Want.plain rfl) (fun _ => rfl) (fun _ _ _ => rfl) (fun _ _ => OpR.call0 fn38 (ref01_Put_c hx15) rfl) (fun _ _ _ _ _ _ _ => rfl) ?_
   refine oS (d := .val (.int .i64 (x15.length : Int))) (fun _ => Want.plain rfl) (fun _ => rfl) (fun _ _ _ => rfl) (fun _ _ => OpR.cast (OpR.pure rfl) (intE (lenS _))) (fun _ _ _ _ _ _ _ => rfl) ?_
   refine oS (d := .val (.int .i64 (w64 (x3 + (x15.length : Int))))) (fun _ => Want.plain rfl) (fun _ => rfl) (fun _ _ _ => rfl) (fun _ _ => OpR.pure rfl) (fun _ _ _ _ _ _ _ => rfl) ?_
   refine oS (d := .agg [.val (.string (bs x14)), .val (.int .i64 (w64 (x3 + (x15.length : Int))))]) (fun _ => Want.plain rfl) (fun _ => rfl) (fun _ _ _ => rfl) (fun _ _ => OpR.build rfl rfl rfl rfl rfl) (fun _ _ _ _ _ _ _ => rfl) ?_
   refine OpsS.cons' true ?_ (fun _ _ _ _ _ _ _ => rfl) ?_
   · intro D env11 hA
     exact OpS.yes (o0 := [.var (blk p1) [.val (.string (bs a0.fS)), .val (.int .i64 x3)] 27, .var (blk p2) [.val (.string (bs [])), .val (.int .i64 0)] 27]) (o1 := fun x => [.var (blk p1) [.val (.string (bs a0.fS)), .val (.int .i64 x3)] 27, .var (blk p2) [.val (.string (bs x14)), .val (.int .i64 (w64 (x3 + (x15.length : Int))))] 27]) (d := fun x => .dead) (Want.plain rfl) (by first | rfl | simp only [hA.me, cond_true, cond_false, List.cons_append, List.nil_append, List.append_nil]) (fun x => by first | rfl | simp only [ins_self, upd_self, hA.me, cond_true, cond_false, List.cons_append, List.nil_append, List.append_nil]) (fun x => rfl) (OpR.store 1 rfl rfl rfl rfl rfl rfl rfl rfl)
   refine oS (d := .val (.bool true)) (fun _ => Want.plain rfl) (fun _ => rfl) (fun _ _ _ => rfl) (fun _ _ => OpR.pure rfl) (fun _ _ _ _ _ _ _ => rfl) ?_
   exact trivial
 refine T.condF rfl (eq_false_of_ne_true c10) ?_
 refine T.skip ?_
 show T X _ _ _
 refine T.seq ?_
 refine T.region ?_
 refine TL.op1 (OpR.pure rfl) rfl ?_
 refine TL.op1 (OpR.loadPtr 0 rfl rfl rfl rfl) rfl ?_
 refine TL.op1 (OpR.pure rfl) rfl ?_
 refine TL.nil ?_
 show T X _ _ _
 refine T.seq ?_
 refine T.seq ?_
 refine T.region ?_
 refine TL.op1 (OpR.pure rfl) rfl ?_
 refine TL.op1 (OpR.pure rfl) rfl ?_
 refine TL.nil ?_
 show T X _ _ _
 obtain ⟨t16, ht16, h0⟩ := bnd_some h0
 refine T.cutC (fun S' => S' = ⟨[(8, .val (.int .i64 t16)), (7, .val (.string (bs x6))), (6, .val (.string (bs x5))), (5, .val (.bool false)), (4, .val (.pointer (some ⟨(blk p2), 0, none⟩))), (2, .val (.pointer (some ⟨(blk p1), 0, none⟩))), (1, .val (.int .i64 a1))], [.var (blk p1) [.val (.string (bs a0.fS)), .val (.int .i64 x3)] 27, .var (blk p2) [.val (.string (bs [])), .val (.int .i64 0)] 27], 129⟩) (fun _ h => h) ?_ ?_
 · rcases ite_some ht16 with ⟨c17, ht16⟩ | ⟨c17, ht16⟩
   rotate_left
   · refine T.condF rfl (beq_eq_false_iff_ne.2 c17) ?_
     refine T.skip ?_
     obtain rfl := Option.some.inj ht16
     exact ⟨_, Gst.only [1, 2, 4, 5, 6, 7, 8] rfl, rfl⟩
   refine T.condT rfl (beq_iff_eq.2 c17) ?_
   refine T.region ?_
   refine TL.op1 (OpR.pure rfl) rfl ?_
   refine TL.op1 (OpR.loadPtr 0 rfl rfl rfl rfl) rfl ?_
   refine TL.op1 (OpR.pure rfl) rfl ?_
   refine TL.op1 (OpR.loadPtr 0 rfl rfl rfl rfl) rfl ?_
   obtain ⟨x18, hx18, ht16⟩ := bnd_some ht16
   refine TL.op1 (OpR.call0 fn54 (ref01_Prev_c hx18) rfl) rfl ?_
   refine TL.op1 (OpR.pure rfl) rfl ?_
   refine TL.nil ?_
   obtain rfl := Option.some.inj ht16
   exact ⟨_, Gst.only [1, 2, 4, 5, 6, 7, 8] rfl, rfl⟩
 rintro _ rfl
 show T X _ _ _
 refine T.seq ?_
 refine T.seq ?_
 refine T.region ?_
 refine TL.op1 (OpR.pure rfl) rfl ?_
 refine TL.op1 (OpR.pure rfl) rfl ?_
 refine TL.nil ?_
 show T X _ _ _
 obtain ⟨t19, ht19, h0⟩ := bnd_some h0
 refine T.cutC (fun S' => S' = ⟨[(8, .val (.int .i64 t19)), (7, .val (.string (bs x6))), (6, .val (.string (bs x5))), (5, .val (.bool false)), (4, .val (.pointer (some ⟨(blk p2), 0, none⟩))), (2, .val (.pointer (some ⟨(blk p1), 0, none⟩))), (1, .val (.int .i64 a1))], [.var (blk p1) [.val (.string (bs a0.fS)), .val (.int .i64 x3)] 27, .var (blk p2) [.val (.string (bs [])), .val (.int .i64 0)] 27], 129⟩) (fun _ h => h) ?_ ?_
 · rcases ite_some ht19 with ⟨c20, ht19⟩ | ⟨c20, ht19⟩
   rotate_left
   · refine T.condF rfl (beq_eq_false_iff_ne.2 c20) ?_
     refine T.skip ?_
     obtain rfl := Option.some.inj ht19
     exact ⟨_, Gst.only [1, 2, 4, 5, 6, 7, 8] rfl, rfl⟩
   refine T.condT rfl (beq_iff_eq.2 c20) ?_
   refine T.region ?_
   refine TL.op1 (OpR.pure rfl) rfl ?_
   refine TL.nil ?_
   obtain rfl := Option.some.inj ht19
   exact ⟨_, Gst.only [1, 2, 4, 5, 6, 7, 8] rfl, rfl⟩
 rintro _ rfl
 show T X _ _ _
 refine T.seq ?_
 refine T.seq ?_
 refine T.region ?_
 refine TL.op1 (OpR.pure rfl) rfl ?_
 refine TL.op1 (OpR.pure rfl) rfl ?_
 refine TL.nil ?_
 show T X _ _ _
 obtain ⟨t21, ht21, h0⟩ := bnd_some h0
 refine T.cutC (fun S' => S' = ⟨[(8, .val (.int .i64 t21)), (7, .val (.string (bs x6))), (6, .val (.string (bs x5))), (5, .val (.bool false)), (4, .val (.pointer (some ⟨(blk p2), 0, none⟩))), (2, .val (.pointer (some ⟨(blk p1), 0, none⟩))), (1, .val (.int .i64 a1))], [.var (blk p1) [.val (.string (bs a0.fS)), .val (.int .i64 x3)] 27, .var (blk p2) [.val (.string (bs [])), .val (.int .i64 0)] 27], 129⟩) (fun _ h => h) ?_ ?_
 · rcases ite_some ht21 with ⟨c22, ht21⟩ | ⟨c22, ht21⟩
   rotate_left
   · refine T.condF rfl (beq_eq_false_iff_ne.2 c22) ?_
     refine T.skip ?_
     obtain rfl := Option.some.inj ht21
     exact ⟨_, Gst.only [1, 2, 4, 5, 6, 7, 8] rfl, rfl⟩
   refine T.condT rfl (beq_iff_eq.2 c22) ?_
   refine T.region ?_
   refine TL.op1 (OpR.pure rfl) rfl ?_
   refine TL.op1 (OpR.loadPtr 0 rfl rfl rfl rfl) rfl ?_
   refine TL.op1 (OpR.pure rfl) rfl ?_
   refine TL.op1 (OpR.loadPtr 0 rfl rfl rfl rfl) rfl ?_
   obtain ⟨x23, hx23, ht21⟩ := bnd_some ht21
   refine TL.op1 (OpR.call0 fn55 (ref30_word_c hx23) rfl) rfl ?_
   refine TL.op1 (OpR.pure rfl) rfl ?_
   refine TL.nil ?_
   obtain rfl := Option.some.inj ht21
   exact ⟨_, Gst.only [1, 2, 4, 5, 6, 7, 8] rfl, rfl⟩
 rintro _ rfl
 show T X _ _ _
 refine T.seq ?_
 refine T.seq ?_
 obtain ⟨t24, ht24, h0⟩ := bnd_some h0
 refine T.cutC (fun S' => S' = ⟨[(71, .val (.bool t24)), (8, .val (.int .i64 t21)), (7, .val (.string (bs x6))), (6, .val (.string (bs x5))), (5, .val (.bool false)), (4, .val (.pointer (some ⟨(blk p2), 0, none⟩))), (2, .val (.pointer (some ⟨(blk p1), 0, none⟩))), (1, .val (.int .i64 a1))], [.var (blk p1) [.val (.string (bs a0.fS)), .val (.int .i64 x3)] 27, .var (blk p2) [.val (.string (bs [])), .val (.int .i64 0)] 27], 129⟩) (fun _ h => h) ?_ ?_
 · refine T.region ?_
   refine TL.op1 (OpR.pure rfl) rfl ?_
   refine TL.op1 (OpR.pure rfl) rfl ?_
   refine TL.op1 (OpR.pure rfl) rfl ?_
   rcases ite_some ht24 with ⟨c25, ht24⟩ | ⟨c25, ht24⟩
   · refine TL.off rfl rfl rfl rfl (beq_iff_eq.2 c25) rfl rfl ?_
     refine TL.off rfl rfl rfl rfl (beq_iff_eq.2 c25) rfl rfl ?_
     refine TL.op1 (OpR.pickT rfl (beq_iff_eq.2 c25) rfl) rfl ?_
     refine TL.op1 (OpR.pure rfl) rfl ?_
     refine TL.off rfl rfl rfl rfl rfl rfl rfl ?_
     refine TL.off rfl rfl rfl rfl rfl rfl rfl ?_
     refine TL.op1 (OpR.pickT rfl rfl rfl) rfl ?_
     refine TL.nil ?_
     obtain rfl := Option.some.inj ht24
     exact ⟨_, Gst.only [1, 2, 4, 5, 6, 7, 8, 71] rfl, rfl⟩
   refine TL.on rfl rfl rfl rfl (beq_eq_false_iff_ne.2 c25) ?_
   refine TL.op1 (OpR.pure rfl) rfl ?_
   refine TL.on rfl rfl rfl rfl (beq_eq_false_iff_ne.2 c25) ?_
   refine TL.op1 (OpR.pure rfl) rfl ?_
   refine TL.op1 (OpR.pickF rfl (beq_eq_false_iff_ne.2 c25) rfl) rfl ?_
   refine TL.op1 (OpR.pure rfl) rfl ?_
   rcases ite_some ht24 with ⟨c26, ht24⟩ | ⟨c26, ht24⟩
   · refine TL.off rfl rfl rfl rfl (beq_iff_eq.2 c26) rfl rfl ?_
     refine TL.off rfl rfl rfl rfl (beq_iff_eq.2 c26) rfl rfl ?_
     refine TL.op1 (OpR.pickT rfl (beq_iff_eq.2 c26) rfl) rfl ?_
     refine TL.nil ?_
     obtain rfl := Option.some.inj ht24
     exact ⟨_, Gst.only [1, 2, 4, 5, 6, 7, 8, 71] rfl, rfl⟩
   refine TL.on rfl rfl rfl rfl (beq_eq_false_iff_ne.2 c26) ?_
   refine TL.op1 (OpR.pure rfl) rfl ?_
   refine TL.on rfl rfl rfl rfl (beq_eq_false_iff_ne.2 c26) ?_
   refine TL.op1 (OpR.pure rfl) rfl ?_
   refine TL.op1 (OpR.pickF rfl (beq_eq_false_iff_ne.2 c26) rfl) rfl ?_
   refine TL.nil ?_
   obtain rfl := Option.some.inj ht24
   exact ⟨_, Gst.only [1, 2, 4, 5, 6, 7, 8, 71] rfl, rfl⟩
 rintro _ rfl
 show T X _ _ _
 rcases ite_some h0 with ⟨c27, h0⟩ | ⟨c27, h0⟩
 · refine T.condT rfl (c27) ?_
   refine T.seq ?_
   refine T.region ?_
   refine TL.op1 (OpR.pure rfl) rfl ?_
   refine TL.op1 (OpR.loadPtr 0 rfl rfl rfl rfl) rfl ?_
   refine TL.op1 (OpR.pure rfl) rfl ?_
   obtain ⟨x28, hx28, h0⟩ := bnd_some h0
   refine TL.op1 (OpR.sliceS hx28 rfl rfl rfl BdM.none (BdM.some rfl)) rfl ?_
   refine TL.op1 (OpR.pure rfl) rfl ?_
   obtain ⟨x29, hx29, h0⟩ := bnd_some h0
   refine TL.op1 (OpR.concatM hx29 rfl rfl) rfl ?_
   refine TL.op1 (OpR.pure rfl) rfl ?_
   refine TL.op1 (OpR.build rfl rfl rfl rfl rfl) rfl ?_
   refine TL.op0 (OpR.store 1 rfl rfl rfl rfl rfl rfl rfl rfl) ?_
   refine TL.op1 (OpR.pure rfl) rfl ?_
   refine TL.nil ?_
   show T X _ _ _
   refine T.ret ?_
   obtain rfl := Option.some.inj h0
   exact PostG.retP (ks := []) (Gst.trans (Gst.only [4, 5] rfl) (Gst.pick [1] rfl rfl)) undef (ResL.cons (ResV.var 0 rfl rfl rfl rfl) (ResL.cons (ResV.tmp rfl) ResL.nil)) rfl rfl rfl rfl
 refine T.condF rfl (eq_false_of_ne_true c27) ?_
 refine T.skip ?_
 show T X _ _ _
 refine T.seq ?_
 refine T.seq ?_
 refine T.region ?_
 refine TL.op1 (OpR.pure rfl) rfl ?_
 refine TL.op1 (OpR.pure rfl) rfl ?_
 refine TL.nil ?_
 show T X _ _ _
 rcases ite_some h0 with ⟨c30, h0⟩ | ⟨c30, h0⟩
 · refine T.condT rfl (beq_iff_eq.2 c30) ?_
   refine T.seq ?_
   obtain ⟨x32, hx32, h0⟩ := bnd_some h0
   obtain ⟨x33, hx33, h0⟩ := bnd_some h0
   obtain ⟨x34, hx34, h0⟩ := bnd_some h0
   refine T.drawS drawsX (fun env31 => [.val (.string (bs x5)), .val (.pointer (some ⟨(blk p1), 0, none⟩)), .val (.string (bs a0.fS)), .val (.pointer (some ⟨(blk p1), 0, none⟩)), .val (.string (bs a0.fS)), .val (.pointer (some ⟨(blk p1), 1, none⟩)), .val (.int .i64 x3), .val (.int .i64 x32), .val (.string (bs x33)), .val (.string (bs x34)), .val (.pointer (some ⟨(blk p1), 1, none⟩)), .val (.int .i64 x3), .agg [.val (.string (bs x34)), .val (.int .i64 x3)], .dead, .val (.bool true)]) (fun D env31 => [.var (blk p1) [.val (.string (bs a0.fS)), .val (.int .i64 x3)] 27, (bif D 13 then .var (blk p2) [.val (.string (bs x34)), .val (.int .i64 x3)] 27 else .var (blk p2) [.val (.string (bs [])), .val (.int .i64 0)] 27)]) [0, 0, 2, 0, 8, 0, 32, 120, 254, 511, 0, 1024, 4095, 8191, 16383] [1, 2, 4, 5, 6, 7, 8, 71, 80, 81, 82, 83, 84, 85, 86, 87, 88, 89, 90, 91, 92, 93, 94] (fun env31 => [.var (blk p1) [.val (.string (bs a0.fS)), .val (.int .i64 x3)] 27, .var (blk p2) [.val (.string (bs x34)), .val (.int .i64 x3)] 27]) (by decide +kernel) (by decide +kernel) (fun _ => rfl) (fun _ => rfl) ?_ (fun _ => rfl) (fun _ => rfl) ?_
   rotate_left
   · intro env31
     show T X _ _ _
     refine T.ret ?_
     obtain rfl := Option.some.inj h0
     exact PostG.retP (ks := []) (Gst.trans (Gst.only [4, 5] rfl) (Gst.pick [1] rfl rfl)) undef (ResL.cons (ResV.var 0 rfl rfl rfl rfl) (ResL.cons (ResV.tmp rfl) ResL.nil)) rfl rfl rfl rfl
   refine oS (d := .val (.string (bs x5))) (fun _ => Want.plain rfl) (fun _ => rfl) (fun _ _ _ => rfl) (fun _ _ => OpR.pure rfl) (fun _ _ _ _ _ _ _ => rfl) ?_
   refine oS (d := .val (.pointer (some ⟨(blk p1), 0, none⟩))) (fun _ => Want.plain rfl) (fun _ => rfl) (fun _ _ _ => rfl) (fun _ _ => OpR.pure rfl) (fun _ _ _ _ _ _ _ => rfl) ?_
   refine oS (d := .val (.string (bs a0.fS))) (fun _ => Want.plain rfl) (fun _ => rfl) (fun _ _ _ => rfl) (fun _ _ => OpR.loadPtr 0 rfl rfl rfl rfl) (fun _ _ _ _ _ _ _ => rfl) ?_
   refine oS (d := .val (.pointer (some ⟨(blk p1), 0, none⟩))) (fun _ => Want.plain rfl) (fun _ => rfl) (fun _ _ _ => rfl) (fun _ _ => OpR.pure rfl) (fun _ _ _ _ _ _ _ => rfl) ?_
   refine oS (d := .val (.string (bs a0.fS))) (fun _ => Want.plain rfl) (fun _ => rfl) (fun _ _ _ => rfl) (fun _ _ => OpR.loadPtr 0 rfl rfl rfl rfl) (fun _ _ _ _ _ _ _ => rfl) ?_
   refine oS (d := .val (.pointer (some ⟨(blk p1), 1, none⟩))) (fun _ => Want.plain rfl) (fun _ => rfl) (fun _ _ _ => rfl) (fun _ _ => OpR.pure rfl) (fun _ _ _ _ _ _ _ => rfl) ?_
   refine oS (d := .val (.int .i64 x3)) (fun _ => Want.plain rfl) (fun _ => rfl) (fun _ _ _ => rfl) (fun _ _ => OpR.loadPtr 0 rfl rfl rfl rfl) (fun _ _ _ _ _ _ _ => rfl) ?_
   refine oS (d := .val (.int .i64 x32)) (fun _ => Want.plain rfl) (fun _ => rfl) (fun _ _ _ => rfl) (fun _ _ => OpR.call0 fn56 (ref01_Next_c hx32) rfl) (fun _ _ _ _ _ _ _ => rfl) ?_
   refine oS (d := .val (.string (bs x33))) (fun _ => Want.plain rfl) (fun _ => rfl) (fun _ _ _ => rfl) (fun _ _ => OpR.sliceS hx33 rfl rfl rfl (BdM.some rfl) BdM.none) (fun _ _ _ _ _ _ _ => rfl) ?_
   refine oS (d := .val (.string (bs x34))) (fun _ => Want.plain rfl) (fun _ => rfl) (fun _ _ _ => rfl) (fun _ _ => OpR.concatM hx34 rfl rfl) (fun _ _ _ _ _ _ _ => rfl) ?_
   refine oS (d := .val (.pointer (some ⟨(blk p1), 1, none⟩))) (fun _ => Want.plain rfl) (fun _ => rfl) (fun _ _ _ => rfl) (fun _ _ => OpR.pure rfl) (fun _ _ _ _ _ _ _ => rfl) ?_
   refine oS (d := .val (.int .i64 x3)) (fun _ => Want.plain rfl) (fun _ => rfl) (fun _ _ _ => rfl) (fun _ _ => OpR.loadPtr 0 rfl rfl rfl rfl) (fun _ _ _ _ _ _ _ => rfl) ?_
   refine oS (d := .agg [.val (.string (bs x34)), .val (.int .i64 x3)]) (fun _ => Want.plain rfl) (fun _ => rfl) (fun _ _ _ => rfl) (fun _ _ => OpR.build rfl rfl rfl rfl rfl) (fun _ _ _ _ _ _ _ => rfl) ?_
   refine OpsS.cons' true ?_ (fun _ _ _ _ _ _ _ => rfl) ?_
   · intro D env31 hA
     exact OpS.yes (o0 := [.var (blk p1) [.val (.string (bs a0.fS)), .val (.int .i64 x3)] 27, .var (blk p2) [.val (.string (bs [])), .val (.int .i64 0)] 27]) (o1 := fun x => [.var (blk p1) [.val (.string (bs a0.fS)), .val (.int .i64 x3)] 27, .var (blk p2) [.val (.string (bs x34)), .val (.int .i64 x3)] 27]) (d := fun x => .dead) (Want.plain rfl) (by first | rfl | simp only [hA.me, cond_true, cond_false, List.cons_append, List.nil_append, List.append_nil]) (fun x => by first | rfl | simp only [ins_self, upd_self, hA.me, cond_true, cond_false, List.cons_append, List.nil_append, List.append_nil]) (fun x => rfl) (OpR.store 1 rfl rfl rfl rfl rfl rfl rfl rfl)
   refine oS (d := .val (.bool true)) (fun _ => Want.plain rfl) (fun _ => rfl) (fun _ _ _ => rfl) (fun _ _ => OpR.pure rfl) (fun _ _ _ _ _ _ _ => rfl) ?_
   exact trivial
 refine T.condF rfl (beq_eq_false_iff_ne.2 c30) ?_
 refine T.skip ?_
 show T X _ _ _
 refine T.seq ?_
 refine T.seq ?_
 refine T.region ?_
 refine TL.op1 (OpR.pure rfl) rfl ?_
 refine TL.op1 (OpR.pure rfl) rfl ?_
 refine TL.nil ?_
 show T X _ _ _
 rcases ite_some h0 with ⟨c35, h0⟩ | ⟨c35, h0⟩
 · refine T.condT rfl (beq_iff_eq.2 c35) ?_
   refine T.seq ?_
   obtain ⟨x37, hx37, h0⟩ := bnd_some h0
   refine T.drawS drawsX (fun env36 => [.val (.pointer (some ⟨(blk p1), 0, none⟩)), .val (.string (bs a0.fS)), .val (.pointer (some ⟨(blk p1), 0, none⟩)), .val (.string (bs a0.fS)), .val (.pointer (some ⟨(blk p1), 1, none⟩)), .val (.int .i64 x3), .val (.int .i64 x37), .agg [.val (.string (bs a0.fS)), .val (.int .i64 x37)], .dead, .val (.bool true)]) (fun D env36 => [.var (blk p1) [.val (.string (bs a0.fS)), .val (.int .i64 x3)] 27, (bif D 8 then .var (blk p2) [.val (.string (bs a0.fS)), .val (.int .i64 x37)] 27 else .var (blk p2) [.val (.string (bs [])), .val (.int .i64 0)] 27)]) [0, 1, 0, 4, 0, 16, 60, 127, 255, 511] [1, 2, 4, 5, 6, 7, 8, 71, 80, 81, 95, 96, 97, 98, 99, 100, 101, 102, 103, 104] (fun env36 => [.var (blk p1) [.val (.string (bs a0.fS)), .val (.int .i64 x3)] 27, .var (blk p2) [.val (.string (bs a0.fS)), .val (.int .i64 x37)] 27]) (by decide +kernel) (by decide +kernel) (fun _ => rfl) (fun _ => rfl) ?_ (fun _ => rfl) (fun _ => rfl) ?_
   rotate_left
   · intro env36
     show T X _ _ _
     refine T.ret ?_
     obtain rfl := Option.some.inj h0
     exact PostG.retP (ks := []) (Gst.trans (Gst.only [4, 5] rfl) (Gst.pick [1] rfl rfl)) undef (ResL.cons (ResV.var 0 rfl rfl rfl rfl) (ResL.cons (ResV.tmp rfl) ResL.nil)) rfl rfl rfl rfl
   refine oS (d := .val (.pointer (some ⟨(blk p1), 0, none⟩))) (fun _ => Want.plain rfl) (fun _ => rfl) (fun _ _ _ => rfl) (fun _ _ => OpR.pure rfl) (fun _ _ _ _ _ _ _ => rfl) ?_
   refine oS (d := .val (.string (bs a0.fS))) (fun _ => Want.plain rfl) (fun _ => rfl) (fun _ _ _ => rfl) (fun _ _ => OpR.loadPtr 0 rfl rfl rfl rfl) (fun _ _ _ _ _ _ _ => rfl) ?_
   refine oS (d := .val (.pointer (some ⟨(blk p1), 0, none⟩))) (fun _ => Want.plain rfl) (fun _ => rfl) (fun _ _ _ => rfl) (fun _ _ => OpR.pure rfl) (fun _ _ _ _ _ _ _ => rfl) ?_
   refine oS (d := .val (.string (bs a0.fS))) (fun _ => Want.plain rfl) (fun _ => rfl) (fun _ _ _ => rfl) (fun _ _ => OpR.loadPtr 0 rfl rfl rfl rfl) (fun _ _ _ _ _ _ _ => rfl) ?_
   refine oS (d := .val (.pointer (some ⟨(blk p1), 1, none⟩))) (fun _ => Want.plain rfl) (fun _ => rfl) (fun _ _ _ => rfl) (fun _ _ => OpR.pure rfl) (fun _ _ _ _ _ _ _ => rfl) ?_
   refine oS (d := .val (.int .i64 x3)) (fun _ => Want.plain rfl) (fun _ => rfl) (fun _ _ _ => rfl) (fun _ _ => OpR.loadPtr 0 rfl rfl rfl rfl) (fun _ _ _ _ _ _ _ => rfl) ?_
   refine oS (d := .val (.int .i64 x37)) (fun _ => Want.plain rfl) (fun _ => rfl) (fun _ _ _ => rfl) (fun _ _ => OpR.call0 fn54 (ref01_Prev_c hx37) rfl) (fun _ _ _ _ _ _ _ => rfl) ?_
   refine oS (d := .agg [.val (.string (bs a0.fS)), .val (.int .i64 x37)]) (fun _ => Want.plain rfl) (fun _ => rfl) (fun _ _ _ => rfl) (fun _ _ => OpR.build rfl rfl rfl rfl rfl) (fun _ _ _ _ _ _ _ => rfl) ?_
   refine OpsS.cons' true ?_ (fun _ _ _ _ _ _ _ => rfl) ?_
   · intro D env36 hA
     exact OpS.yes (o0 := [.var (blk p1) [.val (.string (bs a0.fS)), .val (.int .i64 x3)] 27, .var (blk p2) [.val (.string (bs [])), .val (.int .i64 0)] 27]) (o1 := fun x => [.var (blk p1) [.val (.string (bs a0.fS)), .val (.int .i64 x3)] 27, .var (blk p2) [.val (.string (bs a0.fS)), .val (.int .i64 x37)] 27]) (d := fun x => .dead) (Want.plain rfl) (by first | rfl | simp only [hA.me, cond_true, cond_false, List.cons_append, List.nil_append, List.append_nil]) (fun x => by first | rfl | simp only [ins_self, upd_self, hA.me, cond_true, cond_false, List.cons_append, List.nil_append, List.append_nil]) (fun x => rfl) (OpR.store 1 rfl rfl rfl rfl rfl rfl rfl rfl)
   refine oS (d := .val (.bool true)) (fun _ => Want.plain rfl) (fun _ => rfl) (fun _ _ _ => rfl) (fun _ _ => OpR.pure rfl) (fun _ _ _ _ _ _ _ => rfl) ?_
   exact trivial
 refine T.condF rfl (beq_eq_false_iff_ne.2 c35) ?_
 refine T.skip ?_
 show T X _ _ _
 refine T.seq ?_
 refine T.seq ?_
 refine T.region ?_
 refine TL.op1 (OpR.pure rfl) rfl ?_
 refine TL.op1 (OpR.pure rfl) rfl ?_
 refine TL.nil ?_
 show T X _ _ _
 rcases ite_some h0 with ⟨c38, h0⟩ | ⟨c38, h0⟩
 rotate_left
 · refine T.condF rfl (beq_eq_false_iff_ne.2 c38) ?_
   refine T.skip ?_
   show T X _ _ _
   refine T.seq ?_
   refine T.seq ?_
   refine T.region ?_
   refine TL.op1 (OpR.pure rfl) rfl ?_
   refine TL.op1 (OpR.pure rfl) rfl ?_
   refine TL.nil ?_
   show T X _ _ _
   rcases ite_some h0 with ⟨c41, h0⟩ | ⟨c41, h0⟩
   · refine T.condT rfl (beq_iff_eq.2 c41) ?_
     refine T.seq ?_
     refine T.region ?_
     refine TL.op1 (OpR.pure rfl) rfl ?_
     refine TL.op1 (OpR.loadPtr 0 rfl rfl rfl rfl) rfl ?_
     refine TL.op1 (OpR.build rfl rfl rfl rfl rfl) rfl ?_
     refine TL.op0 (OpR.store 1 rfl rfl rfl rfl rfl rfl rfl rfl) ?_
     refine TL.op1 (OpR.pure rfl) rfl ?_
     refine TL.nil ?_
     show T X _ _ _
     refine T.ret ?_
     obtain rfl := Option.some.inj h0
     exact PostG.retP (ks := []) (Gst.trans (Gst.only [4, 5] rfl) (Gst.pick [1] rfl rfl)) undef (ResL.cons (ResV.var 0 rfl rfl rfl rfl) (ResL.cons (ResV.tmp rfl) ResL.nil)) rfl rfl rfl rfl
   refine T.condF rfl (beq_eq_false_iff_ne.2 c41) ?_
   refine T.skip ?_
   show T X _ _ _
   refine T.seq ?_
   refine T.seq ?_
   refine T.region ?_
   refine TL.op1 (OpR.pure rfl) rfl ?_
   refine TL.op1 (OpR.pure rfl) rfl ?_
   refine TL.nil ?_
   show T X _ _ _
   rcases ite_some h0 with ⟨c42, h0⟩ | ⟨c42, h0⟩
   rotate_left
   · refine T.condF rfl (beq_eq_false_iff_ne.2 c42) ?_
     refine T.skip ?_
     show T X _ _ _
     refine T.seq ?_
     refine T.region ?_
     refine TL.op1 (OpR.loadPtr 0 rfl rfl rfl rfl) rfl ?_
     refine TL.op0 (OpR.store 1 rfl rfl rfl rfl rfl rfl rfl rfl) ?_
     refine TL.op1 (OpR.pure rfl) rfl ?_
     refine TL.nil ?_
     show T X _ _ _
     refine T.ret ?_
     obtain rfl := Option.some.inj h0
     exact PostG.retP (ks := []) (Gst.trans (Gst.only [4, 5] rfl) (Gst.pick [1] rfl rfl)) undef (ResL.cons (ResV.var 0 rfl rfl rfl rfl) (ResL.cons (ResV.tmp rfl) ResL.nil)) rfl rfl rfl rfl
   refine T.condT rfl (beq_iff_eq.2 c42) ?_
   refine T.seq ?_
   refine T.region ?_
   refine TL.op1 (OpR.pure rfl) rfl ?_
   refine TL.op1 (OpR.loadPtr 0 rfl rfl rfl rfl) rfl ?_
   refine TL.op1 (OpR.pure rfl) rfl ?_
   refine TL.op1 (OpR.loadPtr 0 rfl rfl rfl rfl) rfl ?_
   refine TL.op1 (OpR.cast (OpR.pure rfl) (intE (lenS _))) rfl ?_
   refine TL.op1 (OpR.build rfl rfl rfl rfl rfl) rfl ?_
   refine TL.op0 (OpR.store 1 rfl rfl rfl rfl rfl rfl rfl rfl) ?_
   refine TL.op1 (OpR.pure rfl) rfl ?_
   refine TL.nil ?_
   show T X _ _ _
   refine T.ret ?_
   obtain rfl := Option.some.inj h0
   exact PostG.retP (ks := []) (Gst.trans (Gst.only [4, 5] rfl) (Gst.pick [1] rfl rfl)) undef (ResL.cons (ResV.var 0 rfl rfl rfl rfl) (ResL.cons (ResV.tmp rfl) ResL.nil)) rfl rfl rfl rfl
 refine T.condT rfl (beq_iff_eq.2 c38) ?_
 refine T.seq ?_
 obtain ⟨x40, hx40, h0⟩ := bnd_some h0
 refine T.drawS drawsX (fun env39 => [.val (.pointer (some ⟨(blk p1), 0, none⟩)), .val (.string (bs a0.fS)), .val (.pointer (some ⟨(blk p1), 0, none⟩)), .val (.string (bs a0.fS)), .val (.pointer (some ⟨(blk p1), 1, none⟩)), .val (.int .i64 x3), .val (.int .i64 x40), .agg [.val (.string (bs a0.fS)), .val (.int .i64 x40)], .dead, .val (.bool true)]) (fun D env39 => [.var (blk p1) [.val (.string (bs a0.fS)), .val (.int .i64 x3)] 27, (bif D 8 then .var (blk p2) [.val (.string (bs a0.fS)), .val (.int .i64 x40)] 27 else .var (blk p2) [.val (.string (bs [])), .val (.int .i64 0)] 27)]) [0, 1, 0, 4, 0, 16, 60, 127, 255, 511] [1, 2, 4, 5, 6, 7, 8, 71, 80, 81, 95, 96, 105, 106, 107, 108, 109, 110, 111, 112, 113, 114] (fun env39 => [.var (blk p1) [.val (.string (bs a0.fS)), .val (.int .i64 x3)] 27, .var (blk p2) [.val (.string (bs a0.fS)), .val (.int .i64 x40)] 27]) (by decide +kernel) (by decide +kernel) (fun _ => rfl) (fun _ => rfl) ?_ (fun _ => rfl) (fun _ => rfl) ?_
 rotate_left
 · intro env39
   show T X _ _ _
   refine T.ret ?_
   obtain rfl := Option.some.inj h0
   exact PostG.retP (ks := []) (Gst.trans (Gst.only [4, 5] rfl) (Gst.pick [1] rfl rfl)) undef (ResL.cons (ResV.var 0 rfl rfl rfl rfl) (ResL.cons (ResV.tmp rfl) ResL.nil)) rfl rfl rfl rfl
 refine oS (d := .val (.pointer (some ⟨(blk p1), 0, none⟩))) (fun _ => Want.plain rfl) (fun _ => rfl) (fun _ _ _ => rfl) (fun _ _ => OpR.pure rfl) (fun _ _ _ _ _ _ _ => rfl) ?_
 refine oS (d := .val (.string (bs a0.fS))) (fun _ => Want.plain rfl) (fun _ => rfl) (fun _ _ _ => rfl) (fun _ _ => OpR.loadPtr 0 rfl rfl rfl rfl) (fun _ _ _ _ _ _ _ => rfl) ?_
 refine oS (d := .val (.pointer (some ⟨(blk p1), 0, none⟩))) (fun _ => Want.plain rfl) (fun _ => rfl) (fun _ _ _ => rfl) (fun _ _ => OpR.pure rfl) (fun _ _ _ _ _ _ _ => rfl) ?_
 refine oS (d := .val (.string (bs a0.fS))) (fun _ => Want.plain rfl) (fun _ => rfl) (fun _ _ _ => rfl) (fun _ _ => OpR.loadPtr 0 rfl rfl rfl rfl) (fun _ _ _ _ _ _ _ => rfl) ?_
 refine oS (d := .val (.pointer (some ⟨(blk p1), 1, none⟩))) (fun _ => Want.plain rfl) (fun _ => rfl) (fun _ _ _ => rfl) (fun _ _ => OpR.pure rfl) (fun _ _ _ _ _ _ _ => rfl) ?_
 refine oS (d := .val (.int .i64 x3)) (fun _ => Want.plain rfl) (fun _ => rfl) (fun _ _ _ => rfl) (fun _ _ => OpR.loadPtr 0 rfl rfl rfl rfl) (fun _ _ _ _ _ _ _ => rfl) ?_
 refine oS (d := .val (.int .i64 x40)) (fun _ => Want.plain rfl) (fun _ => rfl) (fun _ _ _ => rfl) (fun _ _ => OpR.call0 fn56 (ref01_Next_c hx40) rfl) (fun _ _ _ _ _ _ _ => rfl) ?_
 refine oS (d := .agg [.val (.string (bs a0.fS)), .val (.int .i64 x40)]) (fun _ => Want.plain rfl) (fun _ => rfl) (fun _ _ _ => rfl) (fun _ _ => OpR.build rfl rfl rfl rfl rfl) (fun _ _ _ _ _ _ _ => rfl) ?_
 refine OpsS.cons' true ?_ (fun _ _ _ _ _ _ _ => rfl) ?_
 · intro D env39 hA
   exact OpS.yes (o0 := [.var (blk p1) [.val (.string (bs a0.fS)), .val (.int .i64 x3)] 27, .var (blk p2) [.val (.string (bs [])), .val (.int .i64 0)] 27]) (o1 := fun x => [.var (blk p1) [.val (.string (bs a0.fS)), .val (.int .i64 x3)] 27, .var (blk p2) [.val (.string (bs a0.fS)), .val (.int .i64 x40)] 27]) (d := fun x => .dead) (Want.plain rfl) (by first | rfl | simp only [hA.me, cond_true, cond_false, List.cons_append, List.nil_append, List.append_nil]) (fun x => by first | rfl | simp only [ins_self, upd_self, hA.me, cond_true, cond_false, List.cons_append, List.nil_append, List.append_nil]) (fun x => rfl) (OpR.store 1 rfl rfl rfl rfl rfl rfl rfl rfl)
 refine oS (d := .val (.bool true)) (fun _ => Want.plain rfl) (fun _ => rfl) (fun _ _ _ => rfl) (fun _ _ => OpR.pure rfl) (fun _ _ _ _ _ _ _ => rfl) ?_
 exact trivial
noncomputable def ref30_Key (a0 : ref30_Text) (a1 : Int) : Option (ref30_Text × Bool) :=
  bnd (ref30_Raw a0 a1) fun x2 =>
  bnd (ref30_Bound x2.1.fS x2.1.fAt) fun x4 =>
  some ((⟨x2.1.fS, x4⟩ : ref30_Text), x2.2)
set_option maxHeartbeats 4000000 in
theorem ref30_Key_c {a0 : ref30_Text} {a1 : Int} {res : ref30_Text × Bool} (h0 : ref30_Key a0 a1 = some res) : CallF X 12 [.agg [.val (.string (bs a0.fS)), .val (.int .i64 a0.fAt)], .val (.int .i64 a1)] [] (fun x => .tup [.agg [.val (.string (bs res.1.fS)), .val (.int .i64 res.1.fAt)], .val (.bool res.2)]) (fun x => []) := by
 unfold ref30_Key at h0
 refine CallF.mkG (X := X) Try.func12 rfl rfl Try.ntmps12 rfl rfl ?_
 refine T.seq ?_
 refine T.region ?_
 refine TL.op1 (OpR.boxImm rfl rfl) rfl ?_
 refine TL.op (OpR.alloc rfl rfl (fun _ => rfl)) rfl (fun p1 => ?_)
 refine TL.op1 (OpR.pure rfl) rfl ?_
 refine TL.nil ?_
 show T X _ _ _
 refine T.seq ?_
 refine T.region ?_
 refine TL.op1 (OpR.pure rfl) rfl ?_
 refine TL.op1 (OpR.pure rfl) rfl ?_
 obtain ⟨x2, hx2, h0⟩ := bnd_some h0
 refine TL.op1 (OpR.call0 fn37 (ref30_Raw_c hx2) rfl) rfl ?_
 refine TL.op1 (OpR.pure rfl) rfl ?_
 refine TL.op1 (OpR.pure rfl) rfl ?_
 refine TL.op1 (OpR.pure rfl) rfl ?_
 refine TL.op (OpR.alloc rfl rfl (fun _ => rfl)) rfl (fun p3 => ?_)
 refine TL.op0 (OpR.store 1 rfl rfl rfl rfl rfl rfl rfl rfl) ?_
 refine TL.op1 (OpR.pure rfl) rfl ?_
 refine TL.nil ?_
 show T X _ _ _
 refine T.seq ?_
 refine T.region ?_
 refine TL.op1 (OpR.pure rfl) rfl ?_
 refine TL.op1 (OpR.loadPtr 1 rfl rfl rfl rfl) rfl ?_
 refine TL.op1 (OpR.pure rfl) rfl ?_
 refine TL.op1 (OpR.loadPtr 1 rfl rfl rfl rfl) rfl ?_
 obtain ⟨x4, hx4, h0⟩ := bnd_some h0
 refine TL.op1 (OpR.call0 fn10 (ref30_Bound_c hx4) rfl) rfl ?_
 refine TL.op1 (OpR.pure rfl) rfl ?_
 refine TL.op0 (OpR.store 1 rfl rfl rfl rfl rfl rfl rfl rfl) ?_
 refine TL.nil ?_
 show T X _ _ _
 refine T.seq ?_
 refine T.region ?_
 refine TL.op1 (OpR.loadPtr 1 rfl rfl rfl rfl) rfl ?_
 refine TL.op1 (OpR.pure rfl) rfl ?_
 refine TL.op0 (OpR.store 0 rfl rfl rfl rfl rfl rfl rfl rfl) ?_
 refine TL.op1 (OpR.pure rfl) rfl ?_
 refine TL.nil ?_
 show T X _ _ _
 refine T.ret ?_
 obtain rfl := Option.some.inj h0
 exact PostG.retP (ks := []) (Gst.trans (Gst.only [4, 5] rfl) (Gst.pick [0] rfl rfl)) undef (ResL.cons (ResV.var 0 rfl rfl rfl rfl) (ResL.cons (ResV.tmp rfl) ResL.nil)) rfl rfl rfl rfl
noncomputable def law30_LinePrompts.l1 (a2 : List Int) (s8 : Int × (List UInt8) × Int × (List UInt8) × Int) : Option (Lp (Int × (List UInt8) × Int × (List UInt8) × Int) (Ex Unit Bool)) :=
  if s8.1 < (a2.length : Int) then
    bnd (idx a2 s8.1) fun x17 =>
    if s8.1 ≥ 120 then
      some (Lp.done (Ex.brk ()))
    else
      bnd (line_Prompt_Key (⟨s8.2.1, s8.2.2.1⟩ : line_Prompt) x17) fun x19 =>
      bnd (ref30_Key (⟨s8.2.2.2.1, s8.2.2.2.2⟩ : ref30_Text) x17) fun x21 =>
      bnd (if x17 = 10 then
        some (false, s8.2.2.2.1, s8.2.2.2.2)
      else
        some (x21.2, x21.1.fS, x21.1.fAt) : Option (Bool × (List UInt8) × Int)) fun t23 =>
      if (t23.2.1.length : Int) > 100 then
        bnd (if x19.2.1 = true then
          if x19.2.2 = 7 then
            some (!(x19.1 == (⟨s8.2.1, s8.2.2.1⟩ : line_Prompt)))
          else
            some true
        else
          some true : Option Bool) fun t26 =>
        if t26 = true then
          some (Lp.done (Ex.ret false))
        else
          some (Lp.next (w64 (s8.1 + 1), s8.2.1, s8.2.2.1, s8.2.2.2.1, s8.2.2.2.2))
      else
        bnd (if (x19.2.1 == t23.1) = true then
          if x19.2.2 = 0 then
            if x19.1.fS = t23.2.1 then
              some (!(x19.1.fAt == t23.2.2))
            else
              some true
          else
            some true
        else
          some true : Option Bool) fun t30 =>
        if t30 = true then
          some (Lp.done (Ex.ret false))
        else
          some (Lp.next (w64 (s8.1 + 1), x19.1.fS, x19.1.fAt, t23.2.1, t23.2.2))
  else
    some (Lp.done (Ex.brk ()))
noncomputable def law30_LinePrompts (a0 : List UInt8) (a1 : Int) (a2 : List Int) : Option Bool :=
  bnd (law30_cut a0 100) fun x1 =>
  bnd (ref30_Bound x1 a1) fun x2 =>
  bnd (ref30_Bound x1 a1) fun x3 =>
  bnd (loop (law30_LinePrompts.l1 a2) (0, x1, x2, x1, x3) : Option (Ex Unit Bool)) fun t6 => match t6 with
    | .brk u7 =>
      bnd (law30_awake) fun x36 =>
      some x36
    | .ret u7 => some u7
set_option maxHeartbeats 4000000 in
theorem law30_LinePrompts_c {a0 : List UInt8} {a1 : Int} {a2 : List Int} {res : Bool} (h0 : law30_LinePrompts a0 a1 a2 = some res) : CallF X 3 [.val (.string (bs a0)), .val (.int .i64 a1), .sl 1 (List.map (eI .i64) a2)] [] (fun x => .val (.bool res)) (fun x => []) := by
 unfold law30_LinePrompts at h0
 refine CallF.mkG (X := X) Try.func3 rfl rfl Try.ntmps3 rfl rfl ?_
 refine T.seq ?_
 refine T.region ?_
 refine TL.op1 (OpR.pure rfl) rfl ?_
 refine TL.nil ?_
 show T X _ _ _
 refine T.seq ?_
 refine T.region ?_
 refine TL.op1 (OpR.pure rfl) rfl ?_
 obtain ⟨x1, hx1, h0⟩ := bnd_some h0
 refine TL.op1 (OpR.call0 fn9 (law30_cut_c hx1) rfl) rfl ?_
 refine TL.op1 (OpR.pure rfl) rfl ?_
 refine TL.nil ?_
 show T X _ _ _
 refine T.seq ?_
 refine T.region ?_
 refine TL.op1 (OpR.pure rfl) rfl ?_
 refine TL.op1 (OpR.pure rfl) rfl ?_
 refine TL.op1 (OpR.pure rfl) rfl ?_
 obtain ⟨x2, hx2, h0⟩ := bnd_some h0
 refine TL.op1 (OpR.call0 fn10 (ref30_Bound_c hx2) rfl) rfl ?_
 refine TL.op1 (OpR.build rfl rfl rfl rfl rfl) rfl ?_
 refine TL.op1 (OpR.pure rfl) rfl ?_
 refine TL.op1 (OpR.pure rfl) rfl ?_
 refine TL.op1 (OpR.pure rfl) rfl ?_
 obtain ⟨x3, hx3, h0⟩ := bnd_some h0
 refine TL.op1 (OpR.call0 fn10 (ref30_Bound_c hx3) rfl) rfl ?_
 refine TL.op1 (OpR.build rfl rfl rfl rfl rfl) rfl ?_
 refine TL.op (OpR.alloc rfl rfl (fun _ => rfl)) rfl (fun p4 => ?_)
 refine TL.op (OpR.alloc rfl rfl (fun _ => rfl)) rfl (fun p5 => ?_)
 refine TL.op0 (OpR.store 0 rfl rfl rfl rfl rfl rfl rfl rfl) ?_
 refine TL.op0 (OpR.store 1 rfl rfl rfl rfl rfl rfl rfl rfl) ?_
 refine TL.nil ?_
 show T X _ _ _
 refine T.seq ?_
 refine T.seq ?_
 refine T.region ?_
 refine TL.op1 (OpR.pure rfl) rfl ?_
 refine TL.op1 (OpR.cast (OpR.pure rfl) (intE (lenM _ _))) rfl ?_
 refine TL.op1 (OpR.pure rfl) rfl ?_
 refine TL.nil ?_
 show T X _ _ _
 obtain ⟨t6, ht6, h0⟩ := bnd_some h0
 refine T.cutC (fun S' => ∃ u7, t6 = Ex.brk u7 ∧ S' = ⟨[(6, .val (.bool false))], [], 93⟩) (fun _ h => h) ?_ ?_
 rotate_left
 · rintro _ ⟨u7, rfl, rfl⟩
   show T X _ _ _
   refine T.seq ?_
   refine T.region ?_
   obtain ⟨x36, hx36, h0⟩ := bnd_some h0
   refine TL.op1 (OpR.call0 fn13 (law30_awake_c hx36) rfl) rfl ?_
   refine TL.op1 (OpR.pure rfl) rfl ?_
   refine TL.nil ?_
   show T X _ _ _
   refine T.ret ?_
   obtain rfl := Option.some.inj h0
   exact PostG.retP (ks := []) (Gst.only [6] rfl) undef (ResL.cons (ResV.tmp rfl) ResL.nil) rfl rfl rfl rfl
 refine T.block ?_
 obtain ⟨n9, n14⟩ := loop_some ht6
 refine T.loop (fun n S' => ∃ S'', Gst S' S'' ∧ ∃ s8 : Int × (List UInt8) × Int × (List UInt8) × Int, S'' = ⟨[(30, .val (.int .i64 s8.1)), (29, .val (.int .i64 (a2.length : Int))), (28, .sl 1 (List.map (eI .i64) a2)), (8, .val (.pointer (some ⟨(blk p5), 0, none⟩))), (7, .val (.pointer (some ⟨(blk p4), 0, none⟩))), (6, .val (.bool false))], [.var (blk p4) [.val (.string (bs s8.2.1)), .val (.int .i64 s8.2.2.1)] 26, .var (blk p5) [.val (.string (bs s8.2.2.2.1)), .val (.int .i64 s8.2.2.2.2)] 27], 93⟩ ∧ iter (law30_LinePrompts.l1 a2) n s8 = some t6) n9 ?_ ?_
 · exact ⟨_, Gst.only [6, 7, 8, 28, 29, 30] rfl, (0, x1, x2, x1, x3), rfl, n14⟩
 rintro n9 _ ⟨_, g, s8, rfl, i13⟩
 refine T.ghost g ?_
 obtain ⟨m10, q11, rfl, q12, i13⟩ := iter_succ i13
 unfold law30_LinePrompts.l1 at q12
 refine T.seq ?_
 refine T.region ?_
 refine TL.op1 (OpR.pure rfl) rfl ?_
 refine TL.nil ?_
 show T X _ _ _
 refine T.seq ?_
 rcases ite_some q12 with ⟨c16, q12⟩ | ⟨c16, q12⟩
 rotate_left
 · refine T.condF rfl (decide_eq_false c16) ?_
   refine T.exit ?_
   obtain rfl := Option.some.inj q12
   obtain rfl : _ = _ := i13
   exact ⟨_, Gst.trans (Gst.only [6] rfl) (Gst.pick [] rfl rfl), _, rfl, rfl⟩
 refine T.condT rfl (decide_eq_true c16) ?_
 refine T.skip ?_
 show T X _ _ _
 refine T.seq ?_
 refine T.block ?_
 refine T.seq ?_
 refine T.region ?_
 refine TL.op1 (OpR.pure rfl) rfl ?_
 obtain ⟨x17, hx17, q12⟩ := bnd_some q12
 refine TL.op1 (OpR.indexM (eI .i64) hx17 rfl rfl rfl rfl rfl) rfl ?_
 refine TL.op1 (OpR.pure rfl) rfl ?_
 refine TL.op1 (OpR.pure rfl) rfl ?_
 refine TL.op1 (OpR.pure rfl) rfl ?_
 refine TL.nil ?_
 show T X _ _ _
 refine T.seq ?_
 refine T.seq ?_
 refine T.region ?_
 refine TL.op1 (OpR.pure rfl) rfl ?_
 refine TL.op1 (OpR.pure rfl) rfl ?_
 refine TL.nil ?_
 show T X _ _ _
 rcases ite_some q12 with ⟨c18, q12⟩ | ⟨c18, q12⟩
 · refine T.condT rfl (decide_eq_true c18) ?_
   refine T.exit ?_
   obtain rfl := Option.some.inj q12
   obtain rfl : _ = _ := i13
   exact ⟨_, Gst.trans (Gst.only [6] rfl) (Gst.pick [] rfl rfl), _, rfl, rfl⟩
 refine T.condF rfl (decide_eq_false c18) ?_
 refine T.skip ?_
 show T X _ _ _
 refine T.seq ?_
 refine T.region ?_
 refine TL.op1 (OpR.loadPtr 0 rfl rfl rfl rfl) rfl ?_
 refine TL.op1 (OpR.pure rfl) rfl ?_
 obtain ⟨x19, hx19, q12⟩ := bnd_some q12
 refine TL.op1 (OpR.call0 fn11 (line_Prompt_Key_c hx19) rfl) rfl ?_
 refine TL.op1 (OpR.pure rfl) rfl ?_
 refine TL.op1 (OpR.pure rfl) rfl ?_
 refine TL.op1 (OpR.pure rfl) rfl ?_
 refine TL.op1 (OpR.pure rfl) rfl ?_
 refine TL.op (OpR.alloc rfl rfl (fun _ => rfl)) rfl (fun p20 => ?_)
 refine TL.op0 (OpR.store 2 rfl rfl rfl rfl rfl rfl rfl rfl) ?_
 refine TL.op1 (OpR.pure rfl) rfl ?_
 refine TL.op1 (OpR.pure rfl) rfl ?_
 refine TL.nil ?_
 show T X _ _ _
 refine T.seq ?_
 refine T.region ?_
 refine TL.op1 (OpR.loadPtr 1 rfl rfl rfl rfl) rfl ?_
 refine TL.op1 (OpR.pure rfl) rfl ?_
 obtain ⟨x21, hx21, q12⟩ := bnd_some q12
 refine TL.op1 (OpR.call0 fn12 (ref30_Key_c hx21) rfl) rfl ?_
 refine TL.op1 (OpR.pure rfl) rfl ?_
 refine TL.op1 (OpR.pure rfl) rfl ?_
 refine TL.op1 (OpR.pure rfl) rfl ?_
 refine TL.op (OpR.alloc rfl rfl (fun _ => rfl)) rfl (fun p22 => ?_)
 refine TL.op0 (OpR.store 3 rfl rfl rfl rfl rfl rfl rfl rfl) ?_
 refine TL.op1 (OpR.pure rfl) rfl ?_
 refine TL.nil ?_
 show T X _ _ _
 refine T.seq ?_
 refine T.seq ?_
 refine T.region ?_
 refine TL.op1 (OpR.pure rfl) rfl ?_
 refine TL.op1 (OpR.pure rfl) rfl ?_
 refine TL.nil ?_
 show T X _ _ _
 obtain ⟨t23, ht23, q12⟩ := bnd_some q12
 refine T.cutC (fun S' => S' = ⟨[(30, .val (.int .i64 s8.1)), (29, .val (.int .i64 (a2.length : Int))), (28, .sl 1 (List.map (eI .i64) a2)), (15, .val (.bool t23.1)), (14, .val (.pointer (some ⟨(blk p22), 0, none⟩))), (13, .val (.int .i64 x19.2.2)), (12, .val (.bool x19.2.1)), (11, .val (.pointer (some ⟨(blk p20), 0, none⟩))), (8, .val (.pointer (some ⟨(blk p5), 0, none⟩))), (7, .val (.pointer (some ⟨(blk p4), 0, none⟩))), (6, .val (.bool false))], [.var (blk p4) [.val (.string (bs s8.2.1)), .val (.int .i64 s8.2.2.1)] 26, .var (blk p5) [.val (.string (bs s8.2.2.2.1)), .val (.int .i64 s8.2.2.2.2)] 27, .var (blk p20) [.val (.string (bs x19.1.fS)), .val (.int .i64 x19.1.fAt)] 26, .var (blk p22) [.val (.string (bs t23.2.1)), .val (.int .i64 t23.2.2)] 27], 93⟩) (fun _ h => h) ?_ ?_
 · rcases ite_some ht23 with ⟨c24, ht23⟩ | ⟨c24, ht23⟩
   rotate_left
   · refine T.condF rfl (beq_eq_false_iff_ne.2 c24) ?_
     refine T.skip ?_
     obtain rfl := Option.some.inj ht23
     exact ⟨_, Gst.only [6, 7, 8, 11, 12, 13, 14, 15, 28, 29, 30] rfl, rfl⟩
   refine T.condT rfl (beq_iff_eq.2 c24) ?_
   refine T.region ?_
   refine TL.op1 (OpR.loadPtr 1 rfl rfl rfl rfl) rfl ?_
   refine TL.op0 (OpR.store 3 rfl rfl rfl rfl rfl rfl rfl rfl) ?_
   refine TL.op1 (OpR.pure rfl) rfl ?_
   refine TL.nil ?_
   obtain rfl := Option.some.inj ht23
   exact ⟨_, Gst.only [6, 7, 8, 11, 12, 13, 14, 15, 28, 29, 30] rfl, rfl⟩
 rintro _ rfl
 show T X _ _ _
 refine T.seq ?_
 refine T.seq ?_
 refine T.region ?_
 refine TL.op1 (OpR.pure rfl) rfl ?_
 refine TL.op1 (OpR.loadPtr 3 rfl rfl rfl rfl) rfl ?_
 refine TL.op1 (OpR.cast (OpR.pure rfl) (intE (lenS _))) rfl ?_
 refine TL.op1 (OpR.pure rfl) rfl ?_
 refine TL.nil ?_
 show T X _ _ _
 rcases ite_some q12 with ⟨c25, q12⟩ | ⟨c25, q12⟩
 · refine T.condT rfl (decide_eq_true c25) ?_
   refine T.seq ?_
   refine T.seq ?_
   obtain ⟨t26, ht26, q12⟩ := bnd_some q12
   refine T.cutC (fun S' => S' = ⟨[(67, .val (.bool t26)), (30, .val (.int .i64 s8.1)), (29, .val (.int .i64 (a2.length : Int))), (28, .sl 1 (List.map (eI .i64) a2)), (15, .val (.bool t23.1)), (14, .val (.pointer (some ⟨(blk p22), 0, none⟩))), (13, .val (.int .i64 x19.2.2)), (12, .val (.bool x19.2.1)), (11, .val (.pointer (some ⟨(blk p20), 0, none⟩))), (8, .val (.pointer (some ⟨(blk p5), 0, none⟩))), (7, .val (.pointer (some ⟨(blk p4), 0, none⟩))), (6, .val (.bool false))], [.var (blk p4) [.val (.string (bs s8.2.1)), .val (.int .i64 s8.2.2.1)] 26, .var (blk p5) [.val (.string (bs s8.2.2.2.1)), .val (.int .i64 s8.2.2.2.2)] 27, .var (blk p20) [.val (.string (bs x19.1.fS)), .val (.int .i64 x19.1.fAt)] 26, .var (blk p22) [.val (.string (bs t23.2.1)), .val (.int .i64 t23.2.2)] 27], 93⟩) (fun _ h => h) ?_ ?_
   rotate_left
   · rintro _ rfl
     show T X _ _ _
     rcases ite_some q12 with ⟨c29, q12⟩ | ⟨c29, q12⟩
     · refine T.condT rfl (c29) ?_
       refine T.seq ?_
       refine T.region ?_
       refine TL.op1 (OpR.pure rfl) rfl ?_
       refine TL.nil ?_
       show T X _ _ _
       refine T.ret ?_
       obtain rfl := Option.some.inj q12
       obtain rfl : _ = _ := i13
       obtain rfl := Option.some.inj h0
       exact PostG.retP (ks := []) (Gst.trans (Gst.only [6] rfl) (Gst.pick [] rfl rfl)) undef (ResL.cons (ResV.tmp rfl) ResL.nil) rfl rfl rfl rfl
     refine T.condF rfl (eq_false_of_ne_true c29) ?_
     refine T.skip ?_
     show T X _ _ _
     refine T.exit ?_
     show T X _ _ _
     refine T.region ?_
     refine TL.op1 (OpR.pure rfl) rfl ?_
     refine TL.op1 (OpR.pure rfl) rfl ?_
     refine TL.nil ?_
     obtain rfl := Option.some.inj q12
     exact ⟨m10, Nat.lt_succ_self _, _, Gst.trans (Gst.only [6, 7, 8, 28, 29, 30] rfl) (Gst.pick [0, 1] rfl rfl), (w64 (s8.1 + 1), s8.2.1, s8.2.2.1, s8.2.2.2.1, s8.2.2.2.2), rfl, i13⟩
   refine T.region ?_
   refine TL.op1 (OpR.pure rfl) rfl ?_
   refine TL.op1 (OpR.pure rfl) rfl ?_
   refine TL.op1 (OpR.pure rfl) rfl ?_
   rcases ite_some ht26 with ⟨c27, ht26⟩ | ⟨c27, ht26⟩
   rotate_left
   · refine TL.off rfl rfl rfl rfl (not_f (eq_false_of_ne_true c27)) rfl rfl ?_
     refine TL.off rfl rfl rfl rfl (not_f (eq_false_of_ne_true c27)) rfl rfl ?_
     refine TL.op1 (OpR.pickT rfl (not_f (eq_false_of_ne_true c27)) rfl) rfl ?_
     refine TL.op1 (OpR.pure rfl) rfl ?_
     refine TL.off rfl rfl rfl rfl rfl rfl rfl ?_
     refine TL.off rfl rfl rfl rfl rfl rfl rfl ?_
     refine TL.off rfl rfl rfl rfl rfl rfl rfl ?_
     refine TL.op1 (OpR.pickT rfl rfl rfl) rfl ?_
     refine TL.nil ?_
     obtain rfl := Option.some.inj ht26
     exact ⟨_, Gst.only [6, 7, 8, 11, 12, 13, 14, 15, 28, 29, 30, 67] rfl, rfl⟩
   refine TL.on rfl rfl rfl rfl (not_t (c27)) ?_
   refine TL.op1 (OpR.pure rfl) rfl ?_
   refine TL.on rfl rfl rfl rfl (not_t (c27)) ?_
   refine TL.op1 (OpR.pure rfl) rfl ?_
   refine TL.op1 (OpR.pickF rfl (not_t (c27)) rfl) rfl ?_
   refine TL.op1 (OpR.pure rfl) rfl ?_
   rcases ite_some ht26 with ⟨c28, ht26⟩ | ⟨c28, ht26⟩
   rotate_left
   · refine TL.off rfl rfl rfl rfl (not_f (beq_eq_false_iff_ne.2 c28)) rfl rfl ?_
     refine TL.off rfl rfl rfl rfl (not_f (beq_eq_false_iff_ne.2 c28)) rfl rfl ?_
     refine TL.off rfl rfl rfl rfl (not_f (beq_eq_false_iff_ne.2 c28)) rfl rfl ?_
     refine TL.op1 (OpR.pickT rfl (not_f (beq_eq_false_iff_ne.2 c28)) rfl) rfl ?_
     refine TL.nil ?_
     obtain rfl := Option.some.inj ht26
     exact ⟨_, Gst.only [6, 7, 8, 11, 12, 13, 14, 15, 28, 29, 30, 67] rfl, rfl⟩
   refine TL.on rfl rfl rfl rfl (not_t (beq_iff_eq.2 c28)) ?_
   refine TL.op1 (OpR.loadPtr 2 rfl rfl rfl rfl) rfl ?_
   refine TL.on rfl rfl rfl rfl (not_t (beq_iff_eq.2 c28)) ?_
   refine TL.op1 (OpR.loadPtr 0 rfl rfl rfl rfl) rfl ?_
   refine TL.on rfl rfl rfl rfl (not_t (beq_iff_eq.2 c28)) ?_
   refine TL.op1 (OpR.cast (OpR.neStruct rfl rfl rfl rfl rfl (by kernel_rfl) (by kernel_rfl)) (boolE (congrArg (fun b => !b) (beq_line_Prompt x19.1 (⟨s8.2.1, s8.2.2.1⟩ : line_Prompt))))) rfl ?_
   refine TL.op1 (OpR.pickF rfl (not_t (beq_iff_eq.2 c28)) rfl) rfl ?_
   refine TL.nil ?_
   obtain rfl := Option.some.inj ht26
   exact ⟨_, Gst.only [6, 7, 8, 11, 12, 13, 14, 15, 28, 29, 30, 67] rfl, rfl⟩
 refine T.condF rfl (decide_eq_false c25) ?_
 refine T.skip ?_
 show T X _ _ _
 refine T.seq ?_
 refine T.seq ?_
 obtain ⟨t30, ht30, q12⟩ := bnd_some q12
 refine T.cutC (fun S' => S' = ⟨[(88, .val (.bool t30)), (30, .val (.int .i64 s8.1)), (29, .val (.int .i64 (a2.length : Int))), (28, .sl 1 (List.map (eI .i64) a2)), (14, .val (.pointer (some ⟨(blk p22), 0, none⟩))), (11, .val (.pointer (some ⟨(blk p20), 0, none⟩))), (8, .val (.pointer (some ⟨(blk p5), 0, none⟩))), (7, .val (.pointer (some ⟨(blk p4), 0, none⟩))), (6, .val (.bool false))], [.var (blk p4) [.val (.string (bs s8.2.1)), .val (.int .i64 s8.2.2.1)] 26, .var (blk p5) [.val (.string (bs s8.2.2.2.1)), .val (.int .i64 s8.2.2.2.2)] 27, .var (blk p20) [.val (.string (bs x19.1.fS)), .val (.int .i64 x19.1.fAt)] 26, .var (blk p22) [.val (.string (bs t23.2.1)), .val (.int .i64 t23.2.2)] 27], 93⟩) (fun _ h => h) ?_ ?_
 · refine T.region ?_
   refine TL.op1 (OpR.pure rfl) rfl ?_
   refine TL.op1 (OpR.pure rfl) rfl ?_
   refine TL.op1 (OpR.neBool rfl rfl rfl rfl) rfl ?_
   refine TL.op1 (OpR.pure rfl) rfl ?_
   rcases ite_some ht30 with ⟨c31, ht30⟩ | ⟨c31, ht30⟩
   rotate_left
   · refine TL.off rfl rfl rfl rfl (not_f (eq_false_of_ne_true c31)) rfl rfl ?_
     refine TL.off rfl rfl rfl rfl (not_f (eq_false_of_ne_true c31)) rfl rfl ?_
     refine TL.op1 (OpR.pickT rfl (not_f (eq_false_of_ne_true c31)) rfl) rfl ?_
     refine TL.op1 (OpR.pure rfl) rfl ?_
     refine TL.off rfl rfl rfl rfl rfl rfl rfl ?_
     refine TL.off rfl rfl rfl rfl rfl rfl rfl ?_
     refine TL.off rfl rfl rfl rfl rfl rfl rfl ?_
     refine TL.off rfl rfl rfl rfl rfl rfl rfl ?_
     refine TL.off rfl rfl rfl rfl rfl rfl rfl ?_
     refine TL.op1 (OpR.pickT rfl rfl rfl) rfl ?_
     refine TL.op1 (OpR.pure rfl) rfl ?_
     refine TL.off rfl rfl rfl rfl rfl rfl rfl ?_
     refine TL.off rfl rfl rfl rfl rfl rfl rfl ?_
     refine TL.off rfl rfl rfl rfl rfl rfl rfl ?_
     refine TL.off rfl rfl rfl rfl rfl rfl rfl ?_
     refine TL.off rfl rfl rfl rfl rfl rfl rfl ?_
     refine TL.op1 (OpR.pickT rfl rfl rfl) rfl ?_
     refine TL.nil ?_
     obtain rfl := Option.some.inj ht30
     exact ⟨_, Gst.only [6, 7, 8, 11, 14, 28, 29, 30, 88] rfl, rfl⟩
   refine TL.on rfl rfl rfl rfl (not_t (c31)) ?_
   refine TL.op1 (OpR.pure rfl) rfl ?_
   refine TL.on rfl rfl rfl rfl (not_t (c31)) ?_
   refine TL.op1 (OpR.pure rfl) rfl ?_
   refine TL.op1 (OpR.pickF rfl (not_t (c31)) rfl) rfl ?_
   refine TL.op1 (OpR.pure rfl) rfl ?_
   rcases ite_some ht30 with ⟨c32, ht30⟩ | ⟨c32, ht30⟩
   rotate_left
   · refine TL.off rfl rfl rfl rfl (not_f (beq_eq_false_iff_ne.2 c32)) rfl rfl ?_
     refine TL.off rfl rfl rfl rfl (not_f (beq_eq_false_iff_ne.2 c32)) rfl rfl ?_
     refine TL.off rfl rfl rfl rfl (not_f (beq_eq_false_iff_ne.2 c32)) rfl rfl ?_
     refine TL.off rfl rfl rfl rfl (not_f (beq_eq_false_iff_ne.2 c32)) rfl rfl ?_
     refine TL.off rfl rfl rfl rfl (not_f (beq_eq_false_iff_ne.2 c32)) rfl rfl ?_
     refine TL.op1 (OpR.pickT rfl (not_f (beq_eq_false_iff_ne.2 c32)) rfl) rfl ?_
     refine TL.op1 (OpR.pure rfl) rfl ?_
     refine TL.off rfl rfl rfl rfl rfl rfl rfl ?_
     refine TL.off rfl rfl rfl rfl rfl rfl rfl ?_
     refine TL.off rfl rfl rfl rfl rfl rfl rfl ?_
     refine TL.off rfl rfl rfl rfl rfl rfl rfl ?_
     refine TL.off rfl rfl rfl rfl rfl rfl rfl ?_
     refine TL.op1 (OpR.pickT rfl rfl rfl) rfl ?_
     refine TL.nil ?_
     obtain rfl := Option.some.inj ht30
     exact ⟨_, Gst.only [6, 7, 8, 11, 14, 28, 29, 30, 88] rfl, rfl⟩
   refine TL.on rfl rfl rfl rfl (not_t (beq_iff_eq.2 c32)) ?_
   refine TL.op1 (OpR.pure rfl) rfl ?_
   refine TL.on rfl rfl rfl rfl (not_t (beq_iff_eq.2 c32)) ?_
   refine TL.op1 (OpR.loadPtr 2 rfl rfl rfl rfl) rfl ?_
   refine TL.on rfl rfl rfl rfl (not_t (beq_iff_eq.2 c32)) ?_
   refine TL.op1 (OpR.pure rfl) rfl ?_
   refine TL.on rfl rfl rfl rfl (not_t (beq_iff_eq.2 c32)) ?_
   refine TL.op1 (OpR.loadPtr 3 rfl rfl rfl rfl) rfl ?_
   refine TL.on rfl rfl rfl rfl (not_t (beq_iff_eq.2 c32)) ?_
   refine TL.op1 (OpR.cast (OpR.pure rfl) (boolE (strNe _ _))) rfl ?_
   refine TL.op1 (OpR.pickF rfl (not_t (beq_iff_eq.2 c32)) rfl) rfl ?_
   refine TL.op1 (OpR.pure rfl) rfl ?_
   rcases ite_some ht30 with ⟨c33, ht30⟩ | ⟨c33, ht30⟩
   rotate_left
   · refine TL.off rfl rfl rfl rfl (not_f (beq_eq_false_iff_ne.2 c33)) rfl rfl ?_
     refine TL.off rfl rfl rfl rfl (not_f (beq_eq_false_iff_ne.2 c33)) rfl rfl ?_
     refine TL.off rfl rfl rfl rfl (not_f (beq_eq_false_iff_ne.2 c33)) rfl rfl ?_
     refine TL.off rfl rfl rfl rfl (not_f (beq_eq_false_iff_ne.2 c33)) rfl rfl ?_
     refine TL.off rfl rfl rfl rfl (not_f (beq_eq_false_iff_ne.2 c33)) rfl rfl ?_
     refine TL.op1 (OpR.pickT rfl (not_f (beq_eq_false_iff_ne.2 c33)) rfl) rfl ?_
     refine TL.nil ?_
     obtain rfl := Option.some.inj ht30
     exact ⟨_, Gst.only [6, 7, 8, 11, 14, 28, 29, 30, 88] rfl, rfl⟩
   refine TL.on rfl rfl rfl rfl (not_t (beq_iff_eq.2 c33)) ?_
   refine TL.op1 (OpR.pure rfl) rfl ?_
   refine TL.on rfl rfl rfl rfl (not_t (beq_iff_eq.2 c33)) ?_
   refine TL.op1 (OpR.loadPtr 2 rfl rfl rfl rfl) rfl ?_
   refine TL.on rfl rfl rfl rfl (not_t (beq_iff_eq.2 c33)) ?_
   refine TL.op1 (OpR.pure rfl) rfl ?_
   refine TL.on rfl rfl rfl rfl (not_t (beq_iff_eq.2 c33)) ?_
   refine TL.op1 (OpR.loadPtr 3 rfl rfl rfl rfl) rfl ?_
   refine TL.on rfl rfl rfl rfl (not_t (beq_iff_eq.2 c33)) ?_
   refine TL.op1 (OpR.pure rfl) rfl ?_
   refine TL.op1 (OpR.pickF rfl (not_t (beq_iff_eq.2 c33)) rfl) rfl ?_
   refine TL.nil ?_
   obtain rfl := Option.some.inj ht30
   exact ⟨_, Gst.only [6, 7, 8, 11, 14, 28, 29, 30, 88] rfl, rfl⟩
 rintro _ rfl
 show T X _ _ _
 rcases ite_some q12 with ⟨c34, q12⟩ | ⟨c34, q12⟩
 · refine T.condT rfl (c34) ?_
   refine T.seq ?_
   refine T.region ?_
   refine TL.op1 (OpR.pure rfl) rfl ?_
   refine TL.nil ?_
   show T X _ _ _
   refine T.ret ?_
   obtain rfl := Option.some.inj q12
   obtain rfl : _ = _ := i13
   obtain rfl := Option.some.inj h0
   exact PostG.retP (ks := []) (Gst.trans (Gst.only [6] rfl) (Gst.pick [] rfl rfl)) undef (ResL.cons (ResV.tmp rfl) ResL.nil) rfl rfl rfl rfl
 refine T.condF rfl (eq_false_of_ne_true c34) ?_
 refine T.skip ?_
 show T X _ _ _
 refine T.drawS drawsX (fun env35 => [.agg [.val (.string (bs x19.1.fS)), .val (.int .i64 x19.1.fAt)], .agg [.val (.string (bs t23.2.1)), .val (.int .i64 t23.2.2)], .dead, .dead]) (fun D env35 => [(bif D 2 then .var (blk p4) [.val (.string (bs x19.1.fS)), .val (.int .i64 x19.1.fAt)] 26 else .var (blk p4) [.val (.string (bs s8.2.1)), .val (.int .i64 s8.2.2.1)] 26), (bif D 3 then .var (blk p5) [.val (.string (bs t23.2.1)), .val (.int .i64 t23.2.2)] 27 else .var (blk p5) [.val (.string (bs s8.2.2.2.1)), .val (.int .i64 s8.2.2.2.2)] 27), .var (blk p20) [.val (.string (bs x19.1.fS)), .val (.int .i64 x19.1.fAt)] 26, .var (blk p22) [.val (.string (bs t23.2.1)), .val (.int .i64 t23.2.2)] 27]) [0, 0, 1, 7] [6, 7, 8, 11, 14, 28, 29, 30, 88, 89, 90] (fun env35 => [.var (blk p4) [.val (.string (bs x19.1.fS)), .val (.int .i64 x19.1.fAt)] 26, .var (blk p5) [.val (.string (bs t23.2.1)), .val (.int .i64 t23.2.2)] 27, .var (blk p20) [.val (.string (bs x19.1.fS)), .val (.int .i64 x19.1.fAt)] 26, .var (blk p22) [.val (.string (bs t23.2.1)), .val (.int .i64 t23.2.2)] 27]) (by decide +kernel) (by decide +kernel) (fun _ => rfl) (fun _ => rfl) ?_ (fun _ => rfl) (fun _ => rfl) ?_
 rotate_left
 · intro env35
   show T X _ _ _
   refine T.region ?_
   refine TL.op1 (OpR.pure rfl) rfl ?_
   refine TL.op1 (OpR.pure rfl) rfl ?_
   refine TL.nil ?_
   obtain rfl := Option.some.inj q12
   exact ⟨m10, Nat.lt_succ_self _, _, Gst.trans (Gst.only [6, 7, 8, 28, 29, 30] rfl) (Gst.pick [0, 1] rfl rfl), (w64 (s8.1 + 1), x19.1.fS, x19.1.fAt, t23.2.1, t23.2.2), rfl, i13⟩
 refine oS (d := .agg [.val (.string (bs x19.1.fS)), .val (.int .i64 x19.1.fAt)]) (fun _ => Want.plain rfl) (fun _ => rfl) (fun _ _ _ => rfl) (fun _ _ => OpR.loadPtr 2 rfl rfl rfl rfl) (fun _ _ _ _ _ _ _ => rfl) ?_
 refine oS (d := .agg [.val (.string (bs t23.2.1)), .val (.int .i64 t23.2.2)]) (fun _ => Want.plain rfl) (fun _ => rfl) (fun _ _ _ => rfl) (fun _ _ => OpR.loadPtr 3 rfl rfl rfl rfl) (fun _ _ _ _ _ _ _ => rfl) ?_
 refine OpsS.cons' true ?_ (fun _ _ _ _ _ _ _ => rfl) ?_
 · intro D env35 hA
   have e3 : D 3 = false := hA.no 3 _ rfl rfl
   exact OpS.yes (o0 := [.var (blk p4) [.val (.string (bs s8.2.1)), .val (.int .i64 s8.2.2.1)] 26, .var (blk p5) [.val (.string (bs s8.2.2.2.1)), .val (.int .i64 s8.2.2.2.2)] 27, .var (blk p20) [.val (.string (bs x19.1.fS)), .val (.int .i64 x19.1.fAt)] 26, .var (blk p22) [.val (.string (bs t23.2.1)), .val (.int .i64 t23.2.2)] 27]) (o1 := fun x => [.var (blk p4) [.val (.string (bs x19.1.fS)), .val (.int .i64 x19.1.fAt)] 26, .var (blk p5) [.val (.string (bs s8.2.2.2.1)), .val (.int .i64 s8.2.2.2.2)] 27, .var (blk p20) [.val (.string (bs x19.1.fS)), .val (.int .i64 x19.1.fAt)] 26, .var (blk p22) [.val (.string (bs t23.2.1)), .val (.int .i64 t23.2.2)] 27]) (d := fun x => .dead) (Want.plain rfl) (by first | rfl | simp only [e3, hA.me, cond_true, cond_false, List.cons_append, List.nil_append, List.append_nil]) (fun x => by first | rfl | simp only [ins_self, ins_ne D (show 2 ≠ 3 by decide), upd_self, e3, hA.me, cond_true, cond_false, List.cons_append, List.nil_append, List.append_nil]) (fun x => rfl) (OpR.store 0 rfl rfl rfl rfl rfl rfl rfl rfl)
 refine OpsS.cons' true ?_ (fun _ _ _ _ _ _ _ => rfl) ?_
 · intro D env35 hA
   have e2 : D 2 = true := hA.yes 2 _ rfl rfl
   exact OpS.yes (o0 := [.var (blk p4) [.val (.string (bs x19.1.fS)), .val (.int .i64 x19.1.fAt)] 26, .var (blk p5) [.val (.string (bs s8.2.2.2.1)), .val (.int .i64 s8.2.2.2.2)] 27, .var (blk p20) [.val (.string (bs x19.1.fS)), .val (.int .i64 x19.1.fAt)] 26, .var (blk p22) [.val (.string (bs t23.2.1)), .val (.int .i64 t23.2.2)] 27]) (o1 := fun x => [.var (blk p4) [.val (.string (bs x19.1.fS)), .val (.int .i64 x19.1.fAt)] 26, .var (blk p5) [.val (.string (bs t23.2.1)), .val (.int .i64 t23.2.2)] 27, .var (blk p20) [.val (.string (bs x19.1.fS)), .val (.int .i64 x19.1.fAt)] 26, .var (blk p22) [.val (.string (bs t23.2.1)), .val (.int .i64 t23.2.2)] 27]) (d := fun x => .dead) (Want.plain rfl) (by first | rfl | simp only [e2, hA.me, cond_true, cond_false, List.cons_append, List.nil_append, List.append_nil]) (fun x => by first | rfl | simp only [ins_self, ins_ne D (show 3 ≠ 2 by decide), upd_self, e2, hA.me, cond_true, cond_false, List.cons_append, List.nil_append, List.append_nil]) (fun x => rfl) (OpR.store 1 rfl rfl rfl rfl rfl rfl rfl rfl)
 exact trivial
end Go.Proofs.Ytlginjmkmfodmaa.S
