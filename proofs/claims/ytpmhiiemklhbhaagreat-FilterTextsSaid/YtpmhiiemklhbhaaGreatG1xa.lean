/- Printed by a program of this session's own (gen.py): Lean functions for Go functions, and the proofs that the Go code comes to their answers. -/
import Derived.Test.YtpmhiiemklhbhaaGreatG0
set_option maxHeartbeats 4000000
set_option linter.unusedVariables false
set_option linter.unusedSimpArgs false
set_option maxRecDepth 20000
namespace Go.Proofs.YtpmhiiemklhbhaaGreat.S
open Go Go.Sm
attribute [local irreducible] T TL OpR CallT iter loop
noncomputable def law11_Cut (a0 : List UInt8) (a1 : Int) : Option (List UInt8) :=
  if (a0.length : Int) > a1 then
    bnd (cut a0 0 a1) fun x2 =>
    some x2
  else
    some a0
theorem law11_Cut_c {a0 : List UInt8} {a1 : Int} {res : (List UInt8)} (h0 : law11_Cut a0 a1 = some res) : CallF X 15 [.val (.string (bs a0)), dN a1] [] (fun x => .val (.string (bs res))) (fun x => []) := by
 unfold law11_Cut at h0
 refine CallF.mkG (X := X) rfl Tryz.func15 rfl rfl Tryz.ntmps15 rfl rfl ?_
 refine aS ?_
 refine aA rfl rfl ?_
 refine aN rfl ?_
 refine T.seq ?_
 refine aS ?_
 refine aA rfl rfl ?_
 refine TL.op1 (OpR.cast (OpR.pure rfl) (intE (lenS _))) rfl ?_
 iterate 2 refine aA rfl rfl ?_
 refine aN rfl ?_
 rcases ite_some h0 with ⟨c1, h0⟩ | ⟨c1, h0⟩
 rotate_left
 · refine T.condF rfl (decide_eq_false c1) ?_
   refine aK rfl ?_
   refine aS ?_
   iterate 2 refine aA rfl rfl ?_
   refine aN rfl ?_
   refine T.ret ?_
   obtain rfl := Option.some.inj h0
   exact rO [] [4] rfl undef (cT rfl ResL.nil) rfl rfl rfl rfl
 refine T.condT rfl (decide_eq_true c1) ?_
 refine aS ?_
 iterate 2 refine aA rfl rfl ?_
 obtain ⟨x2, hx2, h0⟩ := bS h0
 refine TL.op1 (OpR.sliceS hx2 rfl rfl rfl BdM.none (BdM.some rfl)) rfl ?_
 refine aA rfl rfl ?_
 refine aN rfl ?_
 refine T.ret ?_
 obtain rfl := Option.some.inj h0
 exact rO [] [4] rfl undef (cT rfl ResL.nil) rfl rfl rfl rfl
noncomputable def internal_stringslite_HasPrefix (a0 : List UInt8) (a1 : List UInt8) : Option Bool :=
  bnd (if (a0.length : Int) ≥ (a1.length : Int) then
    bnd (cut a0 0 (a1.length : Int)) fun x3 =>
    some (x3 == a1)
  else
    some false : Option Bool) fun t1 =>
  some t1
theorem internal_stringslite_HasPrefix_c {a0 : List UInt8} {a1 : List UInt8} {res : Bool} (h0 : internal_stringslite_HasPrefix a0 a1 = some res) : CallF X 203 [.val (.string (bs a0)), .val (.string (bs a1))] [] (fun x => (dT res)) (fun x => []) := by
 unfold internal_stringslite_HasPrefix at h0
 refine CallF.mkG (X := X) rfl Tryz.func203 rfl rfl Tryz.ntmps203 rfl rfl ?_
 refine aS ?_
 refine aA rfl rfl ?_
 refine aN rfl ?_
 refine T.seq ?_
 obtain ⟨t1, ht1, h0⟩ := bS h0
 refine T.cutC (fun S' => S' = ⟨[(4, (dT t1))], [], 18⟩) (fun _ h => h) ?_ ?_
 rotate_left
 · rintro _ rfl
   show T X _ _ _
   refine T.ret ?_
   obtain rfl := Option.some.inj h0
   exact rO [] [4] rfl undef (cT rfl ResL.nil) rfl rfl rfl rfl
 refine T.region ?_
 refine aA rfl rfl ?_
 refine TL.op1 (OpR.cast (OpR.pure rfl) (intE (lenS _))) rfl ?_
 refine aA rfl rfl ?_
 refine TL.op1 (OpR.cast (OpR.pure rfl) (intE (lenS _))) rfl ?_
 iterate 2 refine aA rfl rfl ?_
 rcases ite_some ht1 with ⟨c2, ht1⟩ | ⟨c2, ht1⟩
 rotate_left
 · refine TL.off rfl rfl rfl rfl (decide_eq_false c2) rfl rfl ?_
   refine TL.off rfl rfl rfl rfl (decide_eq_false c2) rfl rfl ?_
   refine TL.off rfl rfl rfl rfl (decide_eq_false c2) rfl rfl ?_
   refine TL.off rfl rfl rfl rfl (decide_eq_false c2) rfl rfl ?_
   refine TL.off rfl rfl rfl rfl (decide_eq_false c2) rfl rfl ?_
   refine TL.off rfl rfl rfl rfl (decide_eq_false c2) rfl rfl ?_
   refine TL.op1 (OpR.pickF rfl (decide_eq_false c2) rfl) rfl ?_
   refine aA rfl rfl ?_
   refine TL.nil ?_
   obtain rfl := Option.some.inj ht1
   exact ⟨_, Gst.only [4] rfl, rfl⟩
 refine TL.on rfl rfl rfl rfl (decide_eq_true c2) ?_
 refine aA rfl rfl ?_
 refine TL.on rfl rfl rfl rfl (decide_eq_true c2) ?_
 refine aA rfl rfl ?_
 refine TL.on rfl rfl rfl rfl (decide_eq_true c2) ?_
 refine TL.op1 (OpR.cast (OpR.pure rfl) (intE (lenS _))) rfl ?_
 refine TL.on rfl rfl rfl rfl (decide_eq_true c2) ?_
 obtain ⟨x3, hx3, ht1⟩ := bS ht1
 refine TL.op1 (OpR.sliceS hx3 rfl rfl rfl BdM.none (BdM.some rfl)) rfl ?_
 refine TL.on rfl rfl rfl rfl (decide_eq_true c2) ?_
 refine aA rfl rfl ?_
 refine TL.on rfl rfl rfl rfl (decide_eq_true c2) ?_
 refine TL.op1 (OpR.cast (OpR.pure rfl) (boolE (strEq _ _))) rfl ?_
 refine TL.op1 (OpR.pickT rfl (decide_eq_true c2) rfl) rfl ?_
 refine aA rfl rfl ?_
 refine TL.nil ?_
 obtain rfl := Option.some.inj ht1
 exact ⟨_, Gst.only [4] rfl, rfl⟩
noncomputable def internal_stringslite_CutPrefix (a0 : List UInt8) (a1 : List UInt8) : Option ((List UInt8) × Bool) :=
  bnd (internal_stringslite_HasPrefix a0 a1) fun x1 =>
  if x1 = true then
    bnd (cut a0 (a1.length : Int) (a0.length : Int)) fun x3 =>
    some (x3, true)
  else
    some (a0, false)
theorem internal_stringslite_CutPrefix_c {a0 : List UInt8} {a1 : List UInt8} {res : (List UInt8) × Bool} (h0 : internal_stringslite_CutPrefix a0 a1 = some res) : CallF X 164 [.val (.string (bs a0)), .val (.string (bs a1))] [] (fun x => .tup [.val (.string (bs res.1)), dT res.2]) (fun x => []) := by
 unfold internal_stringslite_CutPrefix at h0
 refine CallF.mkG (X := X) rfl Tryz.func164 rfl rfl Tryz.ntmps164 rfl rfl ?_
 refine aS ?_
 iterate 2 refine aA rfl rfl ?_
 refine aN rfl ?_
 refine T.seq ?_
 refine aS ?_
 iterate 2 refine aA rfl rfl ?_
 obtain ⟨x1, hx1, h0⟩ := bS h0
 refine TL.op1 (OpR.call0 fn203 (internal_stringslite_HasPrefix_c hx1) rfl) rfl ?_
 refine aA rfl rfl ?_
 refine aN rfl ?_
 rcases ite_some h0 with ⟨c2, h0⟩ | ⟨c2, h0⟩
 rotate_left
 · refine T.condT rfl (not_f (eq_false_of_ne_true c2)) ?_
   refine aS ?_
   iterate 3 refine aA rfl rfl ?_
   refine aN rfl ?_
   refine T.ret ?_
   obtain rfl := Option.some.inj h0
   exact rO [] [4, 5] rfl undef (cT rfl (cT rfl ResL.nil)) rfl rfl rfl rfl
 refine T.condF rfl (not_t (c2)) ?_
 refine aK rfl ?_
 refine aS ?_
 iterate 2 refine aA rfl rfl ?_
 refine TL.op1 (OpR.cast (OpR.pure rfl) (intE (lenS _))) rfl ?_
 obtain ⟨x3, hx3, h0⟩ := bS h0
 refine TL.op1 (OpR.sliceS hx3 rfl rfl rfl (BdM.some rfl) BdM.none) rfl ?_
 iterate 2 refine aA rfl rfl ?_
 refine aN rfl ?_
 refine T.ret ?_
 obtain rfl := Option.some.inj h0
 exact rO [] [4, 5] rfl undef (cT rfl (cT rfl ResL.nil)) rfl rfl rfl rfl
noncomputable def strings_CutPrefix (a0 : List UInt8) (a1 : List UInt8) : Option ((List UInt8) × Bool) :=
  bnd (internal_stringslite_CutPrefix a0 a1) fun x1 =>
  some (x1.1, x1.2)
theorem strings_CutPrefix_c {a0 : List UInt8} {a1 : List UInt8} {res : (List UInt8) × Bool} (h0 : strings_CutPrefix a0 a1 = some res) : CallF X 92 [.val (.string (bs a0)), .val (.string (bs a1))] [] (fun x => .tup [.val (.string (bs res.1)), dT res.2]) (fun x => []) := by
 unfold strings_CutPrefix at h0
 refine CallF.mkG (X := X) rfl Tryz.func92 rfl rfl Tryz.ntmps92 rfl rfl ?_
 refine aS ?_
 iterate 2 refine aA rfl rfl ?_
 refine aN rfl ?_
 refine aS ?_
 iterate 2 refine aA rfl rfl ?_
 obtain ⟨x1, hx1, h0⟩ := bS h0
 refine TL.op1 (OpR.call0 fn164 (internal_stringslite_CutPrefix_c hx1) rfl) rfl ?_
 iterate 4 refine aA rfl rfl ?_
 refine aN rfl ?_
 refine T.ret ?_
 obtain rfl := Option.some.inj h0
 exact rO [] [4, 5] rfl undef (cT rfl (cT rfl ResL.nil)) rfl rfl rfl rfl
noncomputable def num_digit (a0 : UInt8) : Option (Int × Bool) :=
  bnd (if (a0.toNat : Int) < 48 then
    some true
  else
    some (decide ((a0.toNat : Int) > 57)) : Option Bool) fun t1 =>
  if t1 = true then
    some (0, false)
  else
    some (IntKind.wrap .u64 ((ub ((a0.toNat : Int) - 48)).toNat : Int), true)
theorem num_digit_c {a0 : UInt8} {res : Int × Bool} (h0 : num_digit a0 = some res) : CallF X 165 [.val (.int .u8 (a0.toNat : Int))] [] (fun x => .tup [.val (.int .u64 res.1), dT res.2]) (fun x => []) := by
 unfold num_digit at h0
 refine CallF.mkG (X := X) rfl Tryz.func165 rfl rfl Tryz.ntmps165 rfl rfl ?_
 refine aS ?_
 iterate 2 refine aA rfl rfl ?_
 refine aN rfl ?_
 refine T.seq ?_
 refine T.seq ?_
 obtain ⟨t1, ht1, h0⟩ := bS h0
 refine T.cutC (fun S' => S' = ⟨[(9, (dT t1)), (3, (dT false)), (2, .val (.int .u64 0)), (0, .val (.int .u8 (a0.toNat : Int)))], [], 13⟩) (fun _ h => h) ?_ ?_
 · refine T.region ?_
   iterate 3 refine aA rfl rfl ?_
   rcases ite_some ht1 with ⟨c2, ht1⟩ | ⟨c2, ht1⟩
   · refine TL.off rfl rfl rfl rfl (decide_eq_true c2) rfl rfl ?_
     refine TL.off rfl rfl rfl rfl (decide_eq_true c2) rfl rfl ?_
     refine TL.op1 (OpR.pickT rfl (decide_eq_true c2) rfl) rfl ?_
     refine TL.nil ?_
     obtain rfl := Option.some.inj ht1
     exact ⟨_, Gst.only [0, 2, 3, 9] rfl, rfl⟩
   refine TL.on rfl rfl rfl rfl (decide_eq_false c2) ?_
   refine aA rfl rfl ?_
   refine TL.on rfl rfl rfl rfl (decide_eq_false c2) ?_
   refine aA rfl rfl ?_
   refine TL.op1 (OpR.pickF rfl (decide_eq_false c2) rfl) rfl ?_
   refine TL.nil ?_
   obtain rfl := Option.some.inj ht1
   exact ⟨_, Gst.only [0, 2, 3, 9] rfl, rfl⟩
 rintro _ rfl
 show T X _ _ _
 rcases ite_some h0 with ⟨c3, h0⟩ | ⟨c3, h0⟩
 · refine T.condT rfl (c3) ?_
   refine aS ?_
   iterate 2 refine aA rfl rfl ?_
   refine aN rfl ?_
   refine T.ret ?_
   obtain rfl := Option.some.inj h0
   exact rO [] [2, 3] rfl undef (cT rfl (cT rfl ResL.nil)) rfl rfl rfl rfl
 refine T.condF rfl (eq_false_of_ne_true c3) ?_
 refine aK rfl ?_
 refine aS ?_
 refine aA rfl rfl ?_
 refine TL.op1 (OpR.cast (OpR.pure rfl) (intE (ub_wrap _))) rfl ?_
 iterate 3 refine aA rfl rfl ?_
 refine aN rfl ?_
 refine T.ret ?_
 obtain rfl := Option.some.inj h0
 exact rO [] [2, 3] rfl undef (cT rfl (cT rfl ResL.nil)) rfl rfl rfl rfl
noncomputable def num_Digits.l1 (a0 : List UInt8) (x1 : Int) (s4 : Int × Int) : Option (Lp (Int × Int) (Ex Int (Int × Int))) :=
  if s4.2 < (a0.length : Int) then
    bnd (idx a0 s4.2) fun x13 =>
    bnd (num_digit x13) fun x14 =>
    if x14.2 = true then
      bnd (some (if x1 < (w64 ((w64 (s4.1 * 10)) + (w64 x14.1))) then x1 else (w64 ((w64 (s4.1 * 10)) + (w64 x14.1))))) fun x16 =>
      some (Lp.next (x16, w64 (s4.2 + 1)))
    else
      some (Lp.done (Ex.ret (s4.1, s4.2)))
  else
    some (Lp.done (Ex.brk s4.1))
noncomputable def num_Digits (a0 : List UInt8) (a1 : Int) : Option (Int × Int) :=
  bnd (some (if 2147483647 < (if 0 > a1 then 0 else a1) then 2147483647 else (if 0 > a1 then 0 else a1))) fun x1 =>
  bnd (loop (num_Digits.l1 a0 x1) (0, 0) : Option (Ex Int (Int × Int))) fun t2 => match t2 with
    | .brk u3 =>
      some (u3, (a0.length : Int))
    | .ret u3 => some u3
theorem num_Digits_c {a0 : List UInt8} {a1 : Int} {res : Int × Int} (h0 : num_Digits a0 a1 = some res) : CallF X 93 [.val (.string (bs a0)), dN a1] [] (fun x => .tup [dN res.1, dN res.2]) (fun x => []) := by
 unfold num_Digits at h0
 refine CallF.mkG (X := X) rfl Tryz.func93 rfl rfl Tryz.ntmps93 rfl rfl ?_
 refine aS ?_
 iterate 2 refine aA rfl rfl ?_
 refine aN rfl ?_
 refine aS ?_
 iterate 2 refine aA rfl rfl ?_
 obtain ⟨x1, hx1, h0⟩ := bS h0
 refine TL.op1 (OpR.cast (OpR.pure rfl) (intE (Option.some.inj hx1))) rfl ?_
 refine aA rfl rfl ?_
 refine aN rfl ?_
 refine aS ?_
 refine aA rfl rfl ?_
 refine aN rfl ?_
 refine T.seq ?_
 refine aS ?_
 refine aA rfl rfl ?_
 refine TL.op1 (OpR.cast (OpR.pure rfl) (intE (lenS _))) rfl ?_
 refine aA rfl rfl ?_
 refine aN rfl ?_
 obtain ⟨t2, ht2, h0⟩ := bS h0
 refine T.cutC (fun S' => ∃ u3, t2 = Ex.brk u3 ∧ S' = ⟨[(6, (dN u3)), (5, (dN 0)), (4, (dN 0)), (0, .val (.string (bs a0)))], [], 40⟩) (fun _ h => h) ?_ ?_
 rotate_left
 · rintro _ ⟨u3, rfl, rfl⟩
   show T X _ _ _
   refine aS ?_
   iterate 2 refine aA rfl rfl ?_
   refine TL.op1 (OpR.cast (OpR.pure rfl) (intE (lenS _))) rfl ?_
   iterate 2 refine aA rfl rfl ?_
   refine aN rfl ?_
   refine T.ret ?_
   obtain rfl := Option.some.inj h0
   exact rO [] [4, 5] rfl undef (cT rfl (cT rfl ResL.nil)) rfl rfl rfl rfl
 refine T.block ?_
 obtain ⟨n5, n10⟩ := loop_some ht2
 refine T.loop (fun n S' => ∃ S'', Gst S' S'' ∧ ∃ s4 : Int × Int, S'' = ⟨[(15, (dN s4.2)), (14, (dN (a0.length : Int))), (6, (dN s4.1)), (5, (dN 0)), (4, (dN 0)), (1, (dN x1)), (0, .val (.string (bs a0)))], [], 40⟩ ∧ iter (num_Digits.l1 a0 x1) n s4 = some t2) n5 ?_ ?_
 · exact ⟨_, Gst.only [0, 1, 4, 5, 6, 14, 15] rfl, (0, 0), rfl, n10⟩
 rintro n5 _ ⟨_, g, s4, rfl, i9⟩
 refine T.ghost g ?_
 obtain ⟨m6, q7, rfl, q8, i9⟩ := iter_succ i9
 unfold num_Digits.l1 at q8
 refine aS ?_
 refine aA rfl rfl ?_
 refine aN rfl ?_
 refine T.seq ?_
 rcases ite_some q8 with ⟨c12, q8⟩ | ⟨c12, q8⟩
 rotate_left
 · refine T.condF rfl (decide_eq_false c12) ?_
   refine T.exit ?_
   obtain rfl := Option.some.inj q8
   obtain rfl : _ = _ := i9
   exact ⟨_, Gst.only [0, 4, 5, 6] rfl, _, rfl, rfl⟩
 refine T.condT rfl (decide_eq_true c12) ?_
 refine aK rfl ?_
 refine T.seq ?_
 refine T.block ?_
 refine aS ?_
 iterate 2 refine aA rfl rfl ?_
 refine aN rfl ?_
 refine aS ?_
 iterate 2 refine aA rfl rfl ?_
 obtain ⟨x13, hx13, q8⟩ := bS q8
 refine TL.op1 (OpR.indexS hx13 rfl rfl rfl rfl) rfl ?_
 obtain ⟨x14, hx14, q8⟩ := bS q8
 refine TL.op1 (OpR.call0 fn165 (num_digit_c hx14) rfl) rfl ?_
 iterate 5 refine aA rfl rfl ?_
 refine aN rfl ?_
 refine T.seq ?_
 refine aS ?_
 iterate 2 refine aA rfl rfl ?_
 refine aN rfl ?_
 rcases ite_some q8 with ⟨c15, q8⟩ | ⟨c15, q8⟩
 rotate_left
 · refine T.condT rfl (not_f (eq_false_of_ne_true c15)) ?_
   refine aS ?_
   iterate 4 refine aA rfl rfl ?_
   refine aN rfl ?_
   refine T.ret ?_
   obtain rfl := Option.some.inj q8
   obtain rfl : _ = _ := i9
   obtain rfl := Option.some.inj h0
   exact rO [] [4, 5] rfl undef (cT rfl (cT rfl ResL.nil)) rfl rfl rfl rfl
 refine T.condF rfl (not_t (c15)) ?_
 refine aK rfl ?_
 refine T.region ?_
 iterate 6 refine aA rfl rfl ?_
 obtain ⟨x16, hx16, q8⟩ := bS q8
 refine TL.op1 (OpR.cast (OpR.pure rfl) (intE (Option.some.inj hx16))) rfl ?_
 refine aA rfl rfl ?_
 refine aN rfl ?_
 refine T.region ?_
 iterate 2 refine aA rfl rfl ?_
 refine TL.nil ?_
 obtain rfl := Option.some.inj q8
 exact ⟨m6, Nat.lt_succ_self _, _, Gst.only [0, 1, 4, 5, 6, 14, 15] rfl, (x16, w64 (s4.2 + 1)), rfl, i9⟩
noncomputable def filter_Right (a0 : filter_Test) : Option Bool :=
  bnd (if a0.fCol < 0 then
    some true
  else
    some (decide (a0.fCol ≥ 40)) : Option Bool) fun t1 =>
  if t1 = true then
    some false
  else
    bnd (if a0.fOp < 0 then
      some true
    else
      some (decide (a0.fOp > 6)) : Option Bool) fun t4 =>
    if t4 = true then
      some false
    else
      bnd (if (a0.fArg.length : Int) > 100 then
        some true
      else
        bnd (sAnyCRLF a0.fArg) fun x9 =>
        some x9 : Option Bool) fun t7 =>
      if t7 = true then
        some false
      else
        bnd (if a0.fOp = 6 then
          some (a0.fArg == [])
        else
          some true : Option Bool) fun t11 =>
        some t11
theorem filter_Right_c {a0 : filter_Test} {res : Bool} (h0 : filter_Right a0 = some res) : CallF X 33 [.agg [dN a0.fCol, dN a0.fOp, .val (.string (bs a0.fArg)), dT a0.fNot]] [] (fun x => (dT res)) (fun x => []) := by
 unfold filter_Right at h0
 refine CallF.mkG (X := X) rfl Tryz.func33 rfl rfl Tryz.ntmps33 rfl rfl ?_
 refine aS ?_
 refine TL.op1 (OpR.boxImm rfl rfl) rfl ?_
 refine aA rfl rfl ?_
 refine aN rfl ?_
 refine T.seq ?_
 refine T.block ?_
 refine T.seq ?_
 obtain ⟨t1, ht1, h0⟩ := bS h0
 refine T.cutC (fun S' => S' = ⟨[(3, (dT t1)), (2, (dT false)), (1, .nod [dN a0.fCol, dN a0.fOp, .val (.string (bs a0.fArg)), dT a0.fNot])], [], 39⟩) (fun _ h => h) ?_ ?_
 · refine T.region ?_
   iterate 4 refine aA rfl rfl ?_
   rcases ite_some ht1 with ⟨c2, ht1⟩ | ⟨c2, ht1⟩
   · refine TL.off rfl rfl rfl rfl (decide_eq_true c2) rfl rfl ?_
     refine TL.off rfl rfl rfl rfl (decide_eq_true c2) rfl rfl ?_
     refine TL.off rfl rfl rfl rfl (decide_eq_true c2) rfl rfl ?_
     refine TL.op1 (OpR.pickT rfl (decide_eq_true c2) rfl) rfl ?_
     refine aA rfl rfl ?_
     refine TL.nil ?_
     obtain rfl := Option.some.inj ht1
     exact ⟨_, Gst.only [1, 2, 3] rfl, rfl⟩
   refine TL.on rfl rfl rfl rfl (decide_eq_false c2) ?_
   refine aA rfl rfl ?_
   refine TL.on rfl rfl rfl rfl (decide_eq_false c2) ?_
   refine aA rfl rfl ?_
   refine TL.on rfl rfl rfl rfl (decide_eq_false c2) ?_
   refine aA rfl rfl ?_
   refine TL.op1 (OpR.pickF rfl (decide_eq_false c2) rfl) rfl ?_
   refine aA rfl rfl ?_
   refine TL.nil ?_
   obtain rfl := Option.some.inj ht1
   exact ⟨_, Gst.only [1, 2, 3] rfl, rfl⟩
 rintro _ rfl
 show T X _ _ _
 rcases ite_some h0 with ⟨c3, h0⟩ | ⟨c3, h0⟩
 · refine T.condT rfl (c3) ?_
   refine aS ?_
   refine aA rfl rfl ?_
   refine aN rfl ?_
   refine T.ret ?_
   obtain rfl := Option.some.inj h0
   exact rO [] [2] rfl undef (cT rfl ResL.nil) rfl rfl rfl rfl
 refine T.condF rfl (eq_false_of_ne_true c3) ?_
 refine T.seq ?_
 obtain ⟨t4, ht4, h0⟩ := bS h0
 refine T.cutC (fun S' => S' = ⟨[(12, (dT t4)), (2, (dT false)), (1, .nod [dN a0.fCol, dN a0.fOp, .val (.string (bs a0.fArg)), dT a0.fNot])], [], 39⟩) (fun _ h => h) ?_ ?_
 · refine T.region ?_
   iterate 4 refine aA rfl rfl ?_
   rcases ite_some ht4 with ⟨c5, ht4⟩ | ⟨c5, ht4⟩
   · refine TL.off rfl rfl rfl rfl (decide_eq_true c5) rfl rfl ?_
     refine TL.off rfl rfl rfl rfl (decide_eq_true c5) rfl rfl ?_
     refine TL.off rfl rfl rfl rfl (decide_eq_true c5) rfl rfl ?_
     refine TL.op1 (OpR.pickT rfl (decide_eq_true c5) rfl) rfl ?_
     refine aA rfl rfl ?_
     refine TL.nil ?_
     obtain rfl := Option.some.inj ht4
     exact ⟨_, Gst.only [1, 2, 12] rfl, rfl⟩
   refine TL.on rfl rfl rfl rfl (decide_eq_false c5) ?_
   refine aA rfl rfl ?_
   refine TL.on rfl rfl rfl rfl (decide_eq_false c5) ?_
   refine aA rfl rfl ?_
   refine TL.on rfl rfl rfl rfl (decide_eq_false c5) ?_
   refine aA rfl rfl ?_
   refine TL.op1 (OpR.pickF rfl (decide_eq_false c5) rfl) rfl ?_
   refine aA rfl rfl ?_
   refine TL.nil ?_
   obtain rfl := Option.some.inj ht4
   exact ⟨_, Gst.only [1, 2, 12] rfl, rfl⟩
 rintro _ rfl
 show T X _ _ _
 rcases ite_some h0 with ⟨c6, h0⟩ | ⟨c6, h0⟩
 · refine T.condT rfl (c6) ?_
   refine aS ?_
   refine aA rfl rfl ?_
   refine aN rfl ?_
   refine T.ret ?_
   obtain rfl := Option.some.inj h0
   exact rO [] [2] rfl undef (cT rfl ResL.nil) rfl rfl rfl rfl
 refine T.condF rfl (eq_false_of_ne_true c6) ?_
 refine T.seq ?_
 obtain ⟨t7, ht7, h0⟩ := bS h0
 refine T.cutC (fun S' => S' = ⟨[(21, (dT t7)), (2, (dT false)), (1, .nod [dN a0.fCol, dN a0.fOp, .val (.string (bs a0.fArg)), dT a0.fNot])], [], 39⟩) (fun _ h => h) ?_ ?_
 · refine T.region ?_
   iterate 2 refine aA rfl rfl ?_
   refine TL.op1 (OpR.cast (OpR.pure rfl) (intE (lenS _))) rfl ?_
   iterate 2 refine aA rfl rfl ?_
   rcases ite_some ht7 with ⟨c8, ht7⟩ | ⟨c8, ht7⟩
   · refine TL.off rfl rfl rfl rfl (decide_eq_true c8) rfl rfl ?_
     refine TL.off rfl rfl rfl rfl (decide_eq_true c8) rfl rfl ?_
     refine TL.off rfl rfl rfl rfl (decide_eq_true c8) rfl rfl ?_
     refine TL.op1 (OpR.pickT rfl (decide_eq_true c8) rfl) rfl ?_
     refine aA rfl rfl ?_
     refine TL.nil ?_
     obtain rfl := Option.some.inj ht7
     exact ⟨_, Gst.only [1, 2, 21] rfl, rfl⟩
   refine TL.on rfl rfl rfl rfl (decide_eq_false c8) ?_
   refine aA rfl rfl ?_
   refine TL.on rfl rfl rfl rfl (decide_eq_false c8) ?_
   refine aA rfl rfl ?_
   refine TL.on rfl rfl rfl rfl (decide_eq_false c8) ?_
   obtain ⟨x9, hx9, ht7⟩ := bS ht7
   refine TL.op1 (OpR.strAnyCRLF (ρ := smRen) (f := 95) smLay2 smSet rfl fn95 (l := a0.fArg) hx9 rfl rfl) rfl ?_
   refine TL.op1 (OpR.pickF rfl (decide_eq_false c8) rfl) rfl ?_
   refine aA rfl rfl ?_
   refine TL.nil ?_
   obtain rfl := Option.some.inj ht7
   exact ⟨_, Gst.only [1, 2, 21] rfl, rfl⟩
 rintro _ rfl
 show T X _ _ _
 rcases ite_some h0 with ⟨c10, h0⟩ | ⟨c10, h0⟩
 · refine T.condT rfl (c10) ?_
   refine aS ?_
   refine aA rfl rfl ?_
   refine aN rfl ?_
   refine T.ret ?_
   obtain rfl := Option.some.inj h0
   exact rO [] [2] rfl undef (cT rfl ResL.nil) rfl rfl rfl rfl
 refine T.condF rfl (eq_false_of_ne_true c10) ?_
 refine aK rfl ?_
 refine T.seq ?_
 obtain ⟨t11, ht11, h0⟩ := bS h0
 refine T.cutC (fun S' => S' = ⟨[(2, (dT t11))], [], 39⟩) (fun _ h => h) ?_ ?_
 rotate_left
 · rintro _ rfl
   show T X _ _ _
   refine T.ret ?_
   obtain rfl := Option.some.inj h0
   exact rO [] [2] rfl undef (cT rfl ResL.nil) rfl rfl rfl rfl
 refine T.region ?_
 iterate 4 refine aA rfl rfl ?_
 rcases ite_some ht11 with ⟨c12, ht11⟩ | ⟨c12, ht11⟩
 rotate_left
 · refine TL.off rfl rfl rfl rfl (not_f (beq_eq_false_iff_ne.2 c12)) rfl rfl ?_
   refine TL.off rfl rfl rfl rfl (not_f (beq_eq_false_iff_ne.2 c12)) rfl rfl ?_
   refine TL.off rfl rfl rfl rfl (not_f (beq_eq_false_iff_ne.2 c12)) rfl rfl ?_
   refine TL.op1 (OpR.pickT rfl (not_f (beq_eq_false_iff_ne.2 c12)) rfl) rfl ?_
   refine aA rfl rfl ?_
   refine TL.nil ?_
   obtain rfl := Option.some.inj ht11
   exact ⟨_, Gst.only [2] rfl, rfl⟩
 refine TL.on rfl rfl rfl rfl (not_t (beq_iff_eq.2 c12)) ?_
 refine aA rfl rfl ?_
 refine TL.on rfl rfl rfl rfl (not_t (beq_iff_eq.2 c12)) ?_
 refine aA rfl rfl ?_
 refine TL.on rfl rfl rfl rfl (not_t (beq_iff_eq.2 c12)) ?_
 refine TL.op1 (OpR.cast (OpR.pure rfl) (boolE (strEq _ _))) rfl ?_
 refine TL.op1 (OpR.pickF rfl (not_t (beq_iff_eq.2 c12)) rfl) rfl ?_
 refine aA rfl rfl ?_
 refine TL.nil ?_
 obtain rfl := Option.some.inj ht11
 exact ⟨_, Gst.only [2] rfl, rfl⟩
noncomputable def num_Text.l1 (s5 : Int × Int × UInt8 × UInt8 × UInt8 × UInt8 × UInt8 × UInt8 × UInt8 × UInt8 × UInt8 × UInt8 × UInt8 × UInt8 × UInt8 × UInt8 × UInt8 × UInt8 × UInt8 × UInt8 × UInt8 × UInt8) : Option (Lp (Int × Int × UInt8 × UInt8 × UInt8 × UInt8 × UInt8 × UInt8 × UInt8 × UInt8 × UInt8 × UInt8 × UInt8 × UInt8 × UInt8 × UInt8 × UInt8 × UInt8 × UInt8 × UInt8 × UInt8 × UInt8) (Int × UInt8 × UInt8 × UInt8 × UInt8 × UInt8 × UInt8 × UInt8 × UInt8 × UInt8 × UInt8 × UInt8 × UInt8 × UInt8 × UInt8 × UInt8 × UInt8 × UInt8 × UInt8 × UInt8 × UInt8)) :=
  bnd (idx ([s5.2.2.1, s5.2.2.2.1, s5.2.2.2.2.1, s5.2.2.2.2.2.1, s5.2.2.2.2.2.2.1, s5.2.2.2.2.2.2.2.1, s5.2.2.2.2.2.2.2.2.1, s5.2.2.2.2.2.2.2.2.2.1, s5.2.2.2.2.2.2.2.2.2.2.1, s5.2.2.2.2.2.2.2.2.2.2.2.1, s5.2.2.2.2.2.2.2.2.2.2.2.2.1, s5.2.2.2.2.2.2.2.2.2.2.2.2.2.1, s5.2.2.2.2.2.2.2.2.2.2.2.2.2.2.1, s5.2.2.2.2.2.2.2.2.2.2.2.2.2.2.2.1, s5.2.2.2.2.2.2.2.2.2.2.2.2.2.2.2.2.1, s5.2.2.2.2.2.2.2.2.2.2.2.2.2.2.2.2.2.1, s5.2.2.2.2.2.2.2.2.2.2.2.2.2.2.2.2.2.2.1, s5.2.2.2.2.2.2.2.2.2.2.2.2.2.2.2.2.2.2.2.1, s5.2.2.2.2.2.2.2.2.2.2.2.2.2.2.2.2.2.2.2.2.1, s5.2.2.2.2.2.2.2.2.2.2.2.2.2.2.2.2.2.2.2.2.2] : List UInt8) (w64 (s5.1 - 1))) fun x13 =>
  if (IntKind.wrap .u64 (quo s5.2.1 9)) = 0 then
    some (Lp.done (w64 (s5.1 - 1), (if w64 (s5.1 - 1) = 0 then (ub (IntKind.wrap .u64 (48 + (rem s5.2.1 9)))) else s5.2.2.1), (if (w64 (s5.1 - 1)) - 1 = 0 then (ub (IntKind.wrap .u64 (48 + (rem s5.2.1 9)))) else s5.2.2.2.1), (if ((w64 (s5.1 - 1)) - 1) - 1 = 0 then (ub (IntKind.wrap .u64 (48 + (rem s5.2.1 9)))) else s5.2.2.2.2.1), (if (((w64 (s5.1 - 1)) - 1) - 1) - 1 = 0 then (ub (IntKind.wrap .u64 (48 + (rem s5.2.1 9)))) else s5.2.2.2.2.2.1), (if ((((w64 (s5.1 - 1)) - 1) - 1) - 1) - 1 = 0 then (ub (IntKind.wrap .u64 (48 + (rem s5.2.1 9)))) else s5.2.2.2.2.2.2.1), (if (((((w64 (s5.1 - 1)) - 1) - 1) - 1) - 1) - 1 = 0 then (ub (IntKind.wrap .u64 (48 + (rem s5.2.1 9)))) else s5.2.2.2.2.2.2.2.1), (if ((((((w64 (s5.1 - 1)) - 1) - 1) - 1) - 1) - 1) - 1 = 0 then (ub (IntKind.wrap .u64 (48 + (rem s5.2.1 9)))) else s5.2.2.2.2.2.2.2.2.1), (if (((((((w64 (s5.1 - 1)) - 1) - 1) - 1) - 1) - 1) - 1) - 1 = 0 then (ub (IntKind.wrap .u64 (48 + (rem s5.2.1 9)))) else s5.2.2.2.2.2.2.2.2.2.1), (if ((((((((w64 (s5.1 - 1)) - 1) - 1) - 1) - 1) - 1) - 1) - 1) - 1 = 0 then (ub (IntKind.wrap .u64 (48 + (rem s5.2.1 9)))) else s5.2.2.2.2.2.2.2.2.2.2.1), (if (((((((((w64 (s5.1 - 1)) - 1) - 1) - 1) - 1) - 1) - 1) - 1) - 1) - 1 = 0 then (ub (IntKind.wrap .u64 (48 + (rem s5.2.1 9)))) else s5.2.2.2.2.2.2.2.2.2.2.2.1), (if ((((((((((w64 (s5.1 - 1)) - 1) - 1) - 1) - 1) - 1) - 1) - 1) - 1) - 1) - 1 = 0 then (ub (IntKind.wrap .u64 (48 + (rem s5.2.1 9)))) else s5.2.2.2.2.2.2.2.2.2.2.2.2.1), (if (((((((((((w64 (s5.1 - 1)) - 1) - 1) - 1) - 1) - 1) - 1) - 1) - 1) - 1) - 1) - 1 = 0 then (ub (IntKind.wrap .u64 (48 + (rem s5.2.1 9)))) else s5.2.2.2.2.2.2.2.2.2.2.2.2.2.1), (if ((((((((((((w64 (s5.1 - 1)) - 1) - 1) - 1) - 1) - 1) - 1) - 1) - 1) - 1) - 1) - 1) - 1 = 0 then (ub (IntKind.wrap .u64 (48 + (rem s5.2.1 9)))) else s5.2.2.2.2.2.2.2.2.2.2.2.2.2.2.1), (if (((((((((((((w64 (s5.1 - 1)) - 1) - 1) - 1) - 1) - 1) - 1) - 1) - 1) - 1) - 1) - 1) - 1) - 1 = 0 then (ub (IntKind.wrap .u64 (48 + (rem s5.2.1 9)))) else s5.2.2.2.2.2.2.2.2.2.2.2.2.2.2.2.1), (if ((((((((((((((w64 (s5.1 - 1)) - 1) - 1) - 1) - 1) - 1) - 1) - 1) - 1) - 1) - 1) - 1) - 1) - 1) - 1 = 0 then (ub (IntKind.wrap .u64 (48 + (rem s5.2.1 9)))) else s5.2.2.2.2.2.2.2.2.2.2.2.2.2.2.2.2.1), (if (((((((((((((((w64 (s5.1 - 1)) - 1) - 1) - 1) - 1) - 1) - 1) - 1) - 1) - 1) - 1) - 1) - 1) - 1) - 1) - 1 = 0 then (ub (IntKind.wrap .u64 (48 + (rem s5.2.1 9)))) else s5.2.2.2.2.2.2.2.2.2.2.2.2.2.2.2.2.2.1), (if ((((((((((((((((w64 (s5.1 - 1)) - 1) - 1) - 1) - 1) - 1) - 1) - 1) - 1) - 1) - 1) - 1) - 1) - 1) - 1) - 1) - 1 = 0 then (ub (IntKind.wrap .u64 (48 + (rem s5.2.1 9)))) else s5.2.2.2.2.2.2.2.2.2.2.2.2.2.2.2.2.2.2.1), (if (((((((((((((((((w64 (s5.1 - 1)) - 1) - 1) - 1) - 1) - 1) - 1) - 1) - 1) - 1) - 1) - 1) - 1) - 1) - 1) - 1) - 1) - 1 = 0 then (ub (IntKind.wrap .u64 (48 + (rem s5.2.1 9)))) else s5.2.2.2.2.2.2.2.2.2.2.2.2.2.2.2.2.2.2.2.1), (if ((((((((((((((((((w64 (s5.1 - 1)) - 1) - 1) - 1) - 1) - 1) - 1) - 1) - 1) - 1) - 1) - 1) - 1) - 1) - 1) - 1) - 1) - 1) - 1 = 0 then (ub (IntKind.wrap .u64 (48 + (rem s5.2.1 9)))) else s5.2.2.2.2.2.2.2.2.2.2.2.2.2.2.2.2.2.2.2.2.1), (if (((((((((((((((((((w64 (s5.1 - 1)) - 1) - 1) - 1) - 1) - 1) - 1) - 1) - 1) - 1) - 1) - 1) - 1) - 1) - 1) - 1) - 1) - 1) - 1) - 1 = 0 then (ub (IntKind.wrap .u64 (48 + (rem s5.2.1 9)))) else s5.2.2.2.2.2.2.2.2.2.2.2.2.2.2.2.2.2.2.2.2.2)))
  else
    some (Lp.next (w64 (s5.1 - 1), IntKind.wrap .u64 (quo s5.2.1 9), (if w64 (s5.1 - 1) = 0 then (ub (IntKind.wrap .u64 (48 + (rem s5.2.1 9)))) else s5.2.2.1), (if (w64 (s5.1 - 1)) - 1 = 0 then (ub (IntKind.wrap .u64 (48 + (rem s5.2.1 9)))) else s5.2.2.2.1), (if ((w64 (s5.1 - 1)) - 1) - 1 = 0 then (ub (IntKind.wrap .u64 (48 + (rem s5.2.1 9)))) else s5.2.2.2.2.1), (if (((w64 (s5.1 - 1)) - 1) - 1) - 1 = 0 then (ub (IntKind.wrap .u64 (48 + (rem s5.2.1 9)))) else s5.2.2.2.2.2.1), (if ((((w64 (s5.1 - 1)) - 1) - 1) - 1) - 1 = 0 then (ub (IntKind.wrap .u64 (48 + (rem s5.2.1 9)))) else s5.2.2.2.2.2.2.1), (if (((((w64 (s5.1 - 1)) - 1) - 1) - 1) - 1) - 1 = 0 then (ub (IntKind.wrap .u64 (48 + (rem s5.2.1 9)))) else s5.2.2.2.2.2.2.2.1), (if ((((((w64 (s5.1 - 1)) - 1) - 1) - 1) - 1) - 1) - 1 = 0 then (ub (IntKind.wrap .u64 (48 + (rem s5.2.1 9)))) else s5.2.2.2.2.2.2.2.2.1), (if (((((((w64 (s5.1 - 1)) - 1) - 1) - 1) - 1) - 1) - 1) - 1 = 0 then (ub (IntKind.wrap .u64 (48 + (rem s5.2.1 9)))) else s5.2.2.2.2.2.2.2.2.2.1), (if ((((((((w64 (s5.1 - 1)) - 1) - 1) - 1) - 1) - 1) - 1) - 1) - 1 = 0 then (ub (IntKind.wrap .u64 (48 + (rem s5.2.1 9)))) else s5.2.2.2.2.2.2.2.2.2.2.1), (if (((((((((w64 (s5.1 - 1)) - 1) - 1) - 1) - 1) - 1) - 1) - 1) - 1) - 1 = 0 then (ub (IntKind.wrap .u64 (48 + (rem s5.2.1 9)))) else s5.2.2.2.2.2.2.2.2.2.2.2.1), (if ((((((((((w64 (s5.1 - 1)) - 1) - 1) - 1) - 1) - 1) - 1) - 1) - 1) - 1) - 1 = 0 then (ub (IntKind.wrap .u64 (48 + (rem s5.2.1 9)))) else s5.2.2.2.2.2.2.2.2.2.2.2.2.1), (if (((((((((((w64 (s5.1 - 1)) - 1) - 1) - 1) - 1) - 1) - 1) - 1) - 1) - 1) - 1) - 1 = 0 then (ub (IntKind.wrap .u64 (48 + (rem s5.2.1 9)))) else s5.2.2.2.2.2.2.2.2.2.2.2.2.2.1), (if ((((((((((((w64 (s5.1 - 1)) - 1) - 1) - 1) - 1) - 1) - 1) - 1) - 1) - 1) - 1) - 1) - 1 = 0 then (ub (IntKind.wrap .u64 (48 + (rem s5.2.1 9)))) else s5.2.2.2.2.2.2.2.2.2.2.2.2.2.2.1), (if (((((((((((((w64 (s5.1 - 1)) - 1) - 1) - 1) - 1) - 1) - 1) - 1) - 1) - 1) - 1) - 1) - 1) - 1 = 0 then (ub (IntKind.wrap .u64 (48 + (rem s5.2.1 9)))) else s5.2.2.2.2.2.2.2.2.2.2.2.2.2.2.2.1), (if ((((((((((((((w64 (s5.1 - 1)) - 1) - 1) - 1) - 1) - 1) - 1) - 1) - 1) - 1) - 1) - 1) - 1) - 1) - 1 = 0 then (ub (IntKind.wrap .u64 (48 + (rem s5.2.1 9)))) else s5.2.2.2.2.2.2.2.2.2.2.2.2.2.2.2.2.1), (if (((((((((((((((w64 (s5.1 - 1)) - 1) - 1) - 1) - 1) - 1) - 1) - 1) - 1) - 1) - 1) - 1) - 1) - 1) - 1) - 1 = 0 then (ub (IntKind.wrap .u64 (48 + (rem s5.2.1 9)))) else s5.2.2.2.2.2.2.2.2.2.2.2.2.2.2.2.2.2.1), (if ((((((((((((((((w64 (s5.1 - 1)) - 1) - 1) - 1) - 1) - 1) - 1) - 1) - 1) - 1) - 1) - 1) - 1) - 1) - 1) - 1) - 1 = 0 then (ub (IntKind.wrap .u64 (48 + (rem s5.2.1 9)))) else s5.2.2.2.2.2.2.2.2.2.2.2.2.2.2.2.2.2.2.1), (if (((((((((((((((((w64 (s5.1 - 1)) - 1) - 1) - 1) - 1) - 1) - 1) - 1) - 1) - 1) - 1) - 1) - 1) - 1) - 1) - 1) - 1) - 1 = 0 then (ub (IntKind.wrap .u64 (48 + (rem s5.2.1 9)))) else s5.2.2.2.2.2.2.2.2.2.2.2.2.2.2.2.2.2.2.2.1), (if ((((((((((((((((((w64 (s5.1 - 1)) - 1) - 1) - 1) - 1) - 1) - 1) - 1) - 1) - 1) - 1) - 1) - 1) - 1) - 1) - 1) - 1) - 1) - 1 = 0 then (ub (IntKind.wrap .u64 (48 + (rem s5.2.1 9)))) else s5.2.2.2.2.2.2.2.2.2.2.2.2.2.2.2.2.2.2.2.2.1), (if (((((((((((((((((((w64 (s5.1 - 1)) - 1) - 1) - 1) - 1) - 1) - 1) - 1) - 1) - 1) - 1) - 1) - 1) - 1) - 1) - 1) - 1) - 1) - 1) - 1 = 0 then (ub (IntKind.wrap .u64 (48 + (rem s5.2.1 9)))) else s5.2.2.2.2.2.2.2.2.2.2.2.2.2.2.2.2.2.2.2.2.2)))
noncomputable def num_Text (a0 : Int) : Option (List UInt8) :=
  bnd (if a0 < 0 then
    some (IntKind.wrap .u64 (0 - (IntKind.wrap .u64 a0)))
  else
    some (IntKind.wrap .u64 a0) : Option Int) fun t2 =>
  bnd (loop num_Text.l1 (20, t2, 0, 0, 0, 0, 0, 0, 0, 0, 0, 0, 0, 0, 0, 0, 0, 0, 0, 0, 0, 0) : Option (Int × UInt8 × UInt8 × UInt8 × UInt8 × UInt8 × UInt8 × UInt8 × UInt8 × UInt8 × UInt8 × UInt8 × UInt8 × UInt8 × UInt8 × UInt8 × UInt8 × UInt8 × UInt8 × UInt8 × UInt8)) fun t4 =>
  bnd (if a0 < 0 then
    bnd (idx ([t4.2.1, t4.2.2.1, t4.2.2.2.1, t4.2.2.2.2.1, t4.2.2.2.2.2.1, t4.2.2.2.2.2.2.1, t4.2.2.2.2.2.2.2.1, t4.2.2.2.2.2.2.2.2.1, t4.2.2.2.2.2.2.2.2.2.1, t4.2.2.2.2.2.2.2.2.2.2.1, t4.2.2.2.2.2.2.2.2.2.2.2.1, t4.2.2.2.2.2.2.2.2.2.2.2.2.1, t4.2.2.2.2.2.2.2.2.2.2.2.2.2.1, t4.2.2.2.2.2.2.2.2.2.2.2.2.2.2.1, t4.2.2.2.2.2.2.2.2.2.2.2.2.2.2.2.1, t4.2.2.2.2.2.2.2.2.2.2.2.2.2.2.2.2.1, t4.2.2.2.2.2.2.2.2.2.2.2.2.2.2.2.2.2.1, t4.2.2.2.2.2.2.2.2.2.2.2.2.2.2.2.2.2.2.1, t4.2.2.2.2.2.2.2.2.2.2.2.2.2.2.2.2.2.2.2.1, t4.2.2.2.2.2.2.2.2.2.2.2.2.2.2.2.2.2.2.2.2] : List UInt8) (w64 (t4.1 - 1))) fun x17 =>
    some (w64 (t4.1 - 1), (if w64 (t4.1 - 1) = 0 then 45 else t4.2.1), (if (w64 (t4.1 - 1)) - 1 = 0 then 45 else t4.2.2.1), (if ((w64 (t4.1 - 1)) - 1) - 1 = 0 then 45 else t4.2.2.2.1), (if (((w64 (t4.1 - 1)) - 1) - 1) - 1 = 0 then 45 else t4.2.2.2.2.1), (if ((((w64 (t4.1 - 1)) - 1) - 1) - 1) - 1 = 0 then 45 else t4.2.2.2.2.2.1), (if (((((w64 (t4.1 - 1)) - 1) - 1) - 1) - 1) - 1 = 0 then 45 else t4.2.2.2.2.2.2.1), (if ((((((w64 (t4.1 - 1)) - 1) - 1) - 1) - 1) - 1) - 1 = 0 then 45 else t4.2.2.2.2.2.2.2.1), (if (((((((w64 (t4.1 - 1)) - 1) - 1) - 1) - 1) - 1) - 1) - 1 = 0 then 45 else t4.2.2.2.2.2.2.2.2.1), (if ((((((((w64 (t4.1 - 1)) - 1) - 1) - 1) - 1) - 1) - 1) - 1) - 1 = 0 then 45 else t4.2.2.2.2.2.2.2.2.2.1), (if (((((((((w64 (t4.1 - 1)) - 1) - 1) - 1) - 1) - 1) - 1) - 1) - 1) - 1 = 0 then 45 else t4.2.2.2.2.2.2.2.2.2.2.1), (if ((((((((((w64 (t4.1 - 1)) - 1) - 1) - 1) - 1) - 1) - 1) - 1) - 1) - 1) - 1 = 0 then 45 else t4.2.2.2.2.2.2.2.2.2.2.2.1), (if (((((((((((w64 (t4.1 - 1)) - 1) - 1) - 1) - 1) - 1) - 1) - 1) - 1) - 1) - 1) - 1 = 0 then 45 else t4.2.2.2.2.2.2.2.2.2.2.2.2.1), (if ((((((((((((w64 (t4.1 - 1)) - 1) - 1) - 1) - 1) - 1) - 1) - 1) - 1) - 1) - 1) - 1) - 1 = 0 then 45 else t4.2.2.2.2.2.2.2.2.2.2.2.2.2.1), (if (((((((((((((w64 (t4.1 - 1)) - 1) - 1) - 1) - 1) - 1) - 1) - 1) - 1) - 1) - 1) - 1) - 1) - 1 = 0 then 45 else t4.2.2.2.2.2.2.2.2.2.2.2.2.2.2.1), (if ((((((((((((((w64 (t4.1 - 1)) - 1) - 1) - 1) - 1) - 1) - 1) - 1) - 1) - 1) - 1) - 1) - 1) - 1) - 1 = 0 then 45 else t4.2.2.2.2.2.2.2.2.2.2.2.2.2.2.2.1), (if (((((((((((((((w64 (t4.1 - 1)) - 1) - 1) - 1) - 1) - 1) - 1) - 1) - 1) - 1) - 1) - 1) - 1) - 1) - 1) - 1 = 0 then 45 else t4.2.2.2.2.2.2.2.2.2.2.2.2.2.2.2.2.1), (if ((((((((((((((((w64 (t4.1 - 1)) - 1) - 1) - 1) - 1) - 1) - 1) - 1) - 1) - 1) - 1) - 1) - 1) - 1) - 1) - 1) - 1 = 0 then 45 else t4.2.2.2.2.2.2.2.2.2.2.2.2.2.2.2.2.2.1), (if (((((((((((((((((w64 (t4.1 - 1)) - 1) - 1) - 1) - 1) - 1) - 1) - 1) - 1) - 1) - 1) - 1) - 1) - 1) - 1) - 1) - 1) - 1 = 0 then 45 else t4.2.2.2.2.2.2.2.2.2.2.2.2.2.2.2.2.2.2.1), (if ((((((((((((((((((w64 (t4.1 - 1)) - 1) - 1) - 1) - 1) - 1) - 1) - 1) - 1) - 1) - 1) - 1) - 1) - 1) - 1) - 1) - 1) - 1) - 1 = 0 then 45 else t4.2.2.2.2.2.2.2.2.2.2.2.2.2.2.2.2.2.2.2.1), (if (((((((((((((((((((w64 (t4.1 - 1)) - 1) - 1) - 1) - 1) - 1) - 1) - 1) - 1) - 1) - 1) - 1) - 1) - 1) - 1) - 1) - 1) - 1) - 1) - 1 = 0 then 45 else t4.2.2.2.2.2.2.2.2.2.2.2.2.2.2.2.2.2.2.2.2))
  else
    some (t4.1, t4.2.1, t4.2.2.1, t4.2.2.2.1, t4.2.2.2.2.1, t4.2.2.2.2.2.1, t4.2.2.2.2.2.2.1, t4.2.2.2.2.2.2.2.1, t4.2.2.2.2.2.2.2.2.1, t4.2.2.2.2.2.2.2.2.2.1, t4.2.2.2.2.2.2.2.2.2.2.1, t4.2.2.2.2.2.2.2.2.2.2.2.1, t4.2.2.2.2.2.2.2.2.2.2.2.2.1, t4.2.2.2.2.2.2.2.2.2.2.2.2.2.1, t4.2.2.2.2.2.2.2.2.2.2.2.2.2.2.1, t4.2.2.2.2.2.2.2.2.2.2.2.2.2.2.2.1, t4.2.2.2.2.2.2.2.2.2.2.2.2.2.2.2.2.1, t4.2.2.2.2.2.2.2.2.2.2.2.2.2.2.2.2.2.1, t4.2.2.2.2.2.2.2.2.2.2.2.2.2.2.2.2.2.2.1, t4.2.2.2.2.2.2.2.2.2.2.2.2.2.2.2.2.2.2.2.1, t4.2.2.2.2.2.2.2.2.2.2.2.2.2.2.2.2.2.2.2.2) : Option (Int × UInt8 × UInt8 × UInt8 × UInt8 × UInt8 × UInt8 × UInt8 × UInt8 × UInt8 × UInt8 × UInt8 × UInt8 × UInt8 × UInt8 × UInt8 × UInt8 × UInt8 × UInt8 × UInt8 × UInt8)) fun t15 =>
  bnd (cut ([t15.2.1, t15.2.2.1, t15.2.2.2.1, t15.2.2.2.2.1, t15.2.2.2.2.2.1, t15.2.2.2.2.2.2.1, t15.2.2.2.2.2.2.2.1, t15.2.2.2.2.2.2.2.2.1, t15.2.2.2.2.2.2.2.2.2.1, t15.2.2.2.2.2.2.2.2.2.2.1, t15.2.2.2.2.2.2.2.2.2.2.2.1, t15.2.2.2.2.2.2.2.2.2.2.2.2.1, t15.2.2.2.2.2.2.2.2.2.2.2.2.2.1, t15.2.2.2.2.2.2.2.2.2.2.2.2.2.2.1, t15.2.2.2.2.2.2.2.2.2.2.2.2.2.2.2.1, t15.2.2.2.2.2.2.2.2.2.2.2.2.2.2.2.2.1, t15.2.2.2.2.2.2.2.2.2.2.2.2.2.2.2.2.2.1, t15.2.2.2.2.2.2.2.2.2.2.2.2.2.2.2.2.2.2.1, t15.2.2.2.2.2.2.2.2.2.2.2.2.2.2.2.2.2.2.2.1, t15.2.2.2.2.2.2.2.2.2.2.2.2.2.2.2.2.2.2.2.2] : List UInt8) t15.1 20) fun x18 =>
  some x18
theorem num_Text_c {a0 : Int} {res : (List UInt8)} (h0 : num_Text a0 = some res) : CallF X 96 [dN a0] [] (fun x => .val (.string (bs res))) (fun x => []) := by
 unfold num_Text at h0
 refine CallF.mkG (X := X) rfl Tryz.func96 rfl rfl Tryz.ntmps96 rfl rfl ?_
 refine aS ?_
 refine aA rfl rfl ?_
 refine aN rfl ?_
 refine aS ?_
 refine TL.op (OpR.alloc rfl rfl (fun _ => rfl)) rfl (fun p1 => ?_)
 refine aN rfl ?_
 refine aS ?_
 iterate 4 refine aA rfl rfl ?_
 refine aN rfl ?_
 refine T.seq ?_
 refine aS ?_
 iterate 2 refine aA rfl rfl ?_
 refine aN rfl ?_
 obtain ⟨t2, ht2, h0⟩ := bS h0
 refine T.cutC (fun S' => S' = ⟨[(5, .val (.int .u64 t2)), (4, (dN 20)), (3, (dP (blk p1))), (2, .val (.string (bs []))), (0, (dN a0))], [.var (blk p1) [.val (.int .u8 0), .val (.int .u8 0), .val (.int .u8 0), .val (.int .u8 0), .val (.int .u8 0), .val (.int .u8 0), .val (.int .u8 0), .val (.int .u8 0), .val (.int .u8 0), .val (.int .u8 0), .val (.int .u8 0), .val (.int .u8 0), .val (.int .u8 0), .val (.int .u8 0), .val (.int .u8 0), .val (.int .u8 0), .val (.int .u8 0), .val (.int .u8 0), .val (.int .u8 0), .val (.int .u8 0)] 246], 33⟩) (fun _ h => h) ?_ ?_
 · rcases ite_some ht2 with ⟨c3, ht2⟩ | ⟨c3, ht2⟩
   rotate_left
   · refine T.condF rfl (decide_eq_false c3) ?_
     refine T.skip ?_
     obtain rfl := Option.some.inj ht2
     exact ⟨_, Gst.only [0, 2, 3, 4, 5] rfl, rfl⟩
   refine T.condT rfl (decide_eq_true c3) ?_
   refine T.region ?_
   iterate 3 refine aA rfl rfl ?_
   refine TL.nil ?_
   obtain rfl := Option.some.inj ht2
   exact ⟨_, Gst.only [0, 2, 3, 4, 5] rfl, rfl⟩
 rintro _ rfl
 show T X _ _ _
 refine T.seq ?_
 obtain ⟨t4, ht4, h0⟩ := bS h0
 refine T.cutC (fun S' => S' = ⟨[(4, (dN t4.1)), (3, (dP (blk p1))), (2, .val (.string (bs []))), (0, (dN a0))], [.var (blk p1) [.val (.int .u8 (t4.2.1.toNat : Int)), .val (.int .u8 (t4.2.2.1.toNat : Int)), .val (.int .u8 (t4.2.2.2.1.toNat : Int)), .val (.int .u8 (t4.2.2.2.2.1.toNat : Int)), .val (.int .u8 (t4.2.2.2.2.2.1.toNat : Int)), .val (.int .u8 (t4.2.2.2.2.2.2.1.toNat : Int)), .val (.int .u8 (t4.2.2.2.2.2.2.2.1.toNat : Int)), .val (.int .u8 (t4.2.2.2.2.2.2.2.2.1.toNat : Int)), .val (.int .u8 (t4.2.2.2.2.2.2.2.2.2.1.toNat : Int)), .val (.int .u8 (t4.2.2.2.2.2.2.2.2.2.2.1.toNat : Int)), .val (.int .u8 (t4.2.2.2.2.2.2.2.2.2.2.2.1.toNat : Int)), .val (.int .u8 (t4.2.2.2.2.2.2.2.2.2.2.2.2.1.toNat : Int)), .val (.int .u8 (t4.2.2.2.2.2.2.2.2.2.2.2.2.2.1.toNat : Int)), .val (.int .u8 (t4.2.2.2.2.2.2.2.2.2.2.2.2.2.2.1.toNat : Int)), .val (.int .u8 (t4.2.2.2.2.2.2.2.2.2.2.2.2.2.2.2.1.toNat : Int)), .val (.int .u8 (t4.2.2.2.2.2.2.2.2.2.2.2.2.2.2.2.2.1.toNat : Int)), .val (.int .u8 (t4.2.2.2.2.2.2.2.2.2.2.2.2.2.2.2.2.2.1.toNat : Int)), .val (.int .u8 (t4.2.2.2.2.2.2.2.2.2.2.2.2.2.2.2.2.2.2.1.toNat : Int)), .val (.int .u8 (t4.2.2.2.2.2.2.2.2.2.2.2.2.2.2.2.2.2.2.2.1.toNat : Int)), .val (.int .u8 (t4.2.2.2.2.2.2.2.2.2.2.2.2.2.2.2.2.2.2.2.2.toNat : Int))] 246], 33⟩) (fun _ h => h) ?_ ?_
 rotate_left
 · rintro _ rfl
   show T X _ _ _
   refine T.seq ?_
   refine aS ?_
   iterate 2 refine aA rfl rfl ?_
   refine aN rfl ?_
   obtain ⟨t15, ht15, h0⟩ := bS h0
   refine T.cutC (fun S' => S' = ⟨[(4, (dN t15.1)), (3, (dP (blk p1))), (2, .val (.string (bs [])))], [.var (blk p1) [.val (.int .u8 (t15.2.1.toNat : Int)), .val (.int .u8 (t15.2.2.1.toNat : Int)), .val (.int .u8 (t15.2.2.2.1.toNat : Int)), .val (.int .u8 (t15.2.2.2.2.1.toNat : Int)), .val (.int .u8 (t15.2.2.2.2.2.1.toNat : Int)), .val (.int .u8 (t15.2.2.2.2.2.2.1.toNat : Int)), .val (.int .u8 (t15.2.2.2.2.2.2.2.1.toNat : Int)), .val (.int .u8 (t15.2.2.2.2.2.2.2.2.1.toNat : Int)), .val (.int .u8 (t15.2.2.2.2.2.2.2.2.2.1.toNat : Int)), .val (.int .u8 (t15.2.2.2.2.2.2.2.2.2.2.1.toNat : Int)), .val (.int .u8 (t15.2.2.2.2.2.2.2.2.2.2.2.1.toNat : Int)), .val (.int .u8 (t15.2.2.2.2.2.2.2.2.2.2.2.2.1.toNat : Int)), .val (.int .u8 (t15.2.2.2.2.2.2.2.2.2.2.2.2.2.1.toNat : Int)), .val (.int .u8 (t15.2.2.2.2.2.2.2.2.2.2.2.2.2.2.1.toNat : Int)), .val (.int .u8 (t15.2.2.2.2.2.2.2.2.2.2.2.2.2.2.2.1.toNat : Int)), .val (.int .u8 (t15.2.2.2.2.2.2.2.2.2.2.2.2.2.2.2.2.1.toNat : Int)), .val (.int .u8 (t15.2.2.2.2.2.2.2.2.2.2.2.2.2.2.2.2.2.1.toNat : Int)), .val (.int .u8 (t15.2.2.2.2.2.2.2.2.2.2.2.2.2.2.2.2.2.2.1.toNat : Int)), .val (.int .u8 (t15.2.2.2.2.2.2.2.2.2.2.2.2.2.2.2.2.2.2.2.1.toNat : Int)), .val (.int .u8 (t15.2.2.2.2.2.2.2.2.2.2.2.2.2.2.2.2.2.2.2.2.toNat : Int))] 246], 33⟩) (fun _ h => h) ?_ ?_
   rotate_left
   · rintro _ rfl
     show T X _ _ _
     refine aS ?_
     refine aA rfl rfl ?_
     obtain ⟨x18, hx18, h0⟩ := bS h0
     refine TL.op1 (OpR.sliceArrE (n := 20) (l := ([t15.2.1, t15.2.2.1, t15.2.2.2.1, t15.2.2.2.2.1, t15.2.2.2.2.2.1, t15.2.2.2.2.2.2.1, t15.2.2.2.2.2.2.2.1, t15.2.2.2.2.2.2.2.2.1, t15.2.2.2.2.2.2.2.2.2.1, t15.2.2.2.2.2.2.2.2.2.2.1, t15.2.2.2.2.2.2.2.2.2.2.2.1, t15.2.2.2.2.2.2.2.2.2.2.2.2.1, t15.2.2.2.2.2.2.2.2.2.2.2.2.2.1, t15.2.2.2.2.2.2.2.2.2.2.2.2.2.2.1, t15.2.2.2.2.2.2.2.2.2.2.2.2.2.2.2.1, t15.2.2.2.2.2.2.2.2.2.2.2.2.2.2.2.2.1, t15.2.2.2.2.2.2.2.2.2.2.2.2.2.2.2.2.2.1, t15.2.2.2.2.2.2.2.2.2.2.2.2.2.2.2.2.2.2.1, t15.2.2.2.2.2.2.2.2.2.2.2.2.2.2.2.2.2.2.2.1, t15.2.2.2.2.2.2.2.2.2.2.2.2.2.2.2.2.2.2.2.2] : List UInt8)) byteD 0 hx18 rfl rfl rfl rfl rfl rfl rfl rfl (fun _ => rfl) rfl rfl) rfl ?_
     refine TL.op1 (OpR.toStr (bs := x18) rfl rfl rfl rfl rfl rfl rfl) rfl ?_
     refine aA rfl rfl ?_
     refine aN rfl ?_
     refine T.ret ?_
     obtain rfl := Option.some.inj h0
     exact rP [] [2] [] rfl rfl rfl undef (cT rfl ResL.nil) rfl rfl rfl rfl
   rcases ite_some ht15 with ⟨c16, ht15⟩ | ⟨c16, ht15⟩
   rotate_left
   · refine T.condF rfl (decide_eq_false c16) ?_
     refine T.skip ?_
     obtain rfl := Option.some.inj ht15
     exact ⟨_, Gst.only [2, 3, 4] rfl, rfl⟩
   refine T.condT rfl (decide_eq_true c16) ?_
   refine aS ?_
   iterate 3 refine aA rfl rfl ?_
   refine aN rfl ?_
   refine T.region ?_
   refine aA rfl rfl ?_
   obtain ⟨x17, hx17, ht15⟩ := bS ht15
   refine TL.op1 (OpR.indexVarM (l := ([t4.2.1, t4.2.2.1, t4.2.2.2.1, t4.2.2.2.2.1, t4.2.2.2.2.2.1, t4.2.2.2.2.2.2.1, t4.2.2.2.2.2.2.2.1, t4.2.2.2.2.2.2.2.2.1, t4.2.2.2.2.2.2.2.2.2.1, t4.2.2.2.2.2.2.2.2.2.2.1, t4.2.2.2.2.2.2.2.2.2.2.2.1, t4.2.2.2.2.2.2.2.2.2.2.2.2.1, t4.2.2.2.2.2.2.2.2.2.2.2.2.2.1, t4.2.2.2.2.2.2.2.2.2.2.2.2.2.2.1, t4.2.2.2.2.2.2.2.2.2.2.2.2.2.2.2.1, t4.2.2.2.2.2.2.2.2.2.2.2.2.2.2.2.2.1, t4.2.2.2.2.2.2.2.2.2.2.2.2.2.2.2.2.2.1, t4.2.2.2.2.2.2.2.2.2.2.2.2.2.2.2.2.2.2.1, t4.2.2.2.2.2.2.2.2.2.2.2.2.2.2.2.2.2.2.2.1, t4.2.2.2.2.2.2.2.2.2.2.2.2.2.2.2.2.2.2.2.2] : List UInt8)) hx17 rfl rfl rfl rfl rfl rfl rfl) rfl ?_
   refine TL.op0 (OpR.arrStoreM (off := 0) (j := w64 (t4.1 - 1)) (a' := 45) (l := ([t4.2.1, t4.2.2.1, t4.2.2.2.1, t4.2.2.2.2.1, t4.2.2.2.2.2.1, t4.2.2.2.2.2.2.1, t4.2.2.2.2.2.2.2.1, t4.2.2.2.2.2.2.2.2.1, t4.2.2.2.2.2.2.2.2.2.1, t4.2.2.2.2.2.2.2.2.2.2.1, t4.2.2.2.2.2.2.2.2.2.2.2.1, t4.2.2.2.2.2.2.2.2.2.2.2.2.1, t4.2.2.2.2.2.2.2.2.2.2.2.2.2.1, t4.2.2.2.2.2.2.2.2.2.2.2.2.2.2.1, t4.2.2.2.2.2.2.2.2.2.2.2.2.2.2.2.1, t4.2.2.2.2.2.2.2.2.2.2.2.2.2.2.2.2.1, t4.2.2.2.2.2.2.2.2.2.2.2.2.2.2.2.2.2.1, t4.2.2.2.2.2.2.2.2.2.2.2.2.2.2.2.2.2.2.1, t4.2.2.2.2.2.2.2.2.2.2.2.2.2.2.2.2.2.2.2.1, t4.2.2.2.2.2.2.2.2.2.2.2.2.2.2.2.2.2.2.2.2] : List UInt8)) (pre := []) (rest := []) byteD 0 hx17 rfl rfl rfl rfl rfl (fun _ => rfl) rfl rfl rfl rfl) ?_
   refine TL.nil ?_
   obtain rfl := Option.some.inj ht15
   exact ⟨_, Gst.only [2, 3, 4] rfl, rfl⟩
 refine T.block ?_
 obtain ⟨n6, n11⟩ := loop_some ht4
 refine T.loop (fun n S' => ∃ S'', Gst S' S'' ∧ ∃ s5 : Int × Int × UInt8 × UInt8 × UInt8 × UInt8 × UInt8 × UInt8 × UInt8 × UInt8 × UInt8 × UInt8 × UInt8 × UInt8 × UInt8 × UInt8 × UInt8 × UInt8 × UInt8 × UInt8 × UInt8 × UInt8, S'' = ⟨[(5, .val (.int .u64 s5.2.1)), (4, (dN s5.1)), (3, (dP (blk p1))), (2, .val (.string (bs []))), (0, (dN a0))], [.var (blk p1) [.val (.int .u8 (s5.2.2.1.toNat : Int)), .val (.int .u8 (s5.2.2.2.1.toNat : Int)), .val (.int .u8 (s5.2.2.2.2.1.toNat : Int)), .val (.int .u8 (s5.2.2.2.2.2.1.toNat : Int)), .val (.int .u8 (s5.2.2.2.2.2.2.1.toNat : Int)), .val (.int .u8 (s5.2.2.2.2.2.2.2.1.toNat : Int)), .val (.int .u8 (s5.2.2.2.2.2.2.2.2.1.toNat : Int)), .val (.int .u8 (s5.2.2.2.2.2.2.2.2.2.1.toNat : Int)), .val (.int .u8 (s5.2.2.2.2.2.2.2.2.2.2.1.toNat : Int)), .val (.int .u8 (s5.2.2.2.2.2.2.2.2.2.2.2.1.toNat : Int)), .val (.int .u8 (s5.2.2.2.2.2.2.2.2.2.2.2.2.1.toNat : Int)), .val (.int .u8 (s5.2.2.2.2.2.2.2.2.2.2.2.2.2.1.toNat : Int)), .val (.int .u8 (s5.2.2.2.2.2.2.2.2.2.2.2.2.2.2.1.toNat : Int)), .val (.int .u8 (s5.2.2.2.2.2.2.2.2.2.2.2.2.2.2.2.1.toNat : Int)), .val (.int .u8 (s5.2.2.2.2.2.2.2.2.2.2.2.2.2.2.2.2.1.toNat : Int)), .val (.int .u8 (s5.2.2.2.2.2.2.2.2.2.2.2.2.2.2.2.2.2.1.toNat : Int)), .val (.int .u8 (s5.2.2.2.2.2.2.2.2.2.2.2.2.2.2.2.2.2.2.1.toNat : Int)), .val (.int .u8 (s5.2.2.2.2.2.2.2.2.2.2.2.2.2.2.2.2.2.2.2.1.toNat : Int)), .val (.int .u8 (s5.2.2.2.2.2.2.2.2.2.2.2.2.2.2.2.2.2.2.2.2.1.toNat : Int)), .val (.int .u8 (s5.2.2.2.2.2.2.2.2.2.2.2.2.2.2.2.2.2.2.2.2.2.toNat : Int))] 246], 33⟩ ∧ iter num_Text.l1 n s5 = some t4) n6 ?_ ?_
 · exact ⟨_, Gst.only [0, 2, 3, 4, 5] rfl, (20, t2, 0, 0, 0, 0, 0, 0, 0, 0, 0, 0, 0, 0, 0, 0, 0, 0, 0, 0, 0, 0), rfl, n11⟩
 rintro n6 _ ⟨_, g, s5, rfl, i10⟩
 refine T.ghost g ?_
 obtain ⟨m7, q8, rfl, q9, i10⟩ := iter_succ i10
 unfold num_Text.l1 at q9
 refine T.block ?_
 refine aS ?_
 iterate 3 refine aA rfl rfl ?_
 refine aN rfl ?_
 refine aS ?_
 iterate 4 refine aA rfl rfl ?_
 refine TL.op1 (OpR.cast (OpR.pure rfl) (intE (ub_wrap _))) rfl ?_
 obtain ⟨x13, hx13, q9⟩ := bS q9
 refine TL.op1 (OpR.indexVarM (l := ([s5.2.2.1, s5.2.2.2.1, s5.2.2.2.2.1, s5.2.2.2.2.2.1, s5.2.2.2.2.2.2.1, s5.2.2.2.2.2.2.2.1, s5.2.2.2.2.2.2.2.2.1, s5.2.2.2.2.2.2.2.2.2.1, s5.2.2.2.2.2.2.2.2.2.2.1, s5.2.2.2.2.2.2.2.2.2.2.2.1, s5.2.2.2.2.2.2.2.2.2.2.2.2.1, s5.2.2.2.2.2.2.2.2.2.2.2.2.2.1, s5.2.2.2.2.2.2.2.2.2.2.2.2.2.2.1, s5.2.2.2.2.2.2.2.2.2.2.2.2.2.2.2.1, s5.2.2.2.2.2.2.2.2.2.2.2.2.2.2.2.2.1, s5.2.2.2.2.2.2.2.2.2.2.2.2.2.2.2.2.2.1, s5.2.2.2.2.2.2.2.2.2.2.2.2.2.2.2.2.2.2.1, s5.2.2.2.2.2.2.2.2.2.2.2.2.2.2.2.2.2.2.2.1, s5.2.2.2.2.2.2.2.2.2.2.2.2.2.2.2.2.2.2.2.2.1, s5.2.2.2.2.2.2.2.2.2.2.2.2.2.2.2.2.2.2.2.2.2] : List UInt8)) hx13 rfl rfl rfl rfl rfl rfl rfl) rfl ?_
 refine TL.op0 (OpR.arrStoreM (off := 0) (j := w64 (s5.1 - 1)) (a' := (ub (IntKind.wrap .u64 (48 + (rem s5.2.1 9))))) (l := ([s5.2.2.1, s5.2.2.2.1, s5.2.2.2.2.1, s5.2.2.2.2.2.1, s5.2.2.2.2.2.2.1, s5.2.2.2.2.2.2.2.1, s5.2.2.2.2.2.2.2.2.1, s5.2.2.2.2.2.2.2.2.2.1, s5.2.2.2.2.2.2.2.2.2.2.1, s5.2.2.2.2.2.2.2.2.2.2.2.1, s5.2.2.2.2.2.2.2.2.2.2.2.2.1, s5.2.2.2.2.2.2.2.2.2.2.2.2.2.1, s5.2.2.2.2.2.2.2.2.2.2.2.2.2.2.1, s5.2.2.2.2.2.2.2.2.2.2.2.2.2.2.2.1, s5.2.2.2.2.2.2.2.2.2.2.2.2.2.2.2.2.1, s5.2.2.2.2.2.2.2.2.2.2.2.2.2.2.2.2.2.1, s5.2.2.2.2.2.2.2.2.2.2.2.2.2.2.2.2.2.2.1, s5.2.2.2.2.2.2.2.2.2.2.2.2.2.2.2.2.2.2.2.1, s5.2.2.2.2.2.2.2.2.2.2.2.2.2.2.2.2.2.2.2.2.1, s5.2.2.2.2.2.2.2.2.2.2.2.2.2.2.2.2.2.2.2.2.2] : List UInt8)) (pre := []) (rest := []) byteD 0 hx13 rfl rfl rfl rfl rfl (fun _ => rfl) rfl rfl rfl rfl) ?_
 refine aN rfl ?_
 refine aS ?_
 iterate 3 refine aA rfl rfl ?_
 refine aN rfl ?_
 refine aS ?_
 iterate 2 refine aA rfl rfl ?_
 refine aN rfl ?_
 rcases ite_some q9 with ⟨c14, q9⟩ | ⟨c14, q9⟩
 · refine T.condT rfl (beq_iff_eq.2 c14) ?_
   refine T.exit ?_
   obtain rfl := Option.some.inj q9
   obtain rfl : _ = _ := i10
   exact ⟨_, Gst.only [0, 2, 3, 4] rfl, rfl⟩
 refine T.condF rfl (beq_eq_false_iff_ne.2 c14) ?_
 refine T.skip ?_
 obtain rfl := Option.some.inj q9
 exact ⟨m7, Nat.lt_succ_self _, _, Gst.only [0, 2, 3, 4, 5] rfl, (w64 (s5.1 - 1), IntKind.wrap .u64 (quo s5.2.1 9), (if w64 (s5.1 - 1) = 0 then (ub (IntKind.wrap .u64 (48 + (rem s5.2.1 9)))) else s5.2.2.1), (if (w64 (s5.1 - 1)) - 1 = 0 then (ub (IntKind.wrap .u64 (48 + (rem s5.2.1 9)))) else s5.2.2.2.1), (if ((w64 (s5.1 - 1)) - 1) - 1 = 0 then (ub (IntKind.wrap .u64 (48 + (rem s5.2.1 9)))) else s5.2.2.2.2.1), (if (((w64 (s5.1 - 1)) - 1) - 1) - 1 = 0 then (ub (IntKind.wrap .u64 (48 + (rem s5.2.1 9)))) else s5.2.2.2.2.2.1), (if ((((w64 (s5.1 - 1)) - 1) - 1) - 1) - 1 = 0 then (ub (IntKind.wrap .u64 (48 + (rem s5.2.1 9)))) else s5.2.2.2.2.2.2.1), (if (((((w64 (s5.1 - 1)) - 1) - 1) - 1) - 1) - 1 = 0 then (ub (IntKind.wrap .u64 (48 + (rem s5.2.1 9)))) else s5.2.2.2.2.2.2.2.1), (if ((((((w64 (s5.1 - 1)) - 1) - 1) - 1) - 1) - 1) - 1 = 0 then (ub (IntKind.wrap .u64 (48 + (rem s5.2.1 9)))) else s5.2.2.2.2.2.2.2.2.1), (if (((((((w64 (s5.1 - 1)) - 1) - 1) - 1) - 1) - 1) - 1) - 1 = 0 then (ub (IntKind.wrap .u64 (48 + (rem s5.2.1 9)))) else s5.2.2.2.2.2.2.2.2.2.1), (if ((((((((w64 (s5.1 - 1)) - 1) - 1) - 1) - 1) - 1) - 1) - 1) - 1 = 0 then (ub (IntKind.wrap .u64 (48 + (rem s5.2.1 9)))) else s5.2.2.2.2.2.2.2.2.2.2.1), (if (((((((((w64 (s5.1 - 1)) - 1) - 1) - 1) - 1) - 1) - 1) - 1) - 1) - 1 = 0 then (ub (IntKind.wrap .u64 (48 + (rem s5.2.1 9)))) else s5.2.2.2.2.2.2.2.2.2.2.2.1), (if ((((((((((w64 (s5.1 - 1)) - 1) - 1) - 1) - 1) - 1) - 1) - 1) - 1) - 1) - 1 = 0 then (ub (IntKind.wrap .u64 (48 + (rem s5.2.1 9)))) else s5.2.2.2.2.2.2.2.2.2.2.2.2.1), (if (((((((((((w64 (s5.1 - 1)) - 1) - 1) - 1) - 1) - 1) - 1) - 1) - 1) - 1) - 1) - 1 = 0 then (ub (IntKind.wrap .u64 (48 + (rem s5.2.1 9)))) else s5.2.2.2.2.2.2.2.2.2.2.2.2.2.1), (if ((((((((((((w64 (s5.1 - 1)) - 1) - 1) - 1) - 1) - 1) - 1) - 1) - 1) - 1) - 1) - 1) - 1 = 0 then (ub (IntKind.wrap .u64 (48 + (rem s5.2.1 9)))) else s5.2.2.2.2.2.2.2.2.2.2.2.2.2.2.1), (if (((((((((((((w64 (s5.1 - 1)) - 1) - 1) - 1) - 1) - 1) - 1) - 1) - 1) - 1) - 1) - 1) - 1) - 1 = 0 then (ub (IntKind.wrap .u64 (48 + (rem s5.2.1 9)))) else s5.2.2.2.2.2.2.2.2.2.2.2.2.2.2.2.1), (if ((((((((((((((w64 (s5.1 - 1)) - 1) - 1) - 1) - 1) - 1) - 1) - 1) - 1) - 1) - 1) - 1) - 1) - 1) - 1 = 0 then (ub (IntKind.wrap .u64 (48 + (rem s5.2.1 9)))) else s5.2.2.2.2.2.2.2.2.2.2.2.2.2.2.2.2.1), (if (((((((((((((((w64 (s5.1 - 1)) - 1) - 1) - 1) - 1) - 1) - 1) - 1) - 1) - 1) - 1) - 1) - 1) - 1) - 1) - 1 = 0 then (ub (IntKind.wrap .u64 (48 + (rem s5.2.1 9)))) else s5.2.2.2.2.2.2.2.2.2.2.2.2.2.2.2.2.2.1), (if ((((((((((((((((w64 (s5.1 - 1)) - 1) - 1) - 1) - 1) - 1) - 1) - 1) - 1) - 1) - 1) - 1) - 1) - 1) - 1) - 1) - 1 = 0 then (ub (IntKind.wrap .u64 (48 + (rem s5.2.1 9)))) else s5.2.2.2.2.2.2.2.2.2.2.2.2.2.2.2.2.2.2.1), (if (((((((((((((((((w64 (s5.1 - 1)) - 1) - 1) - 1) - 1) - 1) - 1) - 1) - 1) - 1) - 1) - 1) - 1) - 1) - 1) - 1) - 1) - 1 = 0 then (ub (IntKind.wrap .u64 (48 + (rem s5.2.1 9)))) else s5.2.2.2.2.2.2.2.2.2.2.2.2.2.2.2.2.2.2.2.1), (if ((((((((((((((((((w64 (s5.1 - 1)) - 1) - 1) - 1) - 1) - 1) - 1) - 1) - 1) - 1) - 1) - 1) - 1) - 1) - 1) - 1) - 1) - 1) - 1 = 0 then (ub (IntKind.wrap .u64 (48 + (rem s5.2.1 9)))) else s5.2.2.2.2.2.2.2.2.2.2.2.2.2.2.2.2.2.2.2.2.1), (if (((((((((((((((((((w64 (s5.1 - 1)) - 1) - 1) - 1) - 1) - 1) - 1) - 1) - 1) - 1) - 1) - 1) - 1) - 1) - 1) - 1) - 1) - 1) - 1) - 1 = 0 then (ub (IntKind.wrap .u64 (48 + (rem s5.2.1 9)))) else s5.2.2.2.2.2.2.2.2.2.2.2.2.2.2.2.2.2.2.2.2.2)), rfl, i10⟩
noncomputable def filter_Print (a0 : filter_Test) : Option (List UInt8) :=
  bnd (filter_Right a0) fun x1 =>
  if x1 = true then
    bnd (if a0.fNot = true then
      some [33]
    else
      some [] : Option (List UInt8)) fun t3 =>
    bnd (num_Text (w64 (a0.fCol + 1))) fun x6 =>
    bnd (catS t3 x6) fun x7 =>
    bnd (cut [126, 61, 60, 62, 94, 36, 63] a0.fOp (w64 (a0.fOp + 1))) fun x8 =>
    bnd (catS x7 x8) fun x9 =>
    bnd (catS x9 a0.fArg) fun x10 =>
    some x10
  else
    some []
theorem filter_Print_c {a0 : filter_Test} {res : (List UInt8)} (h0 : filter_Print a0 = some res) : CallF X 36 [.agg [dN a0.fCol, dN a0.fOp, .val (.string (bs a0.fArg)), dT a0.fNot]] [] (fun x => .val (.string (bs res))) (fun x => []) := by
 unfold filter_Print at h0
 refine CallF.mkG (X := X) rfl Tryz.func36 rfl rfl Tryz.ntmps36 rfl rfl ?_
 refine aS ?_
 refine TL.op1 (OpR.boxImm rfl rfl) rfl ?_
 refine aA rfl rfl ?_
 refine aN rfl ?_
 refine T.seq ?_
 refine aS ?_
 refine aA rfl rfl ?_
 obtain ⟨x1, hx1, h0⟩ := bS h0
 refine TL.op1 (OpR.call0 fn33 (filter_Right_c hx1) rfl) rfl ?_
 refine aA rfl rfl ?_
 refine aN rfl ?_
 rcases ite_some h0 with ⟨c2, h0⟩ | ⟨c2, h0⟩
 rotate_left
 · refine T.condT rfl (not_f (eq_false_of_ne_true c2)) ?_
   refine aS ?_
   refine aA rfl rfl ?_
   refine aN rfl ?_
   refine T.ret ?_
   obtain rfl := Option.some.inj h0
   exact rO [] [2] rfl undef (cT rfl ResL.nil) rfl rfl rfl rfl
 refine T.condF rfl (not_t (c2)) ?_
 refine aK rfl ?_
 refine aS ?_
 refine aA rfl rfl ?_
 refine aN rfl ?_
 refine T.seq ?_
 refine aS ?_
 iterate 2 refine aA rfl rfl ?_
 refine aN rfl ?_
 obtain ⟨t3, ht3, h0⟩ := bS h0
 refine T.cutC (fun S' => S' = ⟨[(3, .val (.string (bs t3))), (2, .val (.string (bs []))), (1, .nod [dN a0.fCol, dN a0.fOp, .val (.string (bs a0.fArg)), dT a0.fNot])], [], 25⟩) (fun _ h => h) ?_ ?_
 · rcases ite_some ht3 with ⟨c4, ht3⟩ | ⟨c4, ht3⟩
   rotate_left
   · refine T.condF rfl (eq_false_of_ne_true c4) ?_
     refine T.skip ?_
     obtain rfl := Option.some.inj ht3
     exact ⟨_, Gst.only [1, 2, 3] rfl, rfl⟩
   refine T.condT rfl (c4) ?_
   refine T.region ?_
   refine aA rfl rfl ?_
   refine TL.nil ?_
   obtain rfl := Option.some.inj ht3
   exact ⟨_, Gst.only [1, 2, 3] rfl, rfl⟩
 rintro _ rfl
 show T X _ _ _
 refine T.seq ?_
 obtain ⟨x6, hx6, h0⟩ := bS h0
 obtain ⟨x7, hx7, h0⟩ := bS h0
 obtain ⟨x8, hx8, h0⟩ := bS h0
 obtain ⟨x9, hx9, h0⟩ := bS h0
 obtain ⟨x10, hx10, h0⟩ := bS h0
 refine T.drawQ drawsX [.val (.string (bs t3)), .nod [dN a0.fCol, dN a0.fOp, .val (.string (bs a0.fArg)), dT a0.fNot], dN a0.fCol, dN (w64 (a0.fCol + 1)), .val (.string (bs x6)), .val (.string (bs x7)), .nod [dN a0.fOp, .val (.string (bs a0.fArg)), dT a0.fNot], dN a0.fOp, .nod [dN a0.fOp, .val (.string (bs a0.fArg)), dT a0.fNot], dN a0.fOp, dN (w64 (a0.fOp + 1)), .val (.string (bs x8)), .val (.string (bs x9)), .nod [.val (.string (bs a0.fArg)), dT a0.fNot], .val (.string (bs a0.fArg)), .val (.string (bs x10)), .val (.string (bs x10))] [2] (by decide +kernel) rfl ?_ rfl ?_
 rotate_left
 · show T X _ _ _
   refine T.ret ?_
   obtain rfl := Option.some.inj h0
   exact rO [] [2] rfl undef (cT rfl ResL.nil) rfl rfl rfl rfl
 iterate 4 refine aB rfl rfl rfl ?_
 refine OpsQ.yes (Want.plain rfl) rfl (OpR.call0 fn96 (num_Text_c hx6) rfl) ?_
 refine OpsQ.yes (Want.plain rfl) rfl (OpR.concatM hx7 rfl rfl) ?_
 iterate 5 refine aB rfl rfl rfl ?_
 refine OpsQ.yes (Want.plain rfl) rfl (OpR.sliceS hx8 rfl rfl rfl (BdM.some rfl) (BdM.some rfl)) ?_
 refine OpsQ.yes (Want.plain rfl) rfl (OpR.concatM hx9 rfl rfl) ?_
 iterate 2 refine aB rfl rfl rfl ?_
 refine OpsQ.yes (Want.plain rfl) rfl (OpR.concatM hx10 rfl rfl) ?_
 refine aB rfl rfl rfl ?_
 exact OpsQ.nil
noncomputable def filter_Parse (a0 : List UInt8) : Option (filter_Test × Int) :=
  bnd (strings_CutPrefix a0 [33]) fun x3 =>
  bnd (num_Digits x3.1 41) fun x4 =>
  bnd (cut x3.1 x4.2 (x3.1.length : Int)) fun x5 =>
  if x5 = [] then
    some ((⟨0, 0, [], false⟩ : filter_Test), 3)
  else
    bnd (cut x5 1 (x5.length : Int)) fun x8 =>
    bnd (idx x5 0) fun x9 =>
    bnd (bnd (filter_Right (⟨w64 (x4.1 - 1), (sIndexByte [126, 61, 60, 62, 94, 36, 63] x9), x8, x3.2⟩ : filter_Test)) fun x11 =>
    if x11 = true then
      bnd (filter_Print (⟨w64 (x4.1 - 1), (sIndexByte [126, 61, 60, 62, 94, 36, 63] x9), x8, x3.2⟩ : filter_Test)) fun x13 =>
      some (!(x13 == a0))
    else
      some true : Option Bool) fun t10 =>
    if t10 = true then
      some ((⟨0, 0, [], false⟩ : filter_Test), 3)
    else
      some ((⟨w64 (x4.1 - 1), (sIndexByte [126, 61, 60, 62, 94, 36, 63] x9), x8, x3.2⟩ : filter_Test), 0)
theorem filter_Parse_c {a0 : List UInt8} {res : filter_Test × Int} (h0 : filter_Parse a0 = some res) : CallF X 31 [.val (.string (bs a0))] [] (fun x => .tup [.agg [dN res.1.fCol, dN res.1.fOp, .val (.string (bs res.1.fArg)), dT res.1.fNot], dN res.2]) (fun x => []) := by
 unfold filter_Parse at h0
 refine CallF.mkG (X := X) rfl Tryz.func31 rfl rfl Tryz.ntmps31 rfl rfl ?_
 refine aS ?_
 refine TL.op (OpR.alloc rfl rfl (fun _ => rfl)) rfl (fun p1 => ?_)
 refine aA rfl rfl ?_
 refine aN rfl ?_
 refine aS ?_
 refine TL.op (OpR.alloc rfl rfl (fun _ => rfl)) rfl (fun p2 => ?_)
 refine aN rfl ?_
 refine aS ?_
 refine aA rfl rfl ?_
 obtain ⟨x3, hx3, h0⟩ := bS h0
 refine TL.op1 (OpR.call0 fn92 (strings_CutPrefix_c hx3) rfl) rfl ?_
 iterate 5 refine aA rfl rfl ?_
 refine aN rfl ?_
 refine aS ?_
 refine aA rfl rfl ?_
 obtain ⟨x4, hx4, h0⟩ := bS h0
 refine TL.op1 (OpR.call0 fn93 (num_Digits_c hx4) rfl) rfl ?_
 iterate 5 refine aA rfl rfl ?_
 refine aN rfl ?_
 refine aS ?_
 iterate 2 refine aA rfl rfl ?_
 obtain ⟨x5, hx5, h0⟩ := bS h0
 refine TL.op1 (OpR.sliceS hx5 rfl rfl rfl (BdM.some rfl) BdM.none) rfl ?_
 refine aA rfl rfl ?_
 refine aN rfl ?_
 refine T.seq ?_
 refine aS ?_
 refine aA rfl rfl ?_
 refine TL.op1 (OpR.cast (OpR.pure rfl) (boolE (strEq _ _))) rfl ?_
 refine aN rfl ?_
 rcases ite_some h0 with ⟨c6, h0⟩ | ⟨c6, h0⟩
 · refine T.condT rfl (beq_iff_eq.2 c6) ?_
   refine aS ?_
   refine TL.op1 (OpR.build rfl rfl rfl rfl rfl) rfl ?_
   refine TL.op0 (OpR.store 0 rfl rfl rfl rfl rfl rfl rfl rfl) ?_
   refine aA rfl rfl ?_
   refine aN rfl ?_
   refine T.ret ?_
   obtain rfl := Option.some.inj h0
   exact rP [] [2, 3] [0] rfl rfl rfl undef (cV 0 rfl rfl rfl rfl (cT rfl ResL.nil)) rfl rfl rfl rfl
 refine T.condF rfl (beq_eq_false_iff_ne.2 c6) ?_
 refine aK rfl ?_
 refine T.seq ?_
 obtain ⟨x8, hx8, h0⟩ := bS h0
 refine T.drawS drawsX (fun env7 => [dN x4.1, dN (w64 (x4.1 - 1)), dT x3.2, .val (.string (bs x5)), .val (.string (bs x8)), dP (blk p2), .dead, .val (.pointer (some ⟨(blk p2), 3, none⟩)), .dead, .val (.pointer (some ⟨(blk p2), 2, none⟩)), .dead]) (fun D env7 => [.var (blk p1) [dN 0, dN 0, .val (.string (bs [])), dT false] 65, (bif D 10 then .var (blk p2) [dN (w64 (x4.1 - 1)), dN 0, .val (.string (bs x8)), dT x3.2] 65 else bif D 8 then .var (blk p2) [dN (w64 (x4.1 - 1)), dN 0, .val (.string (bs [])), dT x3.2] 65 else bif D 6 then .var (blk p2) [dN (w64 (x4.1 - 1)), dN 0, .val (.string (bs [])), dT false] 65 else .var (blk p2) [dN 0, dN 0, .val (.string (bs [])), dT false] 65)]) [0, 1, 0, 0, 8, 3, 35, 103, 231, 511, 1023] [0, 2, 3, 4, 5] _ (by decide +kernel) (by decide +kernel) (fun _ => rfl) (fun _ => rfl) ?_ (fun _ => rfl) (fun _ => rfl) ?_
 · iterate 4 refine aC ?_
   refine oT (.val (.string (bs x8))) (fun _ _ => OpR.sliceS hx8 rfl rfl rfl (BdM.some rfl) BdM.none) ?_
   refine aC ?_
   refine OpsS.cons' true ?_ (fun _ _ _ _ _ _ _ => rfl) ?_
   · intro D env7 hA
     have e8 : D 8 = false := hA.no 8 _ rfl rfl
     have e10 : D 10 = false := hA.no 10 _ rfl rfl
     exact OpS.yp [(8, false), (10, false), (6, false)] ⟨e8, e10, hA.me, trivial⟩ (Want.plain rfl) (OpR.store 1 rfl rfl rfl rfl rfl rfl rfl rfl) (fun x => rfl) (fun x => rfl)
   refine aC ?_
   refine OpsS.cons' true ?_ (fun _ _ _ _ _ _ _ => rfl) ?_
   · intro D env7 hA
     have e6 : D 6 = true := hA.yes 6 _ rfl rfl
     have e10 : D 10 = false := hA.no 10 _ rfl rfl
     exact OpS.yp [(6, true), (10, false), (8, false)] ⟨e6, e10, hA.me, trivial⟩ (Want.plain rfl) (OpR.store 1 rfl rfl rfl rfl rfl rfl rfl rfl) (fun x => rfl) (fun x => rfl)
   refine aC ?_
   refine OpsS.cons' true ?_ (fun _ _ _ _ _ _ _ => rfl) ?_
   · intro D env7 hA
     have e6 : D 6 = true := hA.yes 6 _ rfl rfl
     have e8 : D 8 = true := hA.yes 8 _ rfl rfl
     exact OpS.yp [(6, true), (8, true), (10, false)] ⟨e6, e8, hA.me, trivial⟩ (Want.plain rfl) (OpR.store 1 rfl rfl rfl rfl rfl rfl rfl rfl) (fun x => rfl) (fun x => rfl)
   exact trivial
 intro env7
 show T X _ _ _
 refine aS ?_
 refine aA rfl rfl ?_
 obtain ⟨x9, hx9, h0⟩ := bS h0
 refine TL.op1 (OpR.indexS hx9 rfl rfl rfl rfl) rfl ?_
 refine TL.op1 (OpR.strIndexByte (ρ := smRen) (f := 94) smLay rfl fn94 (l := [126, 61, 60, 62, 94, 36, 63]) (c := x9) rfl rfl) rfl ?_
 refine aA rfl rfl ?_
 refine TL.op0 (OpR.store 1 rfl rfl rfl rfl rfl rfl rfl rfl) ?_
 refine aN rfl ?_
 refine T.seq ?_
 refine T.seq ?_
 obtain ⟨t10, ht10, h0⟩ := bS h0
 refine T.cutC (fun S' => S' = ⟨[(45, (dT t10)), (4, (dP (blk p2))), (3, (dN 0)), (2, (dP (blk p1)))], [.var (blk p1) [dN 0, dN 0, .val (.string (bs [])), dT false] 65, .var (blk p2) [dN (w64 (x4.1 - 1)), dN (sIndexByte [126, 61, 60, 62, 94, 36, 63] x9), .val (.string (bs x8)), dT x3.2] 65], 48⟩) (fun _ h => h) ?_ ?_
 rotate_left
 · rintro _ rfl
   show T X _ _ _
   rcases ite_some h0 with ⟨c14, h0⟩ | ⟨c14, h0⟩
   · refine T.condT rfl (c14) ?_
     refine aS ?_
     refine TL.op1 (OpR.build rfl rfl rfl rfl rfl) rfl ?_
     refine TL.op0 (OpR.store 0 rfl rfl rfl rfl rfl rfl rfl rfl) ?_
     refine aA rfl rfl ?_
     refine aN rfl ?_
     refine T.ret ?_
     obtain rfl := Option.some.inj h0
     exact rP [] [2, 3] [0] rfl rfl rfl undef (cV 0 rfl rfl rfl rfl (cT rfl ResL.nil)) rfl rfl rfl rfl
   refine T.condF rfl (eq_false_of_ne_true c14) ?_
   refine aK rfl ?_
   refine aS ?_
   refine TL.op1 (OpR.loadPtr 1 rfl rfl rfl rfl) rfl ?_
   refine TL.op0 (OpR.store 0 rfl rfl rfl rfl rfl rfl rfl rfl) ?_
   refine aA rfl rfl ?_
   refine aN rfl ?_
   refine T.ret ?_
   obtain rfl := Option.some.inj h0
   exact rP [] [2, 3] [0] rfl rfl rfl undef (cV 0 rfl rfl rfl rfl (cT rfl ResL.nil)) rfl rfl rfl rfl
 refine T.region ?_
 refine TL.op1 (OpR.loadPtr 1 rfl rfl rfl rfl) rfl ?_
 obtain ⟨x11, hx11, ht10⟩ := bS ht10
 refine TL.op1 (OpR.call0 fn33 (filter_Right_c hx11) rfl) rfl ?_
 iterate 2 refine aA rfl rfl ?_
 rcases ite_some ht10 with ⟨c12, ht10⟩ | ⟨c12, ht10⟩
 rotate_left
 · refine TL.off rfl rfl rfl rfl (not_f (eq_false_of_ne_true c12)) rfl rfl ?_
   refine TL.off rfl rfl rfl rfl (not_f (eq_false_of_ne_true c12)) rfl rfl ?_
   refine TL.off rfl rfl rfl rfl (not_f (eq_false_of_ne_true c12)) rfl rfl ?_
   refine TL.off rfl rfl rfl rfl (not_f (eq_false_of_ne_true c12)) rfl rfl ?_
   refine TL.op1 (OpR.pickT rfl (not_f (eq_false_of_ne_true c12)) rfl) rfl ?_
   refine TL.nil ?_
   obtain rfl := Option.some.inj ht10
   exact ⟨_, Gst.only [2, 3, 4, 45] rfl, rfl⟩
 refine TL.on rfl rfl rfl rfl (not_t (c12)) ?_
 refine TL.op1 (OpR.loadPtr 1 rfl rfl rfl rfl) rfl ?_
 refine TL.on rfl rfl rfl rfl (not_t (c12)) ?_
 obtain ⟨x13, hx13, ht10⟩ := bS ht10
 refine TL.op1 (OpR.call0 fn36 (filter_Print_c hx13) rfl) rfl ?_
 refine TL.on rfl rfl rfl rfl (not_t (c12)) ?_
 refine aA rfl rfl ?_
 refine TL.on rfl rfl rfl rfl (not_t (c12)) ?_
 refine TL.op1 (OpR.cast (OpR.pure rfl) (boolE (strNe _ _))) rfl ?_
 refine TL.op1 (OpR.pickF rfl (not_t (c12)) rfl) rfl ?_
 refine TL.nil ?_
 obtain rfl := Option.some.inj ht10
 exact ⟨_, Gst.only [2, 3, 4, 45] rfl, rfl⟩
noncomputable def ref18_Right.l1 (a0 : ref18_Test) (s3 : Int) : Option (Lp Int (Ex Unit Bool)) :=
  if s3 < (a0.fArg.length : Int) then
    bnd (bnd (idx a0.fArg s3) fun x13 =>
    if (x13.toNat : Int) = 10 then
      some true
    else
      some ((x13.toNat : Int) == 13) : Option Bool) fun t12 =>
    if t12 = true then
      some (Lp.done (Ex.ret false))
    else
      some (Lp.next (w64 (s3 + 1)))
  else
    some (Lp.done (Ex.brk ()))
noncomputable def ref18_Right (a0 : ref18_Test) : Option Bool :=
  bnd (loop (ref18_Right.l1 a0) 0 : Option (Ex Unit Bool)) fun t1 => match t1 with
    | .brk u2 =>
      bnd (if a0.fCol ≥ 0 then
        if a0.fCol < 40 then
          if a0.fOp ≥ 0 then
            if a0.fOp < 7 then
              if (a0.fArg.length : Int) ≤ 100 then
                if a0.fOp = 6 then
                  some (a0.fArg == [])
                else
                  some true
              else
                some false
            else
              some false
          else
            some false
        else
          some false
      else
        some false : Option Bool) fun t16 =>
      some t16
    | .ret u2 => some u2
theorem ref18_Right_c {a0 : ref18_Test} {res : Bool} (h0 : ref18_Right a0 = some res) : CallF X 35 [.agg [dN a0.fCol, dN a0.fOp, .val (.string (bs a0.fArg)), dT a0.fNot]] [] (fun x => (dT res)) (fun x => []) := by
 unfold ref18_Right at h0
 refine CallF.mkG (X := X) rfl Tryz.func35 rfl rfl Tryz.ntmps35 rfl rfl ?_
 refine aS ?_
 refine TL.op1 (OpR.boxImm rfl rfl) rfl ?_
 refine aA rfl rfl ?_
 refine aN rfl ?_
 refine T.seq ?_
 refine aS ?_
 refine aA rfl rfl ?_
 refine aN rfl ?_
 obtain ⟨t1, ht1, h0⟩ := bS h0
 refine T.cutC (fun S' => ∃ u2, t1 = Ex.brk u2 ∧ S' = ⟨[(2, (dT false)), (1, .nod [dN a0.fCol, dN a0.fOp, .val (.string (bs a0.fArg)), dT a0.fNot])], [], 57⟩) (fun _ h => h) ?_ ?_
 · refine T.block ?_
   obtain ⟨n4, n9⟩ := loop_some ht1
   refine T.loop (fun n S' => ∃ S'', Gst S' S'' ∧ ∃ s3 : Int, S'' = ⟨[(3, (dN s3)), (2, (dT false)), (1, .nod [dN a0.fCol, dN a0.fOp, .val (.string (bs a0.fArg)), dT a0.fNot])], [], 57⟩ ∧ iter (ref18_Right.l1 a0) n s3 = some t1) n4 ?_ ?_
   · exact ⟨_, Gst.only [1, 2, 3] rfl, 0, rfl, n9⟩
   rintro n4 _ ⟨_, g, s3, rfl, i8⟩
   refine T.ghost g ?_
   obtain ⟨m5, q6, rfl, q7, i8⟩ := iter_succ i8
   unfold ref18_Right.l1 at q7
   refine T.seq ?_
   refine aS ?_
   iterate 3 refine aA rfl rfl ?_
   refine TL.op1 (OpR.cast (OpR.pure rfl) (intE (lenS _))) rfl ?_
   refine aA rfl rfl ?_
   refine aN rfl ?_
   rcases ite_some q7 with ⟨c11, q7⟩ | ⟨c11, q7⟩
   rotate_left
   · refine T.condF rfl (decide_eq_false c11) ?_
     refine T.exit ?_
     obtain rfl := Option.some.inj q7
     obtain rfl : _ = _ := i8
     exact ⟨_, Gst.only [1, 2] rfl, _, rfl, rfl⟩
   refine T.condT rfl (decide_eq_true c11) ?_
   refine aK rfl ?_
   refine T.seq ?_
   refine T.block ?_
   refine T.seq ?_
   obtain ⟨t12, ht12, q7⟩ := bS q7
   refine T.cutC (fun S' => S' = ⟨[(22, (dT t12)), (3, (dN s3)), (2, (dT false)), (1, .nod [dN a0.fCol, dN a0.fOp, .val (.string (bs a0.fArg)), dT a0.fNot])], [], 57⟩) (fun _ h => h) ?_ ?_
   rotate_left
   · rintro _ rfl
     show T X _ _ _
     rcases ite_some q7 with ⟨c15, q7⟩ | ⟨c15, q7⟩
     rotate_left
     · refine T.condF rfl (eq_false_of_ne_true c15) ?_
       refine aK rfl ?_
       refine T.region ?_
       iterate 3 refine aA rfl rfl ?_
       refine TL.nil ?_
       obtain rfl := Option.some.inj q7
       exact ⟨m5, Nat.lt_succ_self _, _, Gst.only [1, 2, 3] rfl, w64 (s3 + 1), rfl, i8⟩
     refine T.condT rfl (c15) ?_
     refine aS ?_
     refine aA rfl rfl ?_
     refine aN rfl ?_
     refine T.ret ?_
     obtain rfl := Option.some.inj q7
     obtain rfl : _ = _ := i8
     obtain rfl := Option.some.inj h0
     exact rO [] [2] rfl undef (cT rfl ResL.nil) rfl rfl rfl rfl
   refine T.region ?_
   iterate 3 refine aA rfl rfl ?_
   obtain ⟨x13, hx13, ht12⟩ := bS ht12
   refine TL.op1 (OpR.indexS hx13 rfl rfl rfl rfl) rfl ?_
   iterate 2 refine aA rfl rfl ?_
   rcases ite_some ht12 with ⟨c14, ht12⟩ | ⟨c14, ht12⟩
   · refine TL.off rfl rfl rfl rfl (beq_iff_eq.2 c14) rfl rfl ?_
     refine TL.off rfl rfl rfl rfl (beq_iff_eq.2 c14) rfl rfl ?_
     refine TL.off rfl rfl rfl rfl (beq_iff_eq.2 c14) rfl rfl ?_
     refine TL.off rfl rfl rfl rfl (beq_iff_eq.2 c14) rfl rfl ?_
     refine TL.off rfl rfl rfl rfl (beq_iff_eq.2 c14) rfl rfl ?_
     refine TL.op1 (OpR.pickT rfl (beq_iff_eq.2 c14) rfl) rfl ?_
     refine TL.nil ?_
     obtain rfl := Option.some.inj ht12
     exact ⟨_, Gst.only [1, 2, 3, 22] rfl, rfl⟩
   refine TL.on rfl rfl rfl rfl (beq_eq_false_iff_ne.2 c14) ?_
   refine aA rfl rfl ?_
   refine TL.on rfl rfl rfl rfl (beq_eq_false_iff_ne.2 c14) ?_
   refine aA rfl rfl ?_
   refine TL.on rfl rfl rfl rfl (beq_eq_false_iff_ne.2 c14) ?_
   refine aA rfl rfl ?_
   refine TL.on rfl rfl rfl rfl (beq_eq_false_iff_ne.2 c14) ?_
   refine TL.op1 (OpR.indexS hx13 rfl rfl rfl rfl) rfl ?_
   refine TL.on rfl rfl rfl rfl (beq_eq_false_iff_ne.2 c14) ?_
   refine aA rfl rfl ?_
   refine TL.op1 (OpR.pickF rfl (beq_eq_false_iff_ne.2 c14) rfl) rfl ?_
   refine TL.nil ?_
   obtain rfl := Option.some.inj ht12
   exact ⟨_, Gst.only [1, 2, 3, 22] rfl, rfl⟩
 rintro _ ⟨u2, rfl, rfl⟩
 show T X _ _ _
 refine T.seq ?_
 obtain ⟨t16, ht16, h0⟩ := bS h0
 refine T.cutC (fun S' => S' = ⟨[(2, (dT t16))], [], 57⟩) (fun _ h => h) ?_ ?_
 rotate_left
 · rintro _ rfl
   show T X _ _ _
   refine T.ret ?_
   obtain rfl := Option.some.inj h0
   exact rO [] [2] rfl undef (cT rfl ResL.nil) rfl rfl rfl rfl
 refine T.region ?_
 iterate 4 refine aA rfl rfl ?_
 rcases ite_some ht16 with ⟨c17, ht16⟩ | ⟨c17, ht16⟩
 rotate_left
 · refine TL.off rfl rfl rfl rfl (decide_eq_false c17) rfl rfl ?_
   refine TL.off rfl rfl rfl rfl (decide_eq_false c17) rfl rfl ?_
   refine TL.off rfl rfl rfl rfl (decide_eq_false c17) rfl rfl ?_
   refine TL.op1 (OpR.pickF rfl (decide_eq_false c17) rfl) rfl ?_
   refine aA rfl rfl ?_
   refine TL.off rfl rfl rfl rfl rfl rfl rfl ?_
   refine TL.off rfl rfl rfl rfl rfl rfl rfl ?_
   refine TL.off rfl rfl rfl rfl rfl rfl rfl ?_
   refine TL.op1 (OpR.pickF rfl rfl rfl) rfl ?_
   refine aA rfl rfl ?_
   refine TL.off rfl rfl rfl rfl rfl rfl rfl ?_
   refine TL.off rfl rfl rfl rfl rfl rfl rfl ?_
   refine TL.off rfl rfl rfl rfl rfl rfl rfl ?_
   refine TL.op1 (OpR.pickF rfl rfl rfl) rfl ?_
   refine aA rfl rfl ?_
   refine TL.off rfl rfl rfl rfl rfl rfl rfl ?_
   refine TL.off rfl rfl rfl rfl rfl rfl rfl ?_
   refine TL.off rfl rfl rfl rfl rfl rfl rfl ?_
   refine TL.off rfl rfl rfl rfl rfl rfl rfl ?_
   refine TL.op1 (OpR.pickF rfl rfl rfl) rfl ?_
   refine aA rfl rfl ?_
   refine TL.off rfl rfl rfl rfl rfl rfl rfl ?_
   refine TL.off rfl rfl rfl rfl rfl rfl rfl ?_
   refine TL.off rfl rfl rfl rfl rfl rfl rfl ?_
   refine TL.off rfl rfl rfl rfl rfl rfl rfl ?_
   refine TL.offU rfl rfl rfl rfl rfl rfl ?_
   refine TL.offU rfl rfl rfl rfl rfl rfl ?_
   refine TL.offU rfl rfl rfl rfl rfl rfl ?_
   refine TL.off rfl rfl rfl rfl rfl rfl rfl ?_
   refine TL.op1 (OpR.pickF rfl rfl rfl) rfl ?_
   refine aA rfl rfl ?_
   refine TL.nil ?_
   obtain rfl := Option.some.inj ht16
   exact ⟨_, Gst.only [2] rfl, rfl⟩
 refine TL.on rfl rfl rfl rfl (decide_eq_true c17) ?_
 refine aA rfl rfl ?_
 refine TL.on rfl rfl rfl rfl (decide_eq_true c17) ?_
 refine aA rfl rfl ?_
 refine TL.on rfl rfl rfl rfl (decide_eq_true c17) ?_
 refine aA rfl rfl ?_
 refine TL.op1 (OpR.pickT rfl (decide_eq_true c17) rfl) rfl ?_
 refine aA rfl rfl ?_
 rcases ite_some ht16 with ⟨c18, ht16⟩ | ⟨c18, ht16⟩
 rotate_left
 · refine TL.off rfl rfl rfl rfl (decide_eq_false c18) rfl rfl ?_
   refine TL.off rfl rfl rfl rfl (decide_eq_false c18) rfl rfl ?_
   refine TL.off rfl rfl rfl rfl (decide_eq_false c18) rfl rfl ?_
   refine TL.op1 (OpR.pickF rfl (decide_eq_false c18) rfl) rfl ?_
   refine aA rfl rfl ?_
   refine TL.off rfl rfl rfl rfl rfl rfl rfl ?_
   refine TL.off rfl rfl rfl rfl rfl rfl rfl ?_
   refine TL.off rfl rfl rfl rfl rfl rfl rfl ?_
   refine TL.op1 (OpR.pickF rfl rfl rfl) rfl ?_
   refine aA rfl rfl ?_
   refine TL.off rfl rfl rfl rfl rfl rfl rfl ?_
   refine TL.off rfl rfl rfl rfl rfl rfl rfl ?_
   refine TL.off rfl rfl rfl rfl rfl rfl rfl ?_
   refine TL.off rfl rfl rfl rfl rfl rfl rfl ?_
   refine TL.op1 (OpR.pickF rfl rfl rfl) rfl ?_
   refine aA rfl rfl ?_
   refine TL.off rfl rfl rfl rfl rfl rfl rfl ?_
   refine TL.off rfl rfl rfl rfl rfl rfl rfl ?_
   refine TL.off rfl rfl rfl rfl rfl rfl rfl ?_
   refine TL.off rfl rfl rfl rfl rfl rfl rfl ?_
   refine TL.offU rfl rfl rfl rfl rfl rfl ?_
   refine TL.offU rfl rfl rfl rfl rfl rfl ?_
   refine TL.offU rfl rfl rfl rfl rfl rfl ?_
   refine TL.off rfl rfl rfl rfl rfl rfl rfl ?_
   refine TL.op1 (OpR.pickF rfl rfl rfl) rfl ?_
   refine aA rfl rfl ?_
   refine TL.nil ?_
   obtain rfl := Option.some.inj ht16
   exact ⟨_, Gst.only [2] rfl, rfl⟩
 refine TL.on rfl rfl rfl rfl (decide_eq_true c18) ?_
 refine aA rfl rfl ?_
 refine TL.on rfl rfl rfl rfl (decide_eq_true c18) ?_
 refine aA rfl rfl ?_
 refine TL.on rfl rfl rfl rfl (decide_eq_true c18) ?_
 refine aA rfl rfl ?_
 refine TL.op1 (OpR.pickT rfl (decide_eq_true c18) rfl) rfl ?_
 refine aA rfl rfl ?_
 rcases ite_some ht16 with ⟨c19, ht16⟩ | ⟨c19, ht16⟩
 rotate_left
 · refine TL.off rfl rfl rfl rfl (decide_eq_false c19) rfl rfl ?_
   refine TL.off rfl rfl rfl rfl (decide_eq_false c19) rfl rfl ?_
   refine TL.off rfl rfl rfl rfl (decide_eq_false c19) rfl rfl ?_
   refine TL.op1 (OpR.pickF rfl (decide_eq_false c19) rfl) rfl ?_
   refine aA rfl rfl ?_
   refine TL.off rfl rfl rfl rfl rfl rfl rfl ?_
   refine TL.off rfl rfl rfl rfl rfl rfl rfl ?_
   refine TL.off rfl rfl rfl rfl rfl rfl rfl ?_
   refine TL.off rfl rfl rfl rfl rfl rfl rfl ?_
   refine TL.op1 (OpR.pickF rfl rfl rfl) rfl ?_
   refine aA rfl rfl ?_
   refine TL.off rfl rfl rfl rfl rfl rfl rfl ?_
   refine TL.off rfl rfl rfl rfl rfl rfl rfl ?_
   refine TL.off rfl rfl rfl rfl rfl rfl rfl ?_
   refine TL.off rfl rfl rfl rfl rfl rfl rfl ?_
   refine TL.offU rfl rfl rfl rfl rfl rfl ?_
   refine TL.offU rfl rfl rfl rfl rfl rfl ?_
   refine TL.offU rfl rfl rfl rfl rfl rfl ?_
   refine TL.off rfl rfl rfl rfl rfl rfl rfl ?_
   refine TL.op1 (OpR.pickF rfl rfl rfl) rfl ?_
   refine aA rfl rfl ?_
   refine TL.nil ?_
   obtain rfl := Option.some.inj ht16
   exact ⟨_, Gst.only [2] rfl, rfl⟩
 refine TL.on rfl rfl rfl rfl (decide_eq_true c19) ?_
 refine aA rfl rfl ?_
 refine TL.on rfl rfl rfl rfl (decide_eq_true c19) ?_
 refine aA rfl rfl ?_
 refine TL.on rfl rfl rfl rfl (decide_eq_true c19) ?_
 refine aA rfl rfl ?_
 refine TL.op1 (OpR.pickT rfl (decide_eq_true c19) rfl) rfl ?_
 refine aA rfl rfl ?_
 rcases ite_some ht16 with ⟨c20, ht16⟩ | ⟨c20, ht16⟩
 rotate_left
 · refine TL.off rfl rfl rfl rfl (decide_eq_false c20) rfl rfl ?_
   refine TL.off rfl rfl rfl rfl (decide_eq_false c20) rfl rfl ?_
   refine TL.off rfl rfl rfl rfl (decide_eq_false c20) rfl rfl ?_
   refine TL.off rfl rfl rfl rfl (decide_eq_false c20) rfl rfl ?_
   refine TL.op1 (OpR.pickF rfl (decide_eq_false c20) rfl) rfl ?_
   refine aA rfl rfl ?_
   refine TL.off rfl rfl rfl rfl rfl rfl rfl ?_
   refine TL.off rfl rfl rfl rfl rfl rfl rfl ?_
   refine TL.off rfl rfl rfl rfl rfl rfl rfl ?_
   refine TL.off rfl rfl rfl rfl rfl rfl rfl ?_
   refine TL.offU rfl rfl rfl rfl rfl rfl ?_
   refine TL.offU rfl rfl rfl rfl rfl rfl ?_
   refine TL.offU rfl rfl rfl rfl rfl rfl ?_
   refine TL.off rfl rfl rfl rfl rfl rfl rfl ?_
   refine TL.op1 (OpR.pickF rfl rfl rfl) rfl ?_
   refine aA rfl rfl ?_
   refine TL.nil ?_
   obtain rfl := Option.some.inj ht16
   exact ⟨_, Gst.only [2] rfl, rfl⟩
 refine TL.on rfl rfl rfl rfl (decide_eq_true c20) ?_
 refine aA rfl rfl ?_
 refine TL.on rfl rfl rfl rfl (decide_eq_true c20) ?_
 refine aA rfl rfl ?_
 refine TL.on rfl rfl rfl rfl (decide_eq_true c20) ?_
 refine TL.op1 (OpR.cast (OpR.pure rfl) (intE (lenS _))) rfl ?_
 refine TL.on rfl rfl rfl rfl (decide_eq_true c20) ?_
 refine aA rfl rfl ?_
 refine TL.op1 (OpR.pickT rfl (decide_eq_true c20) rfl) rfl ?_
 refine aA rfl rfl ?_
 rcases ite_some ht16 with ⟨c21, ht16⟩ | ⟨c21, ht16⟩
 rotate_left
 · refine TL.off rfl rfl rfl rfl (decide_eq_false c21) rfl rfl ?_
   refine TL.off rfl rfl rfl rfl (decide_eq_false c21) rfl rfl ?_
   refine TL.off rfl rfl rfl rfl (decide_eq_false c21) rfl rfl ?_
   refine TL.off rfl rfl rfl rfl (decide_eq_false c21) rfl rfl ?_
   refine TL.offU rfl rfl rfl rfl rfl rfl ?_
   refine TL.offU rfl rfl rfl rfl rfl rfl ?_
   refine TL.offU rfl rfl rfl rfl rfl rfl ?_
   refine TL.off rfl rfl rfl rfl (decide_eq_false c21) rfl rfl ?_
   refine TL.op1 (OpR.pickF rfl (decide_eq_false c21) rfl) rfl ?_
   refine aA rfl rfl ?_
   refine TL.nil ?_
   obtain rfl := Option.some.inj ht16
   exact ⟨_, Gst.only [2] rfl, rfl⟩
 refine TL.on rfl rfl rfl rfl (decide_eq_true c21) ?_
 refine aA rfl rfl ?_
 refine TL.on rfl rfl rfl rfl (decide_eq_true c21) ?_
 refine aA rfl rfl ?_
 refine TL.on rfl rfl rfl rfl (decide_eq_true c21) ?_
 refine aA rfl rfl ?_
 refine TL.on rfl rfl rfl rfl (decide_eq_true c21) ?_
 refine aA rfl rfl ?_
 rcases ite_some ht16 with ⟨c22, ht16⟩ | ⟨c22, ht16⟩
 rotate_left
 · refine TL.off rfl rfl rfl rfl (not_f (beq_eq_false_iff_ne.2 c22)) rfl rfl ?_
   refine TL.off rfl rfl rfl rfl (not_f (beq_eq_false_iff_ne.2 c22)) rfl rfl ?_
   refine TL.off rfl rfl rfl rfl (not_f (beq_eq_false_iff_ne.2 c22)) rfl rfl ?_
   refine TL.on rfl rfl rfl rfl (decide_eq_true c21) ?_
   refine TL.op1 (OpR.pickT rfl (not_f (beq_eq_false_iff_ne.2 c22)) rfl) rfl ?_
   refine TL.op1 (OpR.pickT rfl (decide_eq_true c21) rfl) rfl ?_
   refine aA rfl rfl ?_
   refine TL.nil ?_
   obtain rfl := Option.some.inj ht16
   exact ⟨_, Gst.only [2] rfl, rfl⟩
 refine TL.on rfl rfl rfl rfl (not_t (beq_iff_eq.2 c22)) ?_
 refine aA rfl rfl ?_
 refine TL.on rfl rfl rfl rfl (not_t (beq_iff_eq.2 c22)) ?_
 refine aA rfl rfl ?_
 refine TL.on rfl rfl rfl rfl (not_t (beq_iff_eq.2 c22)) ?_
 refine TL.op1 (OpR.cast (OpR.pure rfl) (boolE (strEq _ _))) rfl ?_
 refine TL.on rfl rfl rfl rfl (decide_eq_true c21) ?_
 refine TL.op1 (OpR.pickF rfl (not_t (beq_iff_eq.2 c22)) rfl) rfl ?_
 refine TL.op1 (OpR.pickT rfl (decide_eq_true c21) rfl) rfl ?_
 refine aA rfl rfl ?_
 refine TL.nil ?_
 obtain rfl := Option.some.inj ht16
 exact ⟨_, Gst.only [2] rfl, rfl⟩
noncomputable def ref02_Text.l1 (s2 : (List UInt8) × Int) : Option (Lp ((List UInt8) × Int) (List UInt8)) :=
  if s2.2 = 0 then
    some (Lp.done s2.1)
  else
    bnd (if (rem s2.2 9) < 0 then
      some (w64 (0 - (rem s2.2 9)))
    else
      some (rem s2.2 9) : Option Int) fun t11 =>
    bnd (catS [ub (w64 (48 + t11))] s2.1) fun x13 =>
    some (Lp.next (x13, w64 (quo s2.2 9)))
noncomputable def ref02_Text (a0 : Int) : Option (List UInt8) :=
  bnd (loop ref02_Text.l1 ([], a0) : Option (List UInt8)) fun t1 =>
  if a0 = 0 then
    some [48]
  else
    if a0 < 0 then
      bnd (catS [45] t1) fun x16 =>
      some x16
    else
      some t1
theorem ref02_Text_c {a0 : Int} {res : (List UInt8)} (h0 : ref02_Text a0 = some res) : CallF X 97 [dN a0] [] (fun x => .val (.string (bs res))) (fun x => []) := by
 unfold ref02_Text at h0
 refine CallF.mkG (X := X) rfl Tryz.func97 rfl rfl Tryz.ntmps97 rfl rfl ?_
 refine aS ?_
 refine aA rfl rfl ?_
 refine aN rfl ?_
 refine aS ?_
 refine aA rfl rfl ?_
 refine aN rfl ?_
 refine T.seq ?_
 refine aS ?_
 iterate 2 refine aA rfl rfl ?_
 refine aN rfl ?_
 obtain ⟨t1, ht1, h0⟩ := bS h0
 refine T.cutC (fun S' => S' = ⟨[(3, .val (.string (bs t1))), (2, .val (.string (bs []))), (0, (dN a0))], [], 31⟩) (fun _ h => h) ?_ ?_
 rotate_left
 · rintro _ rfl
   show T X _ _ _
   refine T.seq ?_
   refine aS ?_
   iterate 2 refine aA rfl rfl ?_
   refine aN rfl ?_
   rcases ite_some h0 with ⟨c14, h0⟩ | ⟨c14, h0⟩
   · refine T.condT rfl (beq_iff_eq.2 c14) ?_
     refine aS ?_
     refine aA rfl rfl ?_
     refine aN rfl ?_
     refine T.ret ?_
     obtain rfl := Option.some.inj h0
     exact rO [] [2] rfl undef (cT rfl ResL.nil) rfl rfl rfl rfl
   refine T.condF rfl (beq_eq_false_iff_ne.2 c14) ?_
   refine aK rfl ?_
   refine T.seq ?_
   refine aS ?_
   iterate 2 refine aA rfl rfl ?_
   refine aN rfl ?_
   rcases ite_some h0 with ⟨c15, h0⟩ | ⟨c15, h0⟩
   rotate_left
   · refine T.condF rfl (decide_eq_false c15) ?_
     refine aK rfl ?_
     refine aS ?_
     iterate 2 refine aA rfl rfl ?_
     refine aN rfl ?_
     refine T.ret ?_
     obtain rfl := Option.some.inj h0
     exact rO [] [2] rfl undef (cT rfl ResL.nil) rfl rfl rfl rfl
   refine T.condT rfl (decide_eq_true c15) ?_
   refine aS ?_
   refine aA rfl rfl ?_
   obtain ⟨x16, hx16, h0⟩ := bS h0
   refine TL.op1 (OpR.concatM hx16 rfl rfl) rfl ?_
   refine aA rfl rfl ?_
   refine aN rfl ?_
   refine T.ret ?_
   obtain rfl := Option.some.inj h0
   exact rO [] [2] rfl undef (cT rfl ResL.nil) rfl rfl rfl rfl
 refine T.block ?_
 obtain ⟨n3, n8⟩ := loop_some ht1
 refine T.loop (fun n S' => ∃ S'', Gst S' S'' ∧ ∃ s2 : (List UInt8) × Int, S'' = ⟨[(4, (dN s2.2)), (3, .val (.string (bs s2.1))), (2, .val (.string (bs []))), (0, (dN a0))], [], 31⟩ ∧ iter ref02_Text.l1 n s2 = some t1) n3 ?_ ?_
 · exact ⟨_, Gst.only [0, 2, 3, 4] rfl, ([], a0), rfl, n8⟩
 rintro n3 _ ⟨_, g, s2, rfl, i7⟩
 refine T.ghost g ?_
 obtain ⟨m4, q5, rfl, q6, i7⟩ := iter_succ i7
 unfold ref02_Text.l1 at q6
 refine T.seq ?_
 refine aS ?_
 iterate 2 refine aA rfl rfl ?_
 refine aN rfl ?_
 rcases ite_some q6 with ⟨c10, q6⟩ | ⟨c10, q6⟩
 · refine T.condF rfl (not_t (beq_iff_eq.2 c10)) ?_
   refine T.exit ?_
   obtain rfl := Option.some.inj q6
   obtain rfl : _ = _ := i7
   exact ⟨_, Gst.only [0, 2, 3] rfl, rfl⟩
 refine T.condT rfl (not_f (beq_eq_false_iff_ne.2 c10)) ?_
 refine aK rfl ?_
 refine T.seq ?_
 refine T.block ?_
 refine aS ?_
 iterate 3 refine aA rfl rfl ?_
 refine aN rfl ?_
 refine T.seq ?_
 refine aS ?_
 iterate 2 refine aA rfl rfl ?_
 refine aN rfl ?_
 obtain ⟨t11, ht11, q6⟩ := bS q6
 refine T.cutC (fun S' => S' = ⟨[(5, (dN t11)), (4, (dN s2.2)), (3, .val (.string (bs s2.1))), (2, .val (.string (bs []))), (0, (dN a0))], [], 31⟩) (fun _ h => h) ?_ ?_
 · rcases ite_some ht11 with ⟨c12, ht11⟩ | ⟨c12, ht11⟩
   rotate_left
   · refine T.condF rfl (decide_eq_false c12) ?_
     refine T.skip ?_
     obtain rfl := Option.some.inj ht11
     exact ⟨_, Gst.only [0, 2, 3, 4, 5] rfl, rfl⟩
   refine T.condT rfl (decide_eq_true c12) ?_
   refine T.region ?_
   iterate 3 refine aA rfl rfl ?_
   refine TL.nil ?_
   obtain rfl := Option.some.inj ht11
   exact ⟨_, Gst.only [0, 2, 3, 4, 5] rfl, rfl⟩
 rintro _ rfl
 show T X _ _ _
 refine T.region ?_
 iterate 2 refine aA rfl rfl ?_
 refine TL.op1 (OpR.cast (OpR.pure rfl) (intE (ub_wrap _))) rfl ?_
 refine TL.op1 (OpR.lit rfl rfl rfl rfl rfl rfl rfl) rfl ?_
 refine TL.op1 (OpR.toStr (bs := [ub (w64 (48 + t11))]) rfl rfl rfl rfl rfl rfl rfl) rfl ?_
 refine aA rfl rfl ?_
 obtain ⟨x13, hx13, q6⟩ := bS q6
 refine TL.op1 (OpR.concatM hx13 rfl rfl) rfl ?_
 refine aA rfl rfl ?_
 refine aN rfl ?_
 refine T.region ?_
 iterate 3 refine aA rfl rfl ?_
 refine TL.nil ?_
 obtain rfl := Option.some.inj q6
 exact ⟨m4, Nat.lt_succ_self _, _, Gst.only [0, 2, 3, 4] rfl, (x13, w64 (quo s2.2 9)), rfl, i7⟩
noncomputable def ref18_Print (a0 : ref18_Test) : Option (List UInt8) :=
  bnd (ref18_Right a0) fun x1 =>
  if x1 = true then
    bnd (ref02_Text (w64 (a0.fCol + 1))) fun x4 =>
    bnd (cut [126, 61, 60, 62, 94, 36, 63] a0.fOp (w64 (a0.fOp + 1))) fun x5 =>
    bnd (catS x4 x5) fun x6 =>
    bnd (catS x6 a0.fArg) fun x7 =>
    if a0.fNot = true then
      bnd (catS [33] x7) fun x9 =>
      some x9
    else
      some x7
  else
    some []
theorem ref18_Print_c {a0 : ref18_Test} {res : (List UInt8)} (h0 : ref18_Print a0 = some res) : CallF X 37 [.agg [dN a0.fCol, dN a0.fOp, .val (.string (bs a0.fArg)), dT a0.fNot]] [] (fun x => .val (.string (bs res))) (fun x => []) := by
 unfold ref18_Print at h0
 refine CallF.mkG (X := X) rfl Tryz.func37 rfl rfl Tryz.ntmps37 rfl rfl ?_
 refine aS ?_
 refine TL.op1 (OpR.boxImm rfl rfl) rfl ?_
 refine aA rfl rfl ?_
 refine aN rfl ?_
 refine T.seq ?_
 refine aS ?_
 refine aA rfl rfl ?_
 obtain ⟨x1, hx1, h0⟩ := bS h0
 refine TL.op1 (OpR.call0 fn35 (ref18_Right_c hx1) rfl) rfl ?_
 refine aA rfl rfl ?_
 refine aN rfl ?_
 rcases ite_some h0 with ⟨c2, h0⟩ | ⟨c2, h0⟩
 rotate_left
 · refine T.condT rfl (not_f (eq_false_of_ne_true c2)) ?_
   refine aS ?_
   refine aA rfl rfl ?_
   refine aN rfl ?_
   refine T.ret ?_
   obtain rfl := Option.some.inj h0
   exact rO [] [2] rfl undef (cT rfl ResL.nil) rfl rfl rfl rfl
 refine T.condF rfl (not_t (c2)) ?_
 refine aK rfl ?_
 refine T.seq ?_
 obtain ⟨x4, hx4, h0⟩ := bS h0
 obtain ⟨x5, hx5, h0⟩ := bS h0
 obtain ⟨x6, hx6, h0⟩ := bS h0
 obtain ⟨x7, hx7, h0⟩ := bS h0
 refine T.drawQ drawsX [.nod [dN a0.fCol, dN a0.fOp, .val (.string (bs a0.fArg)), dT a0.fNot], dN a0.fCol, dN (w64 (a0.fCol + 1)), .val (.string (bs x4)), .nod [dN a0.fOp, .val (.string (bs a0.fArg)), dT a0.fNot], dN a0.fOp, .nod [dN a0.fOp, .val (.string (bs a0.fArg)), dT a0.fNot], dN a0.fOp, dN (w64 (a0.fOp + 1)), .val (.string (bs x5)), .val (.string (bs x6)), .nod [.val (.string (bs a0.fArg)), dT a0.fNot], .val (.string (bs a0.fArg)), .val (.string (bs x7)), .val (.string (bs x7))] [1, 2, 3] (by decide +kernel) rfl ?_ rfl ?_
 · iterate 3 refine aB rfl rfl rfl ?_
   refine OpsQ.yes (Want.plain rfl) rfl (OpR.call0 fn97 (ref02_Text_c hx4) rfl) ?_
   iterate 5 refine aB rfl rfl rfl ?_
   refine OpsQ.yes (Want.plain rfl) rfl (OpR.sliceS hx5 rfl rfl rfl (BdM.some rfl) (BdM.some rfl)) ?_
   refine OpsQ.yes (Want.plain rfl) rfl (OpR.concatM hx6 rfl rfl) ?_
   iterate 2 refine aB rfl rfl rfl ?_
   refine OpsQ.yes (Want.plain rfl) rfl (OpR.concatM hx7 rfl rfl) ?_
   refine aB rfl rfl rfl ?_
   exact OpsQ.nil
 show T X _ _ _
 refine T.seq ?_
 refine aS ?_
 iterate 2 refine aA rfl rfl ?_
 refine aN rfl ?_
 rcases ite_some h0 with ⟨c8, h0⟩ | ⟨c8, h0⟩
 rotate_left
 · refine T.condF rfl (eq_false_of_ne_true c8) ?_
   refine aK rfl ?_
   refine aS ?_
   iterate 2 refine aA rfl rfl ?_
   refine aN rfl ?_
   refine T.ret ?_
   obtain rfl := Option.some.inj h0
   exact rO [] [2] rfl undef (cT rfl ResL.nil) rfl rfl rfl rfl
 refine T.condT rfl (c8) ?_
 refine aS ?_
 refine aA rfl rfl ?_
 obtain ⟨x9, hx9, h0⟩ := bS h0
 refine TL.op1 (OpR.concatM hx9 rfl rfl) rfl ?_
 refine aA rfl rfl ?_
 refine aN rfl ?_
 refine T.ret ?_
 obtain rfl := Option.some.inj h0
 exact rO [] [2] rfl undef (cT rfl ResL.nil) rfl rfl rfl rfl
noncomputable def ref18_Parse.l1 (a0 : List UInt8) (s4 : Int) (s15 : Int) (s26 : Int) : Option (Lp Int (Ex Unit (ref18_Test × Int))) :=
  if s26 < 2 then
    bnd (ref18_Print (⟨s4, s15, [], (s26 == 1)⟩ : ref18_Test)) fun x36 =>
    bnd (if (a0.length : Int) ≥ (x36.length : Int) then
      bnd (cut a0 0 (x36.length : Int)) fun x39 =>
      some (x39 == x36)
    else
      some false : Option Bool) fun t37 =>
    bnd (if t37 = true then
      bnd (cut a0 (x36.length : Int) (a0.length : Int)) fun x43 =>
      bnd (ref18_Right (⟨s4, s15, x43, (s26 == 1)⟩ : ref18_Test)) fun x44 =>
      if x44 = true then
        some (Ex.ret ((⟨s4, s15, x43, (s26 == 1)⟩ : ref18_Test), 0))
      else
        some (Ex.brk ())
    else
      some (Ex.brk ()) : Option (Ex Unit (ref18_Test × Int))) fun t40 => match t40 with
      | .brk u41 =>
        some (Lp.next (w64 (s26 + 1)))
      | .ret u41 => some (Lp.done (Ex.ret u41))
  else
    some (Lp.done (Ex.brk ()))
noncomputable def ref18_Parse.l2 (a0 : List UInt8) (s4 : Int) (s15 : Int) : Option (Lp Int (Ex Unit (ref18_Test × Int))) :=
  if s15 < 7 then
    bnd (loop (ref18_Parse.l1 a0 s4 s15) 0 : Option (Ex Unit (ref18_Test × Int))) fun t24 => match t24 with
      | .brk u25 =>
        some (Lp.next (w64 (s15 + 1)))
      | .ret u25 => some (Lp.done (Ex.ret u25))
  else
    some (Lp.done (Ex.brk ()))
noncomputable def ref18_Parse.l3 (a0 : List UInt8) (s4 : Int) : Option (Lp Int (Ex Unit (ref18_Test × Int))) :=
  if s4 < 40 then
    bnd (loop (ref18_Parse.l2 a0 s4) 0 : Option (Ex Unit (ref18_Test × Int))) fun t13 => match t13 with
      | .brk u14 =>
        some (Lp.next (w64 (s4 + 1)))
      | .ret u14 => some (Lp.done (Ex.ret u14))
  else
    some (Lp.done (Ex.brk ()))
noncomputable def ref18_Parse (a0 : List UInt8) : Option (ref18_Test × Int) :=
  bnd (loop (ref18_Parse.l3 a0) 0 : Option (Ex Unit (ref18_Test × Int))) fun t2 => match t2 with
    | .brk u3 =>
      some ((⟨0, 0, [], false⟩ : ref18_Test), 3)
    | .ret u3 => some u3
theorem ref18_Parse_c {a0 : List UInt8} {res : ref18_Test × Int} (h0 : ref18_Parse a0 = some res) : CallF X 32 [.val (.string (bs a0))] [] (fun x => .tup [.agg [dN res.1.fCol, dN res.1.fOp, .val (.string (bs res.1.fArg)), dT res.1.fNot], dN res.2]) (fun x => []) := by
 unfold ref18_Parse at h0
 refine CallF.mkG (X := X) rfl Tryz.func32 rfl rfl Tryz.ntmps32 rfl rfl ?_
 refine aS ?_
 refine TL.op (OpR.alloc rfl rfl (fun _ => rfl)) rfl (fun p1 => ?_)
 refine aA rfl rfl ?_
 refine aN rfl ?_
 refine T.seq ?_
 refine aS ?_
 refine aA rfl rfl ?_
 refine aN rfl ?_
 obtain ⟨t2, ht2, h0⟩ := bS h0
 refine T.cutC (fun S' => ∃ u3, t2 = Ex.brk u3 ∧ S' = ⟨[(3, (dN 0)), (2, (dP (blk p1)))], [.var (blk p1) [dN 0, dN 0, .val (.string (bs [])), dT false] 64], 50⟩) (fun _ h => h) ?_ ?_
 rotate_left
 · rintro _ ⟨u3, rfl, rfl⟩
   show T X _ _ _
   refine aS ?_
   refine TL.op1 (OpR.build rfl rfl rfl rfl rfl) rfl ?_
   refine TL.op0 (OpR.store 0 rfl rfl rfl rfl rfl rfl rfl rfl) ?_
   refine aA rfl rfl ?_
   refine aN rfl ?_
   refine T.ret ?_
   obtain rfl := Option.some.inj h0
   exact rO [] [2, 3] rfl undef (cV 0 rfl rfl rfl rfl (cT rfl ResL.nil)) rfl rfl rfl rfl
 refine T.block ?_
 obtain ⟨n5, n10⟩ := loop_some ht2
 refine T.loop (fun n S' => ∃ S'', Gst S' S'' ∧ ∃ s4 : Int, S'' = ⟨[(4, (dN s4)), (3, (dN 0)), (2, (dP (blk p1))), (0, .val (.string (bs a0)))], [.var (blk p1) [dN 0, dN 0, .val (.string (bs [])), dT false] 64], 50⟩ ∧ iter (ref18_Parse.l3 a0) n s4 = some t2) n5 ?_ ?_
 · exact ⟨_, Gst.only [0, 2, 3, 4] rfl, 0, rfl, n10⟩
 rintro n5 _ ⟨_, g, s4, rfl, i9⟩
 refine T.ghost g ?_
 obtain ⟨m6, q7, rfl, q8, i9⟩ := iter_succ i9
 unfold ref18_Parse.l3 at q8
 refine T.seq ?_
 refine aS ?_
 iterate 2 refine aA rfl rfl ?_
 refine aN rfl ?_
 rcases ite_some q8 with ⟨c12, q8⟩ | ⟨c12, q8⟩
 rotate_left
 · refine T.condF rfl (decide_eq_false c12) ?_
   refine T.exit ?_
   obtain rfl := Option.some.inj q8
   obtain rfl : _ = _ := i9
   exact ⟨_, Gst.only [2, 3] rfl, _, rfl, rfl⟩
 refine T.condT rfl (decide_eq_true c12) ?_
 refine aK rfl ?_
 refine T.seq ?_
 refine T.block ?_
 refine aS ?_
 refine aA rfl rfl ?_
 refine aN rfl ?_
 obtain ⟨t13, ht13, q8⟩ := bS q8
 refine T.cutC (fun S' => ∃ u14, t13 = Ex.brk u14 ∧ S' = ⟨[(4, (dN s4)), (3, (dN 0)), (2, (dP (blk p1))), (0, .val (.string (bs a0)))], [.var (blk p1) [dN 0, dN 0, .val (.string (bs [])), dT false] 64], 50⟩) (fun _ h => h) ?_ ?_
 rotate_left
 · rintro _ ⟨u14, rfl, rfl⟩
   show T X _ _ _
   refine T.region ?_
   iterate 3 refine aA rfl rfl ?_
   refine TL.nil ?_
   obtain rfl := Option.some.inj q8
   exact ⟨m6, Nat.lt_succ_self _, _, Gst.only [0, 2, 3, 4] rfl, w64 (s4 + 1), rfl, i9⟩
 refine T.block ?_
 obtain ⟨n16, n21⟩ := loop_some ht13
 refine T.loop (fun n S' => ∃ S'', Gst S' S'' ∧ ∃ s15 : Int, S'' = ⟨[(5, (dN s15)), (4, (dN s4)), (3, (dN 0)), (2, (dP (blk p1))), (0, .val (.string (bs a0)))], [.var (blk p1) [dN 0, dN 0, .val (.string (bs [])), dT false] 64], 50⟩ ∧ iter (ref18_Parse.l2 a0 s4) n s15 = some t13) n16 ?_ ?_
 · exact ⟨_, Gst.only [0, 2, 3, 4, 5] rfl, 0, rfl, n21⟩
 rintro n16 _ ⟨_, g, s15, rfl, i20⟩
 refine T.ghost g ?_
 obtain ⟨m17, q18, rfl, q19, i20⟩ := iter_succ i20
 unfold ref18_Parse.l2 at q19
 refine T.seq ?_
 refine aS ?_
 iterate 2 refine aA rfl rfl ?_
 refine aN rfl ?_
 rcases ite_some q19 with ⟨c23, q19⟩ | ⟨c23, q19⟩
 rotate_left
 · refine T.condF rfl (decide_eq_false c23) ?_
   refine T.exit ?_
   obtain rfl := Option.some.inj q19
   obtain rfl : _ = _ := i20
   exact ⟨_, Gst.only [0, 2, 3, 4] rfl, _, rfl, rfl⟩
 refine T.condT rfl (decide_eq_true c23) ?_
 refine aK rfl ?_
 refine T.seq ?_
 refine T.block ?_
 refine aS ?_
 refine aA rfl rfl ?_
 refine aN rfl ?_
 obtain ⟨t24, ht24, q19⟩ := bS q19
 refine T.cutC (fun S' => ∃ u25, t24 = Ex.brk u25 ∧ S' = ⟨[(5, (dN s15)), (4, (dN s4)), (3, (dN 0)), (2, (dP (blk p1))), (0, .val (.string (bs a0)))], [.var (blk p1) [dN 0, dN 0, .val (.string (bs [])), dT false] 64], 50⟩) (fun _ h => h) ?_ ?_
 rotate_left
 · rintro _ ⟨u25, rfl, rfl⟩
   show T X _ _ _
   refine T.region ?_
   iterate 3 refine aA rfl rfl ?_
   refine TL.nil ?_
   obtain rfl := Option.some.inj q19
   exact ⟨m17, Nat.lt_succ_self _, _, Gst.only [0, 2, 3, 4, 5] rfl, w64 (s15 + 1), rfl, i20⟩
 refine T.block ?_
 obtain ⟨n27, n32⟩ := loop_some ht24
 refine T.loop (fun n S' => ∃ S'', Gst S' S'' ∧ ∃ s26 : Int, S'' = ⟨[(6, (dN s26)), (5, (dN s15)), (4, (dN s4)), (3, (dN 0)), (2, (dP (blk p1))), (0, .val (.string (bs a0)))], [.var (blk p1) [dN 0, dN 0, .val (.string (bs [])), dT false] 64], 50⟩ ∧ iter (ref18_Parse.l1 a0 s4 s15) n s26 = some t24) n27 ?_ ?_
 · exact ⟨_, Gst.only [0, 2, 3, 4, 5, 6] rfl, 0, rfl, n32⟩
 rintro n27 _ ⟨_, g, s26, rfl, i31⟩
 refine T.ghost g ?_
 obtain ⟨m28, q29, rfl, q30, i31⟩ := iter_succ i31
 unfold ref18_Parse.l1 at q30
 refine T.seq ?_
 refine aS ?_
 iterate 2 refine aA rfl rfl ?_
 refine aN rfl ?_
 rcases ite_some q30 with ⟨c34, q30⟩ | ⟨c34, q30⟩
 rotate_left
 · refine T.condF rfl (decide_eq_false c34) ?_
   refine T.exit ?_
   obtain rfl := Option.some.inj q30
   obtain rfl : _ = _ := i31
   exact ⟨_, Gst.only [0, 2, 3, 4, 5] rfl, _, rfl, rfl⟩
 refine T.condT rfl (decide_eq_true c34) ?_
 refine aK rfl ?_
 refine T.seq ?_
 refine T.block ?_
 refine aS ?_
 iterate 4 refine aA rfl rfl ?_
 refine TL.op1 (OpR.build rfl rfl rfl rfl rfl) rfl ?_
 refine TL.op (OpR.alloc rfl rfl (fun _ => rfl)) rfl (fun p35 => ?_)
 refine TL.op0 (OpR.store 1 rfl rfl rfl rfl rfl rfl rfl rfl) ?_
 refine aN rfl ?_
 refine aS ?_
 refine TL.op1 (OpR.loadPtr 1 rfl rfl rfl rfl) rfl ?_
 obtain ⟨x36, hx36, q30⟩ := bS q30
 refine TL.op1 (OpR.call0 fn37 (ref18_Print_c hx36) rfl) rfl ?_
 refine aA rfl rfl ?_
 refine aN rfl ?_
 refine T.seq ?_
 obtain ⟨t37, ht37, q30⟩ := bS q30
 refine T.cutC (fun S' => S' = ⟨[(40, (dT t37)), (8, .val (.string (bs x36))), (7, (dP (blk p35))), (6, (dN s26)), (5, (dN s15)), (4, (dN s4)), (3, (dN 0)), (2, (dP (blk p1))), (0, .val (.string (bs a0)))], [.var (blk p1) [dN 0, dN 0, .val (.string (bs [])), dT false] 64, .var (blk p35) [dN s4, dN s15, .val (.string (bs [])), dT (s26 == 1)] 64], 50⟩) (fun _ h => h) ?_ ?_
 · refine T.region ?_
   refine aA rfl rfl ?_
   refine TL.op1 (OpR.cast (OpR.pure rfl) (intE (lenS _))) rfl ?_
   refine aA rfl rfl ?_
   refine TL.op1 (OpR.cast (OpR.pure rfl) (intE (lenS _))) rfl ?_
   iterate 2 refine aA rfl rfl ?_
   rcases ite_some ht37 with ⟨c38, ht37⟩ | ⟨c38, ht37⟩
   rotate_left
   · refine TL.off rfl rfl rfl rfl (decide_eq_false c38) rfl rfl ?_
     refine TL.off rfl rfl rfl rfl (decide_eq_false c38) rfl rfl ?_
     refine TL.off rfl rfl rfl rfl (decide_eq_false c38) rfl rfl ?_
     refine TL.off rfl rfl rfl rfl (decide_eq_false c38) rfl rfl ?_
     refine TL.off rfl rfl rfl rfl (decide_eq_false c38) rfl rfl ?_
     refine TL.off rfl rfl rfl rfl (decide_eq_false c38) rfl rfl ?_
     refine TL.op1 (OpR.pickF rfl (decide_eq_false c38) rfl) rfl ?_
     refine TL.nil ?_
     obtain rfl := Option.some.inj ht37
     exact ⟨_, Gst.only [0, 2, 3, 4, 5, 6, 7, 8, 40] rfl, rfl⟩
   refine TL.on rfl rfl rfl rfl (decide_eq_true c38) ?_
   refine aA rfl rfl ?_
   refine TL.on rfl rfl rfl rfl (decide_eq_true c38) ?_
   refine aA rfl rfl ?_
   refine TL.on rfl rfl rfl rfl (decide_eq_true c38) ?_
   refine TL.op1 (OpR.cast (OpR.pure rfl) (intE (lenS _))) rfl ?_
   refine TL.on rfl rfl rfl rfl (decide_eq_true c38) ?_
   obtain ⟨x39, hx39, ht37⟩ := bS ht37
   refine TL.op1 (OpR.sliceS hx39 rfl rfl rfl BdM.none (BdM.some rfl)) rfl ?_
   refine TL.on rfl rfl rfl rfl (decide_eq_true c38) ?_
   refine aA rfl rfl ?_
   refine TL.on rfl rfl rfl rfl (decide_eq_true c38) ?_
   refine TL.op1 (OpR.cast (OpR.pure rfl) (boolE (strEq _ _))) rfl ?_
   refine TL.op1 (OpR.pickT rfl (decide_eq_true c38) rfl) rfl ?_
   refine TL.nil ?_
   obtain rfl := Option.some.inj ht37
   exact ⟨_, Gst.only [0, 2, 3, 4, 5, 6, 7, 8, 40] rfl, rfl⟩
 rintro _ rfl
 show T X _ _ _
 obtain ⟨t40, ht40, q30⟩ := bS q30
 refine T.cutC (fun S' => ∃ u41, t40 = Ex.brk u41 ∧ S' = ⟨[(6, (dN s26)), (5, (dN s15)), (4, (dN s4)), (3, (dN 0)), (2, (dP (blk p1))), (0, .val (.string (bs a0)))], [.var (blk p1) [dN 0, dN 0, .val (.string (bs [])), dT false] 64], 50⟩) (fun _ h => h) ?_ ?_
 rotate_left
 · rintro _ ⟨u41, rfl, rfl⟩
   show T X _ _ _
   refine T.region ?_
   iterate 3 refine aA rfl rfl ?_
   refine TL.nil ?_
   obtain rfl := Option.some.inj q30
   exact ⟨m28, Nat.lt_succ_self _, _, Gst.only [0, 2, 3, 4, 5, 6] rfl, w64 (s26 + 1), rfl, i31⟩
 rcases ite_some ht40 with ⟨c42, ht40⟩ | ⟨c42, ht40⟩
 rotate_left
 · refine T.condF rfl (eq_false_of_ne_true c42) ?_
   refine T.skip ?_
   obtain rfl := Option.some.inj ht40
   exact ⟨_, gP [0, 2, 3, 4, 5, 6] [0] rfl rfl rfl, _, rfl, rfl⟩
 refine T.condT rfl (c42) ?_
 refine aS ?_
 iterate 2 refine aA rfl rfl ?_
 refine TL.op1 (OpR.cast (OpR.pure rfl) (intE (lenS _))) rfl ?_
 obtain ⟨x43, hx43, ht40⟩ := bS ht40
 refine TL.op1 (OpR.sliceS hx43 rfl rfl rfl (BdM.some rfl) BdM.none) rfl ?_
 refine aA rfl rfl ?_
 refine TL.op0 (OpR.store 1 rfl rfl rfl rfl rfl rfl rfl rfl) ?_
 refine aN rfl ?_
 refine aS ?_
 refine TL.op1 (OpR.loadPtr 1 rfl rfl rfl rfl) rfl ?_
 obtain ⟨x44, hx44, ht40⟩ := bS ht40
 refine TL.op1 (OpR.call0 fn35 (ref18_Right_c hx44) rfl) rfl ?_
 refine aN rfl ?_
 rcases ite_some ht40 with ⟨c45, ht40⟩ | ⟨c45, ht40⟩
 rotate_left
 · refine T.condF rfl (eq_false_of_ne_true c45) ?_
   refine T.skip ?_
   obtain rfl := Option.some.inj ht40
   exact ⟨_, gP [0, 2, 3, 4, 5, 6] [0] rfl rfl rfl, _, rfl, rfl⟩
 refine T.condT rfl (c45) ?_
 refine aS ?_
 refine TL.op1 (OpR.loadPtr 1 rfl rfl rfl rfl) rfl ?_
 refine TL.op0 (OpR.store 0 rfl rfl rfl rfl rfl rfl rfl rfl) ?_
 refine aA rfl rfl ?_
 refine aN rfl ?_
 refine T.ret ?_
 obtain rfl := Option.some.inj ht40
 obtain rfl := Option.some.inj q30
 obtain rfl : _ = _ := i31
 obtain rfl := Option.some.inj q19
 obtain rfl : _ = _ := i20
 obtain rfl := Option.some.inj q8
 obtain rfl : _ = _ := i9
 obtain rfl := Option.some.inj h0
 exact rP [] [2, 3] [0] rfl rfl rfl undef (cV 0 rfl rfl rfl rfl (cT rfl ResL.nil)) rfl rfl rfl rfl
noncomputable def law18_mine (a0 : ref18_Test) : Option filter_Test :=
  some (⟨a0.fCol, a0.fOp, a0.fArg, a0.fNot⟩ : filter_Test)
theorem law18_mine_c {a0 : ref18_Test} {res : filter_Test} (h0 : law18_mine a0 = some res) : CallF X 34 [.agg [dN a0.fCol, dN a0.fOp, .val (.string (bs a0.fArg)), dT a0.fNot]] [] (fun x => .agg [dN res.fCol, dN res.fOp, .val (.string (bs res.fArg)), dT res.fNot]) (fun x => []) := by
 unfold law18_mine at h0
 refine CallF.mkG (X := X) rfl Tryz.func34 rfl rfl Tryz.ntmps34 rfl rfl ?_
 refine aS ?_
 refine TL.op1 (OpR.boxImm rfl rfl) rfl ?_
 refine TL.op (OpR.alloc rfl rfl (fun _ => rfl)) rfl (fun p1 => ?_)
 refine aN rfl ?_
 refine aS ?_
 iterate 8 refine aA rfl rfl ?_
 refine TL.op1 (OpR.build rfl rfl rfl rfl rfl) rfl ?_
 refine TL.op0 (OpR.store 0 rfl rfl rfl rfl rfl rfl rfl rfl) ?_
 refine aN rfl ?_
 refine T.ret ?_
 obtain rfl := Option.some.inj h0
 exact rO [] [2] rfl undef (cV 0 rfl rfl rfl rfl ResL.nil) rfl rfl rfl rfl
noncomputable def arena_New (a0 : List UInt8) : Option (Int ⊕ (Int × (List UInt8))) :=
  if (a0.length : Int) > 4096 then
    some (Sum.inl 8)
  else
    bnd (mkz 1 (a0.length : Int) (0 : UInt8)) fun x2 =>
    some (Sum.inr (0, (over x2 a0)))
theorem arena_New_c {a0 : List UInt8} {res : Int ⊕ (Int × (List UInt8))} (h0 : arena_New a0 = some res) : CallF X 128 [.sl 1 (lB a0)] [] (fun x => (match res with | .inl res => .tup [dQ, dN res] | .inr res => .tup [dP (blk (vn x 0)), dN res.1])) (fun x => (match res with | .inl res => [] | .inr res => [.var (blk (vn x 0)) [.val (vn x 1)] 264, .row (vn x 1) (lB res.2) 1 5])) := by
 unfold arena_New at h0
 refine CallF.mkG (X := X) rfl Tryz.func128 rfl rfl Tryz.ntmps128 rfl rfl ?_
 refine aS ?_
 iterate 2 refine aA rfl rfl ?_
 refine aN rfl ?_
 refine T.seq ?_
 refine aS ?_
 refine aA rfl rfl ?_
 refine TL.op1 (OpR.cast (OpR.pure rfl) (intE (lenM _ _))) rfl ?_
 refine aA rfl rfl ?_
 refine aN rfl ?_
 rcases ite_some h0 with ⟨c1, h0⟩ | ⟨c1, h0⟩
 · refine T.condT rfl (decide_eq_true c1) ?_
   refine aS ?_
   iterate 2 refine aA rfl rfl ?_
   refine aN rfl ?_
   refine T.ret ?_
   obtain rfl := Option.some.inj h0
   exact rO [] [2, 3] rfl undef (cT rfl (cT rfl ResL.nil)) rfl rfl rfl rfl
 refine T.condF rfl (decide_eq_false c1) ?_
 refine aK rfl ?_
 refine aS ?_
 refine aA rfl rfl ?_
 refine TL.op1 (OpR.cast (OpR.pure rfl) (intE (lenM _ _))) rfl ?_
 obtain ⟨x2, hx2, h0⟩ := bS h0
 refine TL.op (OpR.makeM byteD hx2 rfl rfl rfl rfl rfl rfl rfl rfl rfl rfl rfl (fun _ => rfl)) rfl (fun v3 => ?_)
 refine TL.op1 (OpR.build rfl rfl rfl rfl rfl) rfl ?_
 refine TL.op (OpR.boxVar rfl rfl (fun _ => rfl)) rfl (fun p4 => ?_)
 refine aA rfl rfl ?_
 refine aN rfl ?_
 refine aS ?_
 iterate 3 refine aA rfl rfl ?_
 refine TL.op1 (OpR.loadPtr 1 rfl rfl rfl rfl) rfl ?_
 refine aA rfl rfl ?_
 refine TL.op1 (OpR.copyM byteD 0 rfl rfl rfl rfl rfl rfl rfl rfl) rfl ?_
 refine aN rfl ?_
 refine aS ?_
 iterate 3 refine aA rfl rfl ?_
 refine aN rfl ?_
 refine T.ret ?_
 obtain rfl := Option.some.inj h0
 exact rP [0, 1] [2, 3] [1, 0] rfl rfl rfl (.tuple #[p4, v3]) (cT rfl (cT rfl ResL.nil)) rfl rfl rfl rfl
theorem arena_New_cx1 {a0 : List UInt8} {res : Int} (h0 : arena_New a0 = some (Sum.inl res)) : CallF X 128 [.sl 1 (lB a0)] [] (fun x => .tup [dQ, dN res]) (fun x => []) := arena_New_c h0
theorem arena_New_cx2 {a0 : List UInt8} {res : Int × (List UInt8)} (h0 : arena_New a0 = some (Sum.inr res)) : CallF X 128 [.sl 1 (lB a0)] [] (fun x => .tup [dP (blk (vn x 0)), dN res.1]) (fun x => [.var (blk (vn x 0)) [.val (vn x 1)] 264, .row (vn x 1) (lB res.2) 1 5]) := arena_New_c h0
noncomputable def scan_reader_done (a0 : List UInt8) (a1 : Int) : Option Bool :=
  some (decide (a1 ≥ (a0.length : Int)))
theorem scan_reader_done_c {a0 : List UInt8} {a1 : Int} {b0 : Nat} {res : Bool} (h0 : scan_reader_done a0 a1 = some res) : CallF X 192 [dP b0] [.var b0 [.sl 1 (lB a0), dN a1] 267] (fun x => (dT res)) (fun x => [.var b0 [.sl 1 (lB a0), dN a1] 267]) := by
 unfold scan_reader_done at h0
 refine CallF.mkG (X := X) rfl Tryz.func192 rfl rfl Tryz.ntmps192 rfl rfl ?_
 refine aS ?_
 refine aA rfl rfl ?_
 refine aN rfl ?_
 refine T.seq ?_
 refine T.drawQ drawsX [dP b0, dP b0, .val (.pointer (some ⟨b0, 1, none⟩)), dN a1, dP b0, dP b0, dP b0, .sl 1 (lB a0), dN (a0.length : Int), dT (decide (a1 ≥ (a0.length : Int))), dT (decide (a1 ≥ (a0.length : Int)))] [2] (by decide +kernel) rfl ?_ rfl ?_
 rotate_left
 · show T X _ _ _
   refine T.ret ?_
   obtain rfl := Option.some.inj h0
   exact rO [0] [2] rfl undef (cT rfl ResL.nil) rfl rfl rfl rfl
 iterate 3 refine aB rfl rfl rfl ?_
 refine OpsQ.yes (Want.plain rfl) rfl (OpR.loadPtr 0 rfl rfl rfl rfl) ?_
 iterate 3 refine aB rfl rfl rfl ?_
 refine OpsQ.yes (Want.plain rfl) rfl (OpR.loadPtr 0 rfl rfl rfl rfl) ?_
 refine OpsQ.yes (Want.plain rfl) rfl (OpR.cast (OpR.pure rfl) (intE (lenM _ _))) ?_
 iterate 2 refine aB rfl rfl rfl ?_
 exact OpsQ.nil
noncomputable def scan_reader_is (a0 : UInt8) (a1 : List UInt8) (a2 : Int) : Option Bool :=
  bnd (bnd (scan_reader_done a1 a2) fun x3 =>
  if x3 = true then
    some false
  else
    bnd (idx a1 a2) fun x5 =>
    some ((x5.toNat : Int) == (a0.toNat : Int)) : Option Bool) fun t1 =>
  some t1
theorem scan_reader_is_c {a0 : UInt8} {a1 : List UInt8} {a2 : Int} {b0 : Nat} {res : Bool} (h0 : scan_reader_is a0 a1 a2 = some res) : CallF X 226 [dP b0, .val (.int .u8 (a0.toNat : Int))] [.var b0 [.sl 1 (lB a1), dN a2] 267] (fun x => (dT res)) (fun x => [.var b0 [.sl 1 (lB a1), dN a2] 267]) := by
 unfold scan_reader_is at h0
 refine CallF.mkG (X := X) rfl Tryz.func226 rfl rfl Tryz.ntmps226 rfl rfl ?_
 refine aS ?_
 refine aA rfl rfl ?_
 refine aN rfl ?_
 refine T.seq ?_
 obtain ⟨t1, ht1, h0⟩ := bS h0
 refine T.cutC (fun S' => S' = ⟨[(4, (dT t1))], [.var b0 [.sl 1 (lB a1), dN a2] 267], 22⟩) (fun _ h => h) ?_ ?_
 rotate_left
 · rintro _ rfl
   show T X _ _ _
   refine T.ret ?_
   obtain rfl := Option.some.inj h0
   exact rO [0] [4] rfl undef (cT rfl ResL.nil) rfl rfl rfl rfl
 obtain ⟨x3, hx3, ht1⟩ := bS ht1
 rcases ite_some ht1 with ⟨c4, ht1⟩ | ⟨c4, ht1⟩
 · refine T.drawQ drawsX [dP b0, dT x3, dT (!x3), dT (!x3), .tup [], .tup [], .tup [], .tup [], .tup [], .tup [], .tup [], .tup [], .tup [], .tup [], .tup [], .tup [], dT false, dT false] [4] (by decide +kernel) rfl ?_ rfl ?_
   rotate_left
   · obtain rfl := Option.some.inj ht1
     exact ⟨_, Gst.only [4] rfl, rfl⟩
   refine aB rfl rfl rfl ?_
   refine OpsQ.yes (Want.plain rfl) rfl (OpR.call [0] fn192 (scan_reader_done_c hx3) rfl rfl rfl (fun _ => rfl)) ?_
   iterate 2 refine aB rfl rfl rfl ?_
   refine OpsQ.no (Want.bool rfl rfl rfl rfl (by rw [(not_t (c4))]; rfl)) rfl ?_
   refine OpsQ.no (Want.bool rfl rfl rfl rfl (by rw [(not_t (c4))]; rfl)) rfl ?_
   refine OpsQ.no (Want.bool rfl rfl rfl rfl (by rw [(not_t (c4))]; rfl)) rfl ?_
   refine OpsQ.no (Want.bool rfl rfl rfl rfl (by rw [(not_t (c4))]; rfl)) rfl ?_
   refine OpsQ.no (Want.bool rfl rfl rfl rfl (by rw [(not_t (c4))]; rfl)) rfl ?_
   refine OpsQ.no (Want.bool rfl rfl rfl rfl (by rw [(not_t (c4))]; rfl)) rfl ?_
   refine OpsQ.no (Want.bool rfl rfl rfl rfl (by rw [(not_t (c4))]; rfl)) rfl ?_
   refine OpsQ.no (Want.bool rfl rfl rfl rfl (by rw [(not_t (c4))]; rfl)) rfl ?_
   refine OpsQ.no (Want.bool rfl rfl rfl rfl (by rw [(not_t (c4))]; rfl)) rfl ?_
   refine OpsQ.no (Want.bool rfl rfl rfl rfl (by rw [(not_t (c4))]; rfl)) rfl ?_
   refine OpsQ.no (Want.bool rfl rfl rfl rfl (by rw [(not_t (c4))]; rfl)) rfl ?_
   refine OpsQ.no (Want.bool rfl rfl rfl rfl (by rw [(not_t (c4))]; rfl)) rfl ?_
   refine OpsQ.yes (Want.plain rfl) rfl (OpR.pickF rfl (not_t (c4)) rfl) ?_
   refine aB rfl rfl rfl ?_
   exact OpsQ.nil
 obtain ⟨x5, hx5, ht1⟩ := bS ht1
 refine T.drawQ drawsX [dP b0, dT x3, dT (!x3), dT (!x3), dP b0, dP b0, dP b0, .sl 1 (lB a1), dP b0, dP b0, .val (.pointer (some ⟨b0, 1, none⟩)), dN a2, .nod [.val (.int .u8 (x5.toNat : Int))], .val (.int .u8 (x5.toNat : Int)), .val (.int .u8 (a0.toNat : Int)), dT ((x5.toNat : Int) == (a0.toNat : Int)), dT ((x5.toNat : Int) == (a0.toNat : Int)), dT ((x5.toNat : Int) == (a0.toNat : Int))] [4] (by decide +kernel) rfl ?_ rfl ?_
 rotate_left
 · obtain rfl := Option.some.inj ht1
   exact ⟨_, Gst.only [4] rfl, rfl⟩
 refine aB rfl rfl rfl ?_
 refine OpsQ.yes (Want.plain rfl) rfl (OpR.call [0] fn192 (scan_reader_done_c hx3) rfl rfl rfl (fun _ => rfl)) ?_
 iterate 2 refine aB rfl rfl rfl ?_
 refine OpsQ.yes (Want.bool rfl rfl rfl rfl (by rw [(not_f (eq_false_of_ne_true c4))]; rfl)) rfl (OpR.pure rfl) ?_
 refine OpsQ.yes (Want.bool rfl rfl rfl rfl (by rw [(not_f (eq_false_of_ne_true c4))]; rfl)) rfl (OpR.pure rfl) ?_
 refine OpsQ.yes (Want.bool rfl rfl rfl rfl (by rw [(not_f (eq_false_of_ne_true c4))]; rfl)) rfl (OpR.pure rfl) ?_
 refine OpsQ.yes (Want.bool rfl rfl rfl rfl (by rw [(not_f (eq_false_of_ne_true c4))]; rfl)) rfl (OpR.loadPtr 0 rfl rfl rfl rfl) ?_
 refine OpsQ.yes (Want.bool rfl rfl rfl rfl (by rw [(not_f (eq_false_of_ne_true c4))]; rfl)) rfl (OpR.pure rfl) ?_
 refine OpsQ.yes (Want.bool rfl rfl rfl rfl (by rw [(not_f (eq_false_of_ne_true c4))]; rfl)) rfl (OpR.pure rfl) ?_
 refine OpsQ.yes (Want.bool rfl rfl rfl rfl (by rw [(not_f (eq_false_of_ne_true c4))]; rfl)) rfl (OpR.pure rfl) ?_
 refine OpsQ.yes (Want.bool rfl rfl rfl rfl (by rw [(not_f (eq_false_of_ne_true c4))]; rfl)) rfl (OpR.loadPtr 0 rfl rfl rfl rfl) ?_
 refine OpsQ.yes (Want.bool rfl rfl rfl rfl (by rw [(not_f (eq_false_of_ne_true c4))]; rfl)) rfl (OpR.indexM byteD hx5 rfl rfl rfl rfl rfl) ?_
 refine OpsQ.yes (Want.bool rfl rfl rfl rfl (by rw [(not_f (eq_false_of_ne_true c4))]; rfl)) rfl (OpR.pure rfl) ?_
 refine OpsQ.yes (Want.bool rfl rfl rfl rfl (by rw [(not_f (eq_false_of_ne_true c4))]; rfl)) rfl (OpR.pure rfl) ?_
 refine OpsQ.yes (Want.bool rfl rfl rfl rfl (by rw [(not_f (eq_false_of_ne_true c4))]; rfl)) rfl (OpR.pure rfl) ?_
 refine OpsQ.yes (Want.plain rfl) rfl (OpR.pickT rfl (not_f (eq_false_of_ne_true c4)) rfl) ?_
 refine aB rfl rfl rfl ?_
 exact OpsQ.nil
noncomputable def arena_Join (a0 : arena_Span) (a1 : arena_Span) : Option (arena_Span × Bool) :=
  bnd (if a0.fN < 0 then
    some true
  else
    if a1.fN < 0 then
      some true
    else
      some (!(a1 == (⟨w64 (a0.fAt + a0.fN), a1.fN⟩ : arena_Span))) : Option Bool) fun t2 =>
  if t2 = true then
    some ((⟨0, 0⟩ : arena_Span), false)
  else
    some ((⟨a0.fAt, w64 (a0.fN + a1.fN)⟩ : arena_Span), true)
theorem arena_Join_c {a0 : arena_Span} {a1 : arena_Span} {res : arena_Span × Bool} (h0 : arena_Join a0 a1 = some res) : CallF X 271 [.agg [dN a0.fAt, dN a0.fN], .agg [dN a1.fAt, dN a1.fN]] [] (fun x => .tup [.agg [dN res.1.fAt, dN res.1.fN], dT res.2]) (fun x => []) := by
 unfold arena_Join at h0
 refine CallF.mkG (X := X) rfl Tryz.func271 rfl rfl Tryz.ntmps271 rfl rfl ?_
 refine aS ?_
 refine TL.op1 (OpR.boxImm rfl rfl) rfl ?_
 refine TL.op1 (OpR.boxImm rfl rfl) rfl ?_
 refine TL.op (OpR.alloc rfl rfl (fun _ => rfl)) rfl (fun p1 => ?_)
 refine aA rfl rfl ?_
 refine aN rfl ?_
 refine T.seq ?_
 refine T.seq ?_
 obtain ⟨t2, ht2, h0⟩ := bS h0
 refine T.cutC (fun S' => S' = ⟨[(25, (dT t2)), (5, (dT false)), (4, (dP (blk p1))), (3, .nod [dN a1.fAt, dN a1.fN]), (2, .nod [dN a0.fAt, dN a0.fN])], [.var (blk p1) [dN 0, dN 0] 142], 35⟩) (fun _ h => h) ?_ ?_
 rotate_left
 · rintro _ rfl
   show T X _ _ _
   rcases ite_some h0 with ⟨c5, h0⟩ | ⟨c5, h0⟩
   · refine T.condT rfl (c5) ?_
     refine aS ?_
     refine TL.op1 (OpR.build rfl rfl rfl rfl rfl) rfl ?_
     refine TL.op0 (OpR.store 0 rfl rfl rfl rfl rfl rfl rfl rfl) ?_
     refine aA rfl rfl ?_
     refine aN rfl ?_
     refine T.ret ?_
     obtain rfl := Option.some.inj h0
     exact rO [] [4, 5] rfl undef (cV 0 rfl rfl rfl rfl (cT rfl ResL.nil)) rfl rfl rfl rfl
   refine T.condF rfl (eq_false_of_ne_true c5) ?_
   refine aK rfl ?_
   refine aS ?_
   iterate 7 refine aA rfl rfl ?_
   refine TL.op1 (OpR.build rfl rfl rfl rfl rfl) rfl ?_
   refine TL.op0 (OpR.store 0 rfl rfl rfl rfl rfl rfl rfl rfl) ?_
   refine aA rfl rfl ?_
   refine aN rfl ?_
   refine T.ret ?_
   obtain rfl := Option.some.inj h0
   exact rO [] [4, 5] rfl undef (cV 0 rfl rfl rfl rfl (cT rfl ResL.nil)) rfl rfl rfl rfl
 refine T.region ?_
 iterate 4 refine aA rfl rfl ?_
 rcases ite_some ht2 with ⟨c3, ht2⟩ | ⟨c3, ht2⟩
 · refine TL.off rfl rfl rfl rfl (decide_eq_true c3) rfl rfl ?_
   refine TL.off rfl rfl rfl rfl (decide_eq_true c3) rfl rfl ?_
   refine TL.off rfl rfl rfl rfl (decide_eq_true c3) rfl rfl ?_
   refine TL.op1 (OpR.pickT rfl (decide_eq_true c3) rfl) rfl ?_
   refine aA rfl rfl ?_
   refine TL.off rfl rfl rfl rfl rfl rfl rfl ?_
   refine TL.off rfl rfl rfl rfl rfl rfl rfl ?_
   refine TL.off rfl rfl rfl rfl rfl rfl rfl ?_
   refine TL.off rfl rfl rfl rfl rfl rfl rfl ?_
   refine TL.off rfl rfl rfl rfl rfl rfl rfl ?_
   refine TL.off rfl rfl rfl rfl rfl rfl rfl ?_
   refine TL.off rfl rfl rfl rfl rfl rfl rfl ?_
   refine TL.off rfl rfl rfl rfl rfl rfl rfl ?_
   refine TL.off rfl rfl rfl rfl rfl rfl rfl ?_
   refine TL.off rfl rfl rfl rfl rfl rfl rfl ?_
   refine TL.op1 (OpR.pickT rfl rfl rfl) rfl ?_
   refine TL.nil ?_
   obtain rfl := Option.some.inj ht2
   exact ⟨_, Gst.only [2, 3, 4, 5, 25] rfl, rfl⟩
 refine TL.on rfl rfl rfl rfl (decide_eq_false c3) ?_
 refine aA rfl rfl ?_
 refine TL.on rfl rfl rfl rfl (decide_eq_false c3) ?_
 refine aA rfl rfl ?_
 refine TL.on rfl rfl rfl rfl (decide_eq_false c3) ?_
 refine aA rfl rfl ?_
 refine TL.op1 (OpR.pickF rfl (decide_eq_false c3) rfl) rfl ?_
 refine aA rfl rfl ?_
 rcases ite_some ht2 with ⟨c4, ht2⟩ | ⟨c4, ht2⟩
 · refine TL.off rfl rfl rfl rfl (decide_eq_true c4) rfl rfl ?_
   refine TL.off rfl rfl rfl rfl (decide_eq_true c4) rfl rfl ?_
   refine TL.off rfl rfl rfl rfl (decide_eq_true c4) rfl rfl ?_
   refine TL.off rfl rfl rfl rfl (decide_eq_true c4) rfl rfl ?_
   refine TL.off rfl rfl rfl rfl (decide_eq_true c4) rfl rfl ?_
   refine TL.off rfl rfl rfl rfl (decide_eq_true c4) rfl rfl ?_
   refine TL.off rfl rfl rfl rfl (decide_eq_true c4) rfl rfl ?_
   refine TL.off rfl rfl rfl rfl (decide_eq_true c4) rfl rfl ?_
   refine TL.off rfl rfl rfl rfl (decide_eq_true c4) rfl rfl ?_
   refine TL.off rfl rfl rfl rfl (decide_eq_true c4) rfl rfl ?_
   refine TL.op1 (OpR.pickT rfl (decide_eq_true c4) rfl) rfl ?_
   refine TL.nil ?_
   obtain rfl := Option.some.inj ht2
   exact ⟨_, Gst.only [2, 3, 4, 5, 25] rfl, rfl⟩
 refine TL.on rfl rfl rfl rfl (decide_eq_false c4) ?_
 refine aA rfl rfl ?_
 refine TL.on rfl rfl rfl rfl (decide_eq_false c4) ?_
 refine aA rfl rfl ?_
 refine TL.on rfl rfl rfl rfl (decide_eq_false c4) ?_
 refine aA rfl rfl ?_
 refine TL.on rfl rfl rfl rfl (decide_eq_false c4) ?_
 refine aA rfl rfl ?_
 refine TL.on rfl rfl rfl rfl (decide_eq_false c4) ?_
 refine aA rfl rfl ?_
 refine TL.on rfl rfl rfl rfl (decide_eq_false c4) ?_
 refine aA rfl rfl ?_
 refine TL.on rfl rfl rfl rfl (decide_eq_false c4) ?_
 refine aA rfl rfl ?_
 refine TL.on rfl rfl rfl rfl (decide_eq_false c4) ?_
 refine aA rfl rfl ?_
 refine TL.on rfl rfl rfl rfl (decide_eq_false c4) ?_
 refine TL.op1 (OpR.build rfl rfl rfl rfl rfl) rfl ?_
 refine TL.on rfl rfl rfl rfl (decide_eq_false c4) ?_
 refine TL.op1 (OpR.cast (OpR.neStruct rfl rfl rfl rfl rfl (by kernel_rfl) (by kernel_rfl)) (boolE (congrArg (fun b => !b) (beq_arena_Span a1 (⟨w64 (a0.fAt + a0.fN), a1.fN⟩ : arena_Span))))) rfl ?_
 refine TL.op1 (OpR.pickF rfl (decide_eq_false c4) rfl) rfl ?_
 refine TL.nil ?_
 obtain rfl := Option.some.inj ht2
 exact ⟨_, Gst.only [2, 3, 4, 5, 25] rfl, rfl⟩
noncomputable def scan_parts_add_2 (a0 : Int) (a1 : Int) (a2 : List arena_Span) : Option (List arena_Span) :=
  if a1 ≤ a0 then
    some a2
  else
    bnd (if (w64 ((a2.length : Int) - 1)) ≥ 0 then
      bnd (idx a2 (w64 ((a2.length : Int) - 1))) fun x7 =>
      bnd (arena_Join x7 (⟨a0, w64 (a1 - a0)⟩ : arena_Span)) fun x8 =>
      if x8.2 = true then
        some (Ex.ret (a2.set (w64 ((a2.length : Int) - 1)).toNat x8.1))
      else
        some (Ex.brk ())
    else
      some (Ex.brk ()) : Option (Ex Unit (List arena_Span))) fun t3 => match t3 with
      | .brk u4 =>
        bnd (app 16 a2 [(⟨a0, w64 (a1 - a0)⟩ : arena_Span)]) fun x12 =>
        some x12
      | .ret u4 => some u4
theorem scan_parts_add_2_c {a0 : Int} {a1 : Int} {a2 : List arena_Span} {b0 : Nat} {v1 : Value} {res : (List arena_Span)} (h0 : scan_parts_add_2 a0 a1 a2 = some res) : CallF X 269 [dP b0, dN a0, dN a1] [.var b0 [.val v1] 359, .row v1 (List.map e_arena_Span a2) 2 142] (fun x => .tup []) (fun x => [.var b0 [.val (vn x 0)] 359, .row (vn x 0) (List.map e_arena_Span res) 2 142]) := by
 unfold scan_parts_add_2 at h0
 refine CallF.mkG (X := X) rfl Tryz.func269 rfl rfl Tryz.ntmps269 rfl rfl ?_
 refine T.seq ?_
 refine aS ?_
 iterate 3 refine aA rfl rfl ?_
 refine aN rfl ?_
 rcases ite_some h0 with ⟨c1, h0⟩ | ⟨c1, h0⟩
 · refine T.condT rfl (decide_eq_true c1) ?_
   refine T.ret ?_
   obtain rfl := Option.some.inj h0
   exact rO [0, 1] [] rfl (.tuple #[v1]) ResL.nil rfl rfl rfl rfl
 refine T.condF rfl (decide_eq_false c1) ?_
 refine aK rfl ?_
 refine aS ?_
 iterate 4 refine aA rfl rfl ?_
 refine TL.op1 (OpR.build rfl rfl rfl rfl rfl) rfl ?_
 refine TL.op (OpR.alloc rfl rfl (fun _ => rfl)) rfl (fun p2 => ?_)
 refine TL.op0 (OpR.store 2 rfl rfl rfl rfl rfl rfl rfl rfl) ?_
 refine aN rfl ?_
 refine T.seq ?_
 refine aS ?_
 iterate 2 refine aA rfl rfl ?_
 refine TL.op1 (OpR.loadPtr 0 rfl rfl rfl rfl) rfl ?_
 refine TL.op1 (OpR.rowLenM e_arena_Span 1 rfl rfl rfl rfl) rfl ?_
 iterate 2 refine aA rfl rfl ?_
 refine aN rfl ?_
 refine aS ?_
 iterate 2 refine aA rfl rfl ?_
 refine aN rfl ?_
 obtain ⟨t3, ht3, h0⟩ := bS h0
 refine T.cutC (fun S' => ∃ u4, t3 = Ex.brk u4 ∧ S' = ⟨[(6, (dP (blk p2))), (0, (dP b0))], [.var b0 [.val v1] 359, .row v1 (List.map e_arena_Span a2) 2 142, .var (blk p2) [dN a0, dN (w64 (a1 - a0))] 142], 51⟩) (fun _ h => h) ?_ ?_
 rotate_left
 · rintro _ ⟨u4, rfl, rfl⟩
   show T X _ _ _
   obtain ⟨x12, hx12, h0⟩ := bS h0
   refine T.drawS drawsX (fun env11 => [dP b0, dP b0, dP b0, .val v1, .agg [dN a0, dN (w64 (a1 - a0))], .sl 2 (List.map e_arena_Span [(⟨a0, w64 (a1 - a0)⟩ : arena_Span)]), .val (env11 6), dP b0, .dead]) (fun D env11 => [(bif D 8 then .var b0 [.val (env11 6)] 359 else .var b0 [.val v1] 359), (bif D 6 then .row (env11 6) (List.map e_arena_Span x12) 2 142 else .row v1 (List.map e_arena_Span a2) 2 142), .var (blk p2) [dN a0, dN (w64 (a1 - a0))] 142]) [0, 0, 2, 6, 0, 16, 62, 127, 255] [] _ (by decide +kernel) (by decide +kernel) (fun _ => rfl) (fun _ => rfl) ?_ (fun _ => rfl) (fun _ => rfl) ?_
   rotate_left
   · intro env11
     obtain rfl := Option.some.inj h0
     exact PostG.finP (ks := [0, 1]) (gP [] [0, 1] rfl rfl rfl) (.tuple #[(env11 6)]) ResL.nil rfl rfl rfl rfl
   iterate 3 refine aC ?_
   refine OpsS.cons' true ?_ (fun _ _ _ _ _ _ _ => rfl) ?_
   · intro D env11 hA
     have e6 : D 6 = false := hA.no 6 _ rfl rfl
     have e8 : D 8 = false := hA.no 8 _ rfl rfl
     exact OpS.yp [(6, false), (8, false)] ⟨e6, e8, trivial⟩ (Want.plain rfl) (OpR.loadPtr 0 rfl rfl rfl rfl) (fun x => rfl) (fun x => rfl)
   refine oT (.agg [dN a0, dN (w64 (a1 - a0))]) (fun _ _ => OpR.loadPtr 2 rfl rfl rfl rfl) ?_
   refine oT (.sl 2 (List.map e_arena_Span [(⟨a0, w64 (a1 - a0)⟩ : arena_Span)])) (fun _ _ => OpR.lit rfl rfl rfl rfl rfl rfl rfl) ?_
   refine OpsS.cons' true ?_ (fun D hA env11 x j hj hD => match j, hj, hD with | 0, _, _ => rfl | 1, _, _ => rfl | 2, _, _ => rfl | 3, _, _ => rfl | 4, _, _ => rfl | 5, _, _ => rfl | 6, hj, _ => absurd rfl hj | 7, _, _ => rfl | 8, _, _ => rfl | _ + 9, _, _ => rfl) ?_
   · intro D env11 hA
     have e8 : D 8 = false := hA.no 8 _ rfl rfl
     exact OpS.yp [(8, false), (6, false)] ⟨e8, hA.me, trivial⟩ (Want.plain rfl) (OpR.appendM (m := [(⟨a0, w64 (a1 - a0)⟩ : arena_Span)]) e_arena_Span 1 hx12 rfl rfl rfl rfl rfl rfl rfl rfl rfl (fun _ => rfl)) (fun x => rfl) (fun x => rfl)
   refine aC ?_
   refine OpsS.cons' true ?_ (fun _ _ _ _ _ _ _ => rfl) ?_
   · intro D env11 hA
     have e6 : D 6 = true := hA.yes 6 _ rfl rfl
     exact OpS.yp [(6, true), (8, false)] ⟨e6, hA.me, trivial⟩ (Want.plain rfl) (OpR.store 0 rfl rfl rfl rfl rfl rfl rfl rfl) (fun x => rfl) (fun x => rfl)
   exact trivial
 rcases ite_some ht3 with ⟨c5, ht3⟩ | ⟨c5, ht3⟩
 rotate_left
 · refine T.condF rfl (decide_eq_false c5) ?_
   refine T.skip ?_
   obtain rfl := Option.some.inj ht3
   exact ⟨_, Gst.only [0, 6] rfl, _, rfl, rfl⟩
 refine T.condT rfl (decide_eq_true c5) ?_
 refine T.seq ?_
 obtain ⟨x7, hx7, ht3⟩ := bS ht3
 obtain ⟨x8, hx8, ht3⟩ := bS ht3
 refine T.drawS drawsX (fun env6 => [dP b0, dP b0, .val v1, dN (w64 ((a2.length : Int) - 1)), .val (.pointer (some ⟨blk v1, (w64 ((a2.length : Int) - 1)).toNat * 2, none⟩)), .agg [dN x7.fAt, dN x7.fN], .agg [dN a0, dN (w64 (a1 - a0))], .tup [.agg [dN x8.1.fAt, dN x8.1.fN], dT x8.2], .tup [.agg [dN x8.1.fAt, dN x8.1.fN], dT x8.2], .agg [dN x8.1.fAt, dN x8.1.fN], dT x8.2, dP (blk (env6 11)), .dead, dT x8.2]) (fun D env6 => [.var b0 [.val v1] 359, .row v1 (List.map e_arena_Span a2) 2 142, .var (blk p2) [dN a0, dN (w64 (a1 - a0))] 142] ++ (bif D 11 then [(bif D 12 then .var (blk (env6 11)) [dN x8.1.fAt, dN x8.1.fN] 142 else .var (blk (env6 11)) [dN 0, dN 0] 142)] else [])) [0, 1, 3, 0, 15, 31, 0, 127, 255, 511, 511, 0, 3071, 8191] [0, 6, 7, 8, 9] _ (by decide +kernel) (by decide +kernel) (fun _ => rfl) (fun _ => rfl) ?_ (fun _ => rfl) (fun _ => rfl) ?_
 rotate_left
 · intro env6
   show T X _ _ _
   refine aS ?_
   refine aA rfl rfl ?_
   refine aN rfl ?_
   rcases ite_some ht3 with ⟨c9, ht3⟩ | ⟨c9, ht3⟩
   rotate_left
   · refine T.condF rfl (eq_false_of_ne_true c9) ?_
     refine T.skip ?_
     obtain rfl := Option.some.inj ht3
     exact ⟨_, gP [0, 6] [0, 1, 2] rfl rfl rfl, _, rfl, rfl⟩
   refine T.condT rfl (c9) ?_
   refine T.seq ?_
   refine T.drawS drawsX (fun env10 => [dP b0, dP b0, .val v1, dN (w64 ((a2.length : Int) - 1)), .agg [dN x8.1.fAt, dN x8.1.fN], .val (.pointer (some ⟨blk v1, (w64 ((a2.length : Int) - 1)).toNat * 2, none⟩)), .dead]) (fun D env10 => [.var b0 [.val v1] 359, (bif D 6 then .row v1 (List.map e_arena_Span (a2.set (w64 ((a2.length : Int) - 1)).toNat x8.1)) 2 142 else .row v1 (List.map e_arena_Span a2) 2 142), .var (blk p2) [dN a0, dN (w64 (a1 - a0))] 142, .var (blk (env6 11)) [dN x8.1.fAt, dN x8.1.fN] 142]) [0, 1, 3, 0, 0, 31, 63] [0, 6] _ (by decide +kernel) (by decide +kernel) (fun _ => rfl) (fun _ => rfl) ?_ (fun _ => rfl) (fun _ => rfl) ?_
   rotate_left
   · intro env10
     show T X _ _ _
     refine T.ret ?_
     obtain rfl := Option.some.inj ht3
     obtain rfl := Option.some.inj h0
     exact rP [0, 1] [] [0, 1] rfl rfl rfl (.tuple #[v1]) ResL.nil rfl rfl rfl rfl
   iterate 2 refine aC ?_
   refine oT (.val v1) (fun _ _ => OpR.loadPtr 0 rfl rfl rfl rfl) ?_
   refine aC ?_
   refine oT (.agg [dN x8.1.fAt, dN x8.1.fN]) (fun _ _ => OpR.loadPtr 3 rfl rfl rfl rfl) ?_
   refine OpsS.cons' true ?_ (fun _ _ _ _ _ _ _ => rfl) ?_
   · intro D env10 hA
     have e6 : D 6 = false := hA.no 6 _ rfl rfl
     exact OpS.yp [(6, false)] ⟨e6, trivial⟩ (Want.plain rfl) (OpR.rowIndexM e_arena_Span 1 hx7 rfl rfl rfl rfl rfl rfl rfl) (fun x => rfl) (fun x => rfl)
   refine OpsS.cons' true ?_ (fun _ _ _ _ _ _ _ => rfl) ?_
   · intro D env10 hA
     exact OpS.yp [(6, false)] ⟨hA.me, trivial⟩ (Want.plain rfl) (OpR.rowStore0M (j := w64 ((a2.length : Int) - 1)) e_arena_Span x8.1 1 hx7 rfl rfl rfl rfl rfl rfl rfl rfl rfl) (fun x => rfl) (fun x => rfl)
   exact trivial
 iterate 2 refine aC ?_
 refine oT (.val v1) (fun _ _ => OpR.loadPtr 0 rfl rfl rfl rfl) ?_
 refine aC ?_
 refine oT (.val (.pointer (some ⟨blk v1, (w64 ((a2.length : Int) - 1)).toNat * 2, none⟩))) (fun _ _ => OpR.rowIndexM e_arena_Span 1 hx7 rfl rfl rfl rfl rfl rfl rfl) ?_
 refine oT (.agg [dN x7.fAt, dN x7.fN]) (fun _ _ => OpR.rowLoad0M (j := w64 ((a2.length : Int) - 1)) e_arena_Span 1 hx7 rfl rfl rfl rfl) ?_
 refine oT (.agg [dN a0, dN (w64 (a1 - a0))]) (fun _ _ => OpR.loadPtr 2 rfl rfl rfl rfl) ?_
 refine oT (.tup [.agg [dN x8.1.fAt, dN x8.1.fN], dT x8.2]) (fun _ _ => OpR.call0 fn271 (arena_Join_c hx8) rfl) ?_
 iterate 3 refine aC ?_
 refine OpsS.cons' true ?_ (fun D hA env6 x j hj hD => match j, hj, hD with | 0, _, _ => rfl | 1, _, _ => rfl | 2, _, _ => rfl | 3, _, _ => rfl | 4, _, _ => rfl | 5, _, _ => rfl | 6, _, _ => rfl | 7, _, _ => rfl | 8, _, _ => rfl | 9, _, _ => rfl | 10, _, _ => rfl | 11, hj, _ => absurd rfl hj | 12, _, _ => rfl | 13, _, _ => rfl | _ + 14, _, _ => rfl) ?_
 · intro D env6 hA
   have e12 : D 12 = false := hA.no 12 _ rfl rfl
   exact OpS.yp [(12, false), (11, false)] ⟨e12, hA.me, trivial⟩ (Want.plain rfl) (OpR.alloc rfl rfl (fun _ => rfl)) (fun x => rfl) (fun x => rfl)
 refine OpsS.cons' true ?_ (fun _ _ _ _ _ _ _ => rfl) ?_
 · intro D env6 hA
   have e11 : D 11 = true := hA.yes 11 _ rfl rfl
   exact OpS.yp [(11, true), (12, false)] ⟨e11, hA.me, trivial⟩ (Want.plain rfl) (OpR.store 3 rfl rfl rfl rfl rfl rfl rfl rfl) (fun x => rfl) (fun x => rfl)
 refine aC ?_
 exact trivial
noncomputable def scan_reader_marked (a0 : List UInt8) (a1 : Int) : Option Bool :=
  bnd (scan_reader_done a0 a1) fun x1 =>
  if x1 = true then
    some true
  else
    bnd (idx a0 a1) fun x4 =>
    bnd (if (x4.toNat : Int) = 44 then
      some ((x4.toNat : Int) == 44)
    else
      if (x4.toNat : Int) = 13 then
        some ((x4.toNat : Int) == 13)
      else
        some ((x4.toNat : Int) == 10) : Option Bool) fun t5 =>
    if t5 = true then
      some true
    else
      some false
theorem scan_reader_marked_c {a0 : List UInt8} {a1 : Int} {b0 : Nat} {res : Bool} (h0 : scan_reader_marked a0 a1 = some res) : CallF X 276 [dP b0] [.var b0 [.sl 1 (lB a0), dN a1] 267] (fun x => (dT res)) (fun x => [.var b0 [.sl 1 (lB a0), dN a1] 267]) := by
 unfold scan_reader_marked at h0
 refine CallF.mkG (X := X) rfl Tryz.func276 rfl rfl Tryz.ntmps276 rfl rfl ?_
 refine aS ?_
 refine aA rfl rfl ?_
 refine aN rfl ?_
 refine T.seq ?_
 refine aS ?_
 refine aA rfl rfl ?_
 obtain ⟨x1, hx1, h0⟩ := bS h0
 refine TL.op1 (OpR.call [0] fn192 (scan_reader_done_c hx1) rfl rfl rfl (fun _ => rfl)) rfl ?_
 refine aN rfl ?_
 rcases ite_some h0 with ⟨c2, h0⟩ | ⟨c2, h0⟩
 · refine T.condT rfl (c2) ?_
   refine aS ?_
   refine aA rfl rfl ?_
   refine aN rfl ?_
   refine T.ret ?_
   obtain rfl := Option.some.inj h0
   exact rO [0] [2] rfl undef (cT rfl ResL.nil) rfl rfl rfl rfl
 refine T.condF rfl (eq_false_of_ne_true c2) ?_
 refine aK rfl ?_
 refine T.seq ?_
 refine T.seq ?_
 obtain ⟨x4, hx4, h0⟩ := bS h0
 refine T.drawQ drawsX [dP b0, dP b0, dP b0, .sl 1 (lB a0), dP b0, dP b0, .val (.pointer (some ⟨b0, 1, none⟩)), dN a1, .nod [.val (.int .u8 (x4.toNat : Int))], .val (.int .u8 (x4.toNat : Int))] [2, 14] (by decide +kernel) rfl ?_ rfl ?_
 · iterate 3 refine aB rfl rfl rfl ?_
   refine OpsQ.yes (Want.plain rfl) rfl (OpR.loadPtr 0 rfl rfl rfl rfl) ?_
   iterate 3 refine aB rfl rfl rfl ?_
   refine OpsQ.yes (Want.plain rfl) rfl (OpR.loadPtr 0 rfl rfl rfl rfl) ?_
   refine OpsQ.yes (Want.plain rfl) rfl (OpR.indexM byteD hx4 rfl rfl rfl rfl rfl) ?_
   refine aB rfl rfl rfl ?_
   exact OpsQ.nil
 show T X _ _ _
 refine T.block ?_
 refine T.seq ?_
 refine aS ?_
 iterate 2 refine aA rfl rfl ?_
 refine aN rfl ?_
 obtain ⟨t5, ht5, h0⟩ := bS h0
 refine T.cutC (fun S' => S' = ⟨[(15, (dT t5)), (2, (dT false))], [.var b0 [.sl 1 (lB a0), dN a1] 267], 19⟩) (fun _ h => h) ?_ ?_
 rotate_left
 · rintro _ rfl
   show T X _ _ _
   rcases ite_some h0 with ⟨c8, h0⟩ | ⟨c8, h0⟩
   · refine T.condT rfl (c8) ?_
     refine aS ?_
     refine aA rfl rfl ?_
     refine aN rfl ?_
     refine T.ret ?_
     obtain rfl := Option.some.inj h0
     exact rO [0] [2] rfl undef (cT rfl ResL.nil) rfl rfl rfl rfl
   refine T.condF rfl (eq_false_of_ne_true c8) ?_
   refine aK rfl ?_
   refine aS ?_
   refine aA rfl rfl ?_
   refine aN rfl ?_
   refine T.ret ?_
   obtain rfl := Option.some.inj h0
   exact rO [0] [2] rfl undef (cT rfl ResL.nil) rfl rfl rfl rfl
 rcases ite_some ht5 with ⟨c6, ht5⟩ | ⟨c6, ht5⟩
 · refine T.condT rfl (beq_iff_eq.2 c6) ?_
   refine T.skip ?_
   obtain rfl := Option.some.inj ht5
   exact ⟨_, Gst.only [2, 15] rfl, rfl⟩
 refine T.condF rfl (beq_eq_false_iff_ne.2 c6) ?_
 refine aS ?_
 iterate 2 refine aA rfl rfl ?_
 refine aN rfl ?_
 rcases ite_some ht5 with ⟨c7, ht5⟩ | ⟨c7, ht5⟩
 · refine T.condT rfl (beq_iff_eq.2 c7) ?_
   refine T.skip ?_
   obtain rfl := Option.some.inj ht5
   exact ⟨_, Gst.only [2, 15] rfl, rfl⟩
 refine T.condF rfl (beq_eq_false_iff_ne.2 c7) ?_
 refine T.region ?_
 iterate 2 refine aA rfl rfl ?_
 refine TL.nil ?_
 obtain rfl := Option.some.inj ht5
 exact ⟨_, Gst.only [2, 15] rfl, rfl⟩
noncomputable def scan_reader_plain.l1 (a0 : List UInt8) (s2 : Bool × Int) : Option (Lp (Bool × Int) (Bool × Int)) :=
  bnd (scan_reader_marked a0 s2.2) fun x10 =>
  if x10 = true then
    some (Lp.done (s2.1, s2.2))
  else
    bnd (if s2.1 = true then
      some true
    else
      bnd (scan_reader_is 34 a0 s2.2) fun x14 =>
      some x14 : Option Bool) fun t12 =>
    some (Lp.next (t12, w64 (s2.2 + 1)))
noncomputable def scan_reader_plain (a0 : List UInt8) (a1 : Int) : Option (Bool × Int) :=
  bnd (loop (scan_reader_plain.l1 a0) (false, a1) : Option (Bool × Int)) fun t1 =>
  some (t1.1, t1.2)
theorem scan_reader_plain_c {a0 : List UInt8} {a1 : Int} {b0 : Nat} {res : Bool × Int} (h0 : scan_reader_plain a0 a1 = some res) : CallF X 270 [dP b0] [.var b0 [.sl 1 (lB a0), dN a1] 267] (fun x => (dT res.1)) (fun x => [.var b0 [.sl 1 (lB a0), dN res.2] 267]) := by
 unfold scan_reader_plain at h0
 refine CallF.mkG (X := X) rfl Tryz.func270 rfl rfl Tryz.ntmps270 rfl rfl ?_
 refine aS ?_
 refine aA rfl rfl ?_
 refine aN rfl ?_
 refine aS ?_
 refine aA rfl rfl ?_
 refine aN rfl ?_
 refine T.seq ?_
 obtain ⟨t1, ht1, h0⟩ := bS h0
 refine T.cutC (fun S' => S' = ⟨[(3, (dT t1.1)), (2, (dT false))], [.var b0 [.sl 1 (lB a0), dN t1.2] 267], 20⟩) (fun _ h => h) ?_ ?_
 rotate_left
 · rintro _ rfl
   show T X _ _ _
   refine aS ?_
   iterate 2 refine aA rfl rfl ?_
   refine aN rfl ?_
   refine T.ret ?_
   obtain rfl := Option.some.inj h0
   exact rO [0] [2] rfl undef (cT rfl ResL.nil) rfl rfl rfl rfl
 refine T.block ?_
 obtain ⟨n3, n8⟩ := loop_some ht1
 refine T.loop (fun n S' => ∃ S'', Gst S' S'' ∧ ∃ s2 : Bool × Int, S'' = ⟨[(3, (dT s2.1)), (2, (dT false)), (0, (dP b0))], [.var b0 [.sl 1 (lB a0), dN s2.2] 267], 20⟩ ∧ iter (scan_reader_plain.l1 a0) n s2 = some t1) n3 ?_ ?_
 · exact ⟨_, Gst.only [0, 2, 3] rfl, (false, a1), rfl, n8⟩
 rintro n3 _ ⟨_, g, s2, rfl, i7⟩
 refine T.ghost g ?_
 obtain ⟨m4, q5, rfl, q6, i7⟩ := iter_succ i7
 unfold scan_reader_plain.l1 at q6
 refine T.seq ?_
 refine aS ?_
 refine aA rfl rfl ?_
 obtain ⟨x10, hx10, q6⟩ := bS q6
 refine TL.op1 (OpR.call [0] fn276 (scan_reader_marked_c hx10) rfl rfl rfl (fun _ => rfl)) rfl ?_
 refine aA rfl rfl ?_
 refine aN rfl ?_
 rcases ite_some q6 with ⟨c11, q6⟩ | ⟨c11, q6⟩
 · refine T.condF rfl (not_t (c11)) ?_
   refine T.exit ?_
   obtain rfl := Option.some.inj q6
   obtain rfl : _ = _ := i7
   exact ⟨_, Gst.only [2, 3] rfl, rfl⟩
 refine T.condT rfl (not_f (eq_false_of_ne_true c11)) ?_
 refine aK rfl ?_
 refine T.seq ?_
 refine T.block ?_
 obtain ⟨t12, ht12, q6⟩ := bS q6
 refine T.cutC (fun S' => S' = ⟨[(3, (dT t12)), (2, (dT false)), (0, (dP b0))], [.var b0 [.sl 1 (lB a0), dN s2.2] 267], 20⟩) (fun _ h => h) ?_ ?_
 rotate_left
 · rintro _ rfl
   show T X _ _ _
   refine T.region ?_
   iterate 3 refine aA rfl rfl ?_
   refine TL.op1 (OpR.loadPtr 0 rfl rfl rfl rfl) rfl ?_
   iterate 3 refine aA rfl rfl ?_
   refine TL.op0 (OpR.store 0 rfl rfl rfl rfl rfl rfl rfl rfl) ?_
   refine TL.nil ?_
   obtain rfl := Option.some.inj q6
   exact ⟨m4, Nat.lt_succ_self _, _, Gst.only [0, 2, 3] rfl, (t12, w64 (s2.2 + 1)), rfl, i7⟩
 refine T.region ?_
 iterate 2 refine aA rfl rfl ?_
 rcases ite_some ht12 with ⟨c13, ht12⟩ | ⟨c13, ht12⟩
 · refine TL.off rfl rfl rfl rfl (c13) rfl rfl ?_
   refine TL.off rfl rfl rfl rfl (c13) rfl rfl ?_
   refine TL.op1 (OpR.pickT rfl (c13) rfl) rfl ?_
   refine aA rfl rfl ?_
   refine TL.nil ?_
   obtain rfl := Option.some.inj ht12
   exact ⟨_, Gst.only [0, 2, 3] rfl, rfl⟩
 refine TL.on rfl rfl rfl rfl (eq_false_of_ne_true c13) ?_
 refine aA rfl rfl ?_
 refine TL.on rfl rfl rfl rfl (eq_false_of_ne_true c13) ?_
 obtain ⟨x14, hx14, ht12⟩ := bS ht12
 refine TL.op1 (OpR.call [0] fn226 (scan_reader_is_c hx14) rfl rfl rfl (fun _ => rfl)) rfl ?_
 refine TL.op1 (OpR.pickF rfl (eq_false_of_ne_true c13) rfl) rfl ?_
 refine aA rfl rfl ?_
 refine TL.nil ?_
 obtain rfl := Option.some.inj ht12
 exact ⟨_, Gst.only [0, 2, 3] rfl, rfl⟩
noncomputable def scan_reader_quoted.l1 (a0 : List UInt8) (s14 : Int) : Option (Lp Int Int) :=
  bnd (bnd (scan_reader_done a0 s14) fun x23 =>
  if x23 = true then
    some false
  else
    bnd (scan_reader_is 34 a0 s14) fun x25 =>
    some (!x25) : Option Bool) fun t22 =>
  if t22 = true then
    some (Lp.next (w64 (s14 + 1)))
  else
    some (Lp.done s14)
noncomputable def scan_reader_quoted.l2 (a0 : List UInt8) (s5 : Int × Int × (List arena_Span)) : Option (Lp (Int × Int × (List arena_Span)) (Int × (List arena_Span) × Int)) :=
  bnd (loop (scan_reader_quoted.l1 a0) s5.2.1 : Option Int) fun t13 =>
  bnd (scan_reader_done a0 t13) fun x27 =>
  if x27 = true then
    bnd (scan_parts_add_2 s5.1 t13 s5.2.2) fun x29 =>
    some (Lp.done (4, x29, t13))
  else
    bnd (scan_reader_is 34 a0 (w64 (t13 + 1))) fun x32 =>
    if x32 = true then
      bnd (scan_parts_add_2 s5.1 (w64 (t13 + 1)) s5.2.2) fun x34 =>
      some (Lp.next (w64 ((w64 (t13 + 1)) + 1), w64 ((w64 (t13 + 1)) + 1), x34))
    else
      bnd (scan_parts_add_2 s5.1 (w64 ((w64 (t13 + 1)) - 1)) s5.2.2) fun x36 =>
      bnd (scan_reader_plain a0 (w64 (t13 + 1))) fun x38 =>
      bnd (scan_parts_add_2 (w64 (t13 + 1)) x38.2 x36) fun x39 =>
      if x38.2 > (w64 (t13 + 1)) then
        some (Lp.done (3, x39, x38.2))
      else
        some (Lp.done (1, x39, x38.2))
noncomputable def scan_reader_quoted (a0 : List UInt8) (a1 : Int) : Option (Int × (List arena_Span) × Int) :=
  loop (scan_reader_quoted.l2 a0) (w64 (a1 + 1), w64 (a1 + 1), [])
theorem scan_reader_quoted_c {a0 : List UInt8} {a1 : Int} {b0 : Nat} {res : Int × (List arena_Span) × Int} (h0 : scan_reader_quoted a0 a1 = some res) : CallF X 252 [dP b0] [.var b0 [.sl 1 (lB a0), dN a1] 267] (fun x => .tup [dN res.1, .sl 2 (List.map e_arena_Span res.2.1)]) (fun x => [.var b0 [.sl 1 (lB a0), dN res.2.2] 267]) := by
 unfold scan_reader_quoted at h0
 refine CallF.mkG (X := X) rfl Tryz.func252 rfl rfl Tryz.ntmps252 rfl rfl ?_
 refine aS ?_
 iterate 2 refine aA rfl rfl ?_
 refine aN rfl ?_
 refine T.scope rfl 0 rfl ?_
 refine aS ?_
 refine TL.op (OpR.alloc rfl rfl (fun _ => rfl)) rfl (fun p3 => ?_)
 refine aN rfl ?_
 refine aS ?_
 iterate 3 refine aA rfl rfl ?_
 refine TL.op1 (OpR.loadPtr 0 rfl rfl rfl rfl) rfl ?_
 iterate 3 refine aA rfl rfl ?_
 refine TL.op0 (OpR.store 0 rfl rfl rfl rfl rfl rfl rfl rfl) ?_
 refine aN rfl ?_
 refine aS ?_
 iterate 3 refine aA rfl rfl ?_
 refine TL.op1 (OpR.loadPtr 0 rfl rfl rfl rfl) rfl ?_
 refine aA rfl rfl ?_
 refine aN rfl ?_
 refine T.seq ?_
 refine T.label ?_
 show T X _ _ _
 obtain ⟨n6, n11⟩ := loop_some h0
 refine T.atLabelS rfl ?_ (fun n S' => ∃ S'', Gst S' S'' ∧ ∃ y4 : Value, ∃ s5 : Int × Int × (List arena_Span), S'' = ⟨[(5, (dN s5.1)), (4, (dP (blk p3))), (3, .val (.slice none 0 0)), (2, (dN 0)), (0, (dP b0))], [.var b0 [.sl 1 (lB a0), dN s5.2.1] 267, .var (blk p3) [.val y4] 359, .row y4 (List.map e_arena_Span s5.2.2) 2 142], 94⟩ ∧ iter (scan_reader_quoted.l2 a0) n s5 = some res) n6 ?_ ?_
 · rfl
 · exact ⟨_, Gst.trans (Gst.only [0, 2, 3, 4, 5] rfl) (Gst.nilRow (ow := [.var b0 [.sl 1 (lB a0), dN (w64 (a1 + 1))] 267, .var (blk p3) [.val (.slice none 0 0)] 359]) 2 142 rfl), (.slice none 0 0), (w64 (a1 + 1), w64 (a1 + 1), []), rfl, n11⟩
 rintro n6 _ ⟨_, g, y4, s5, rfl, i10⟩
 refine T.ghost g ?_
 obtain ⟨m7, q8, rfl, q9, i10⟩ := iter_succ i10
 unfold scan_reader_quoted.l2 at q9
 refine T.seq ?_
 obtain ⟨t13, ht13, q9⟩ := bS q9
 refine T.cutC (fun S' => S' = ⟨[(5, (dN s5.1)), (4, (dP (blk p3))), (3, .val (.slice none 0 0)), (2, (dN 0)), (0, (dP b0))], [.var b0 [.sl 1 (lB a0), dN t13] 267, .var (blk p3) [.val y4] 359, .row y4 (List.map e_arena_Span s5.2.2) 2 142], 94⟩) (fun _ h => h) ?_ ?_
 · refine T.block ?_
   obtain ⟨n15, n20⟩ := loop_some ht13
   refine T.loop (fun n S' => ∃ S'', Gst S' S'' ∧ ∃ s14 : Int, S'' = ⟨[(5, (dN s5.1)), (4, (dP (blk p3))), (3, .val (.slice none 0 0)), (2, (dN 0)), (0, (dP b0))], [.var b0 [.sl 1 (lB a0), dN s14] 267, .var (blk p3) [.val y4] 359, .row y4 (List.map e_arena_Span s5.2.2) 2 142], 94⟩ ∧ iter (scan_reader_quoted.l1 a0) n s14 = some t13) n15 ?_ ?_
   · exact ⟨_, Gst.only [0, 2, 3, 4, 5] rfl, s5.2.1, rfl, n20⟩
   rintro n15 _ ⟨_, g, s14, rfl, i19⟩
   refine T.ghost g ?_
   obtain ⟨m16, q17, rfl, q18, i19⟩ := iter_succ i19
   unfold scan_reader_quoted.l1 at q18
   refine T.seq ?_
   refine T.seq ?_
   obtain ⟨t22, ht22, q18⟩ := bS q18
   refine T.cutC (fun S' => S' = ⟨[(24, (dT t22)), (5, (dN s5.1)), (4, (dP (blk p3))), (3, .val (.slice none 0 0)), (2, (dN 0)), (0, (dP b0))], [.var b0 [.sl 1 (lB a0), dN s14] 267, .var (blk p3) [.val y4] 359, .row y4 (List.map e_arena_Span s5.2.2) 2 142], 94⟩) (fun _ h => h) ?_ ?_
   rotate_left
   · rintro _ rfl
     show T X _ _ _
     rcases ite_some q18 with ⟨c26, q18⟩ | ⟨c26, q18⟩
     rotate_left
     · refine T.condF rfl (eq_false_of_ne_true c26) ?_
       refine T.exit ?_
       obtain rfl := Option.some.inj q18
       obtain rfl : _ = _ := i19
       exact ⟨_, Gst.only [0, 2, 3, 4, 5] rfl, rfl⟩
     refine T.condT rfl (c26) ?_
     refine aK rfl ?_
     refine T.block ?_
     refine T.region ?_
     iterate 3 refine aA rfl rfl ?_
     refine TL.op1 (OpR.loadPtr 0 rfl rfl rfl rfl) rfl ?_
     iterate 3 refine aA rfl rfl ?_
     refine TL.op0 (OpR.store 0 rfl rfl rfl rfl rfl rfl rfl rfl) ?_
     refine TL.nil ?_
     obtain rfl := Option.some.inj q18
     exact ⟨m16, Nat.lt_succ_self _, _, Gst.only [0, 2, 3, 4, 5] rfl, w64 (s14 + 1), rfl, i19⟩
   refine T.region ?_
   refine aA rfl rfl ?_
   obtain ⟨x23, hx23, ht22⟩ := bS ht22
   refine TL.op1 (OpR.call [0] fn192 (scan_reader_done_c hx23) rfl rfl rfl (fun _ => rfl)) rfl ?_
   iterate 2 refine aA rfl rfl ?_
   rcases ite_some ht22 with ⟨c24, ht22⟩ | ⟨c24, ht22⟩
   · refine TL.off rfl rfl rfl rfl (not_t (c24)) rfl rfl ?_
     refine TL.off rfl rfl rfl rfl (not_t (c24)) rfl rfl ?_
     refine TL.off rfl rfl rfl rfl (not_t (c24)) rfl rfl ?_
     refine TL.op1 (OpR.pickF rfl (not_t (c24)) rfl) rfl ?_
     refine TL.nil ?_
     obtain rfl := Option.some.inj ht22
     exact ⟨_, Gst.only [0, 2, 3, 4, 5, 24] rfl, rfl⟩
   refine TL.on rfl rfl rfl rfl (not_f (eq_false_of_ne_true c24)) ?_
   refine aA rfl rfl ?_
   refine TL.on rfl rfl rfl rfl (not_f (eq_false_of_ne_true c24)) ?_
   obtain ⟨x25, hx25, ht22⟩ := bS ht22
   refine TL.op1 (OpR.call [0] fn226 (scan_reader_is_c hx25) rfl rfl rfl (fun _ => rfl)) rfl ?_
   refine TL.on rfl rfl rfl rfl (not_f (eq_false_of_ne_true c24)) ?_
   refine aA rfl rfl ?_
   refine TL.op1 (OpR.pickT rfl (not_f (eq_false_of_ne_true c24)) rfl) rfl ?_
   refine TL.nil ?_
   obtain rfl := Option.some.inj ht22
   exact ⟨_, Gst.only [0, 2, 3, 4, 5, 24] rfl, rfl⟩
 rintro _ rfl
 show T X _ _ _
 refine T.seq ?_
 refine aS ?_
 refine aA rfl rfl ?_
 obtain ⟨x27, hx27, q9⟩ := bS q9
 refine TL.op1 (OpR.call [0] fn192 (scan_reader_done_c hx27) rfl rfl rfl (fun _ => rfl)) rfl ?_
 refine aN rfl ?_
 rcases ite_some q9 with ⟨c28, q9⟩ | ⟨c28, q9⟩
 · refine T.condT rfl (c28) ?_
   refine aS ?_
   iterate 4 refine aA rfl rfl ?_
   refine TL.op1 (OpR.loadPtr 0 rfl rfl rfl rfl) rfl ?_
   obtain ⟨x29, hx29, q9⟩ := bS q9
   refine TL.op (OpR.call [1, 2] fn269 (scan_parts_add_2_c hx29) rfl rfl rfl (fun _ => rfl)) rfl (fun w30 => ?_)
   refine aN rfl ?_
   refine T.seq ?_
   refine T.drawQ drawsX [.val (vn w30 0), dN 4, .val (vn w30 0)] [0, 2, 3, 4, 5] (by decide +kernel) rfl ?_ rfl ?_
   · refine OpsQ.yes (Want.plain rfl) rfl (OpR.loadPtr 1 rfl rfl rfl rfl) ?_
     iterate 2 refine aB rfl rfl rfl ?_
     exact OpsQ.nil
   show T X _ _ _
   refine T.ret ?_
   obtain rfl := Option.some.inj q9
   obtain rfl : _ = _ := i10
   exact PostG.retP (ks := [0]) (Gst.trans (Gst.only [2, 3] rfl) (Gst.trans (Gst.freezeRow 2 rfl rfl (ReS.cons (Re.base .all) (ReS.cons Re.refl ReS.nil)) (ReO.same (ReO.var (ReL.cons (Re.base .all) ReL.nil) (ReO.same ReO.nil)))) (Gst.pick [0] rfl rfl))) undef (cT rfl (cT rfl ResL.nil)) rfl rfl rfl rfl
 refine T.condF rfl (eq_false_of_ne_true c28) ?_
 refine aK rfl ?_
 refine aS ?_
 iterate 3 refine aA rfl rfl ?_
 refine TL.op1 (OpR.loadPtr 0 rfl rfl rfl rfl) rfl ?_
 iterate 3 refine aA rfl rfl ?_
 refine TL.op0 (OpR.store 0 rfl rfl rfl rfl rfl rfl rfl rfl) ?_
 refine aN rfl ?_
 refine T.seq ?_
 refine aS ?_
 refine aA rfl rfl ?_
 obtain ⟨x32, hx32, q9⟩ := bS q9
 refine TL.op1 (OpR.call [0] fn226 (scan_reader_is_c hx32) rfl rfl rfl (fun _ => rfl)) rfl ?_
 refine aN rfl ?_
 rcases ite_some q9 with ⟨c33, q9⟩ | ⟨c33, q9⟩
 · refine T.condT rfl (c33) ?_
   refine aS ?_
   iterate 4 refine aA rfl rfl ?_
   refine TL.op1 (OpR.loadPtr 0 rfl rfl rfl rfl) rfl ?_
   obtain ⟨x34, hx34, q9⟩ := bS q9
   refine TL.op (OpR.call [1, 2] fn269 (scan_parts_add_2_c hx34) rfl rfl rfl (fun _ => rfl)) rfl (fun w35 => ?_)
   refine aN rfl ?_
   refine aS ?_
   iterate 3 refine aA rfl rfl ?_
   refine TL.op1 (OpR.loadPtr 0 rfl rfl rfl rfl) rfl ?_
   iterate 3 refine aA rfl rfl ?_
   refine TL.op0 (OpR.store 0 rfl rfl rfl rfl rfl rfl rfl rfl) ?_
   refine aN rfl ?_
   refine aS ?_
   iterate 3 refine aA rfl rfl ?_
   refine TL.op1 (OpR.loadPtr 0 rfl rfl rfl rfl) rfl ?_
   refine aA rfl rfl ?_
   refine aN rfl ?_
   refine T.goto ?_
   obtain rfl := Option.some.inj q9
   exact ⟨rfl, m7, Nat.lt_succ_self _, _, Gst.only [0, 2, 3, 4, 5] rfl, (vn w35 0), (w64 ((w64 (t13 + 1)) + 1), w64 ((w64 (t13 + 1)) + 1), x34), rfl, i10⟩
 refine T.condF rfl (eq_false_of_ne_true c33) ?_
 refine aK rfl ?_
 refine aS ?_
 iterate 4 refine aA rfl rfl ?_
 refine TL.op1 (OpR.loadPtr 0 rfl rfl rfl rfl) rfl ?_
 refine aA rfl rfl ?_
 obtain ⟨x36, hx36, q9⟩ := bS q9
 refine TL.op (OpR.call [1, 2] fn269 (scan_parts_add_2_c hx36) rfl rfl rfl (fun _ => rfl)) rfl (fun w37 => ?_)
 refine aN rfl ?_
 refine aS ?_
 iterate 3 refine aA rfl rfl ?_
 refine TL.op1 (OpR.loadPtr 0 rfl rfl rfl rfl) rfl ?_
 refine aA rfl rfl ?_
 refine aN rfl ?_
 refine aS ?_
 refine aA rfl rfl ?_
 obtain ⟨x38, hx38, q9⟩ := bS q9
 refine TL.op1 (OpR.call [0] fn270 (scan_reader_plain_c hx38) rfl rfl rfl (fun _ => rfl)) rfl ?_
 refine aN rfl ?_
 refine aS ?_
 iterate 4 refine aA rfl rfl ?_
 refine TL.op1 (OpR.loadPtr 0 rfl rfl rfl rfl) rfl ?_
 obtain ⟨x39, hx39, q9⟩ := bS q9
 refine TL.op (OpR.call [1, 2] fn269 (scan_parts_add_2_c hx39) rfl rfl rfl (fun _ => rfl)) rfl (fun w40 => ?_)
 refine aN rfl ?_
 refine T.seq ?_
 refine aS ?_
 iterate 3 refine aA rfl rfl ?_
 refine TL.op1 (OpR.loadPtr 0 rfl rfl rfl rfl) rfl ?_
 iterate 2 refine aA rfl rfl ?_
 refine aN rfl ?_
 rcases ite_some q9 with ⟨c41, q9⟩ | ⟨c41, q9⟩
 · refine T.condT rfl (decide_eq_true c41) ?_
   refine T.seq ?_
   refine T.drawQ drawsX [.val (vn w40 0), dN 3, .val (vn w40 0)] [0, 2, 3, 4, 5] (by decide +kernel) rfl ?_ rfl ?_
   · refine OpsQ.yes (Want.plain rfl) rfl (OpR.loadPtr 1 rfl rfl rfl rfl) ?_
     iterate 2 refine aB rfl rfl rfl ?_
     exact OpsQ.nil
   show T X _ _ _
   refine T.ret ?_
   obtain rfl := Option.some.inj q9
   obtain rfl : _ = _ := i10
   exact PostG.retP (ks := [0]) (Gst.trans (Gst.only [2, 3] rfl) (Gst.trans (Gst.freezeRow 2 rfl rfl (ReS.cons (Re.base .all) (ReS.cons Re.refl ReS.nil)) (ReO.same (ReO.var (ReL.cons (Re.base .all) ReL.nil) (ReO.same ReO.nil)))) (Gst.pick [0] rfl rfl))) undef (cT rfl (cT rfl ResL.nil)) rfl rfl rfl rfl
 refine T.condF rfl (decide_eq_false c41) ?_
 refine aK rfl ?_
 refine T.seq ?_
 refine T.drawQ drawsX [.val (vn w40 0), dN 1, .val (vn w40 0)] [0, 2, 3, 4, 5] (by decide +kernel) rfl ?_ rfl ?_
 · refine OpsQ.yes (Want.plain rfl) rfl (OpR.loadPtr 1 rfl rfl rfl rfl) ?_
   iterate 2 refine aB rfl rfl rfl ?_
   exact OpsQ.nil
 show T X _ _ _
 refine T.ret ?_
 obtain rfl := Option.some.inj q9
 obtain rfl : _ = _ := i10
 exact PostG.retP (ks := [0]) (Gst.trans (Gst.only [2, 3] rfl) (Gst.trans (Gst.freezeRow 2 rfl rfl (ReS.cons (Re.base .all) (ReS.cons Re.refl ReS.nil)) (ReO.same (ReO.var (ReL.cons (Re.base .all) ReL.nil) (ReO.same ReO.nil)))) (Gst.pick [0] rfl rfl))) undef (cT rfl (cT rfl ResL.nil)) rfl rfl rfl rfl
noncomputable def scan_parts_add (a0 : Int) (a1 : Int) : Option (List arena_Span) :=
  if a1 ≤ a0 then
    some []
  else
    if (w64 (0 - 1)) ≥ 0 then
      bnd (idx ([] : List arena_Span) (w64 (0 - 1))) fun x5 =>
      none
    else
      bnd (app 16 [] [(⟨a0, w64 (a1 - a0)⟩ : arena_Span)]) fun x7 =>
      some x7
theorem scan_parts_add_c {a0 : Int} {a1 : Int} {b0 : Nat} {res : (List arena_Span)} (h0 : scan_parts_add a0 a1 = some res) : CallF X 269 [dP b0, dN a0, dN a1] [.var b0 [.val (.slice none 0 0)] 359] (fun x => .tup []) (fun x => [.var b0 [.val (vn x 0)] 359, .row (vn x 0) (List.map e_arena_Span res) 2 142]) := by
 unfold scan_parts_add at h0
 refine CallF.mkG (X := X) rfl Tryz.func269 rfl rfl Tryz.ntmps269 rfl rfl ?_
 refine T.seq ?_
 refine aS ?_
 iterate 3 refine aA rfl rfl ?_
 refine aN rfl ?_
 rcases ite_some h0 with ⟨c1, h0⟩ | ⟨c1, h0⟩
 · refine T.condT rfl (decide_eq_true c1) ?_
   refine T.ret ?_
   obtain rfl := Option.some.inj h0
   exact PostG.retP (ks := [0, 1]) (Gst.trans (Gst.only [] rfl) (Gst.nilRow (ow := [.var b0 [.val (.slice none 0 0)] 359]) 2 142 rfl)) (.tuple #[(.slice none 0 0)]) ResL.nil rfl rfl rfl rfl
 refine T.condF rfl (decide_eq_false c1) ?_
 refine aK rfl ?_
 refine aS ?_
 iterate 4 refine aA rfl rfl ?_
 refine TL.op1 (OpR.build rfl rfl rfl rfl rfl) rfl ?_
 refine TL.op (OpR.alloc rfl rfl (fun _ => rfl)) rfl (fun p2 => ?_)
 refine TL.op0 (OpR.store 1 rfl rfl rfl rfl rfl rfl rfl rfl) ?_
 refine aN rfl ?_
 refine T.seq ?_
 refine aS ?_
 iterate 2 refine aA rfl rfl ?_
 refine TL.op1 (OpR.loadPtr 0 rfl rfl rfl rfl) rfl ?_
 iterate 3 refine aA rfl rfl ?_
 refine aN rfl ?_
 refine aS ?_
 iterate 2 refine aA rfl rfl ?_
 refine aN rfl ?_
 rcases ite_some h0 with ⟨c3, h0⟩ | ⟨c3, h0⟩
 · refine T.condT rfl (decide_eq_true c3) ?_
   refine T.seq ?_
   obtain ⟨x5, hx5, h0⟩ := bS h0
   exact (idx_nil hx5).elim
 refine T.condF rfl (decide_eq_false c3) ?_
 refine aK rfl ?_
 refine T.ghost (Gst.nilRow 2 142 rfl) ?_
 obtain ⟨x7, hx7, h0⟩ := bS h0
 refine T.drawS drawsX (fun env6 => [dP b0, dP b0, dP b0, .val (.slice none 0 0), .agg [dN a0, dN (w64 (a1 - a0))], .sl 2 (List.map e_arena_Span [(⟨a0, w64 (a1 - a0)⟩ : arena_Span)]), .val (env6 6), dP b0, .dead]) (fun D env6 => [(bif D 8 then .var b0 [.val (env6 6)] 359 else .var b0 [.val (.slice none 0 0)] 359), .var (blk p2) [dN a0, dN (w64 (a1 - a0))] 142, (bif D 6 then .row (env6 6) (List.map e_arena_Span x7) 2 142 else .row (.slice none 0 0) (List.map e_arena_Span []) 2 142)]) [0, 0, 2, 6, 0, 16, 62, 127, 255] [] _ (by decide +kernel) (by decide +kernel) (fun _ => rfl) (fun _ => rfl) ?_ (fun _ => rfl) (fun _ => rfl) ?_
 rotate_left
 · intro env6
   obtain rfl := Option.some.inj h0
   exact PostG.finP (ks := [0, 1]) (gP [] [0, 2] rfl rfl rfl) (.tuple #[(env6 6)]) ResL.nil rfl rfl rfl rfl
 iterate 3 refine aC ?_
 refine OpsS.cons' true ?_ (fun _ _ _ _ _ _ _ => rfl) ?_
 · intro D env6 hA
   have e6 : D 6 = false := hA.no 6 _ rfl rfl
   have e8 : D 8 = false := hA.no 8 _ rfl rfl
   exact OpS.yp [(6, false), (8, false)] ⟨e6, e8, trivial⟩ (Want.plain rfl) (OpR.loadPtr 0 rfl rfl rfl rfl) (fun x => rfl) (fun x => rfl)
 refine oT (.agg [dN a0, dN (w64 (a1 - a0))]) (fun _ _ => OpR.loadPtr 1 rfl rfl rfl rfl) ?_
 refine oT (.sl 2 (List.map e_arena_Span [(⟨a0, w64 (a1 - a0)⟩ : arena_Span)])) (fun _ _ => OpR.lit rfl rfl rfl rfl rfl rfl rfl) ?_
 refine OpsS.cons' true ?_ (fun D hA env6 x j hj hD => match j, hj, hD with | 0, _, _ => rfl | 1, _, _ => rfl | 2, _, _ => rfl | 3, _, _ => rfl | 4, _, _ => rfl | 5, _, _ => rfl | 6, hj, _ => absurd rfl hj | 7, _, _ => rfl | 8, _, _ => rfl | _ + 9, _, _ => rfl) ?_
 · intro D env6 hA
   have e8 : D 8 = false := hA.no 8 _ rfl rfl
   exact OpS.yp [(8, false), (6, false)] ⟨e8, hA.me, trivial⟩ (Want.plain rfl) (OpR.appendM (m := [(⟨a0, w64 (a1 - a0)⟩ : arena_Span)]) e_arena_Span 2 hx7 rfl rfl rfl rfl rfl rfl rfl rfl rfl (fun _ => rfl)) (fun x => rfl) (fun x => rfl)
 refine aC ?_
 refine OpsS.cons' true ?_ (fun _ _ _ _ _ _ _ => rfl) ?_
 · intro D env6 hA
   have e6 : D 6 = true := hA.yes 6 _ rfl rfl
   exact OpS.yp [(6, true), (8, false)] ⟨e6, hA.me, trivial⟩ (Want.plain rfl) (OpR.store 0 rfl rfl rfl rfl rfl rfl rfl rfl) (fun x => rfl) (fun x => rfl)
 exact trivial
noncomputable def scan_reader_bare (a0 : List UInt8) (a1 : Int) : Option (Int × (List arena_Span) × Int) :=
  bnd (scan_reader_plain a0 a1) fun x2 =>
  bnd (scan_parts_add a1 x2.2) fun x3 =>
  if x2.1 = true then
    some (2, x3, x2.2)
  else
    some (0, x3, x2.2)
theorem scan_reader_bare_c {a0 : List UInt8} {a1 : Int} {b0 : Nat} {res : Int × (List arena_Span) × Int} (h0 : scan_reader_bare a0 a1 = some res) : CallF X 253 [dP b0] [.var b0 [.sl 1 (lB a0), dN a1] 267] (fun x => .tup [dN res.1, .sl 2 (List.map e_arena_Span res.2.1)]) (fun x => [.var b0 [.sl 1 (lB a0), dN res.2.2] 267]) := by
 unfold scan_reader_bare at h0
 refine CallF.mkG (X := X) rfl Tryz.func253 rfl rfl Tryz.ntmps253 rfl rfl ?_
 refine aS ?_
 iterate 2 refine aA rfl rfl ?_
 refine aN rfl ?_
 refine aS ?_
 refine TL.op (OpR.alloc rfl rfl (fun _ => rfl)) rfl (fun p1 => ?_)
 refine aN rfl ?_
 refine aS ?_
 iterate 3 refine aA rfl rfl ?_
 refine TL.op1 (OpR.loadPtr 0 rfl rfl rfl rfl) rfl ?_
 refine aA rfl rfl ?_
 refine aN rfl ?_
 refine aS ?_
 refine aA rfl rfl ?_
 obtain ⟨x2, hx2, h0⟩ := bS h0
 refine TL.op1 (OpR.call [0] fn270 (scan_reader_plain_c hx2) rfl rfl rfl (fun _ => rfl)) rfl ?_
 refine aA rfl rfl ?_
 refine aN rfl ?_
 refine aS ?_
 iterate 4 refine aA rfl rfl ?_
 refine TL.op1 (OpR.loadPtr 0 rfl rfl rfl rfl) rfl ?_
 obtain ⟨x3, hx3, h0⟩ := bS h0
 refine TL.op (OpR.call [1] fn269 (scan_parts_add_c hx3) rfl rfl rfl (fun _ => rfl)) rfl (fun w4 => ?_)
 refine aN rfl ?_
 refine T.seq ?_
 refine aS ?_
 refine aA rfl rfl ?_
 refine aN rfl ?_
 rcases ite_some h0 with ⟨c5, h0⟩ | ⟨c5, h0⟩
 · refine T.condT rfl (c5) ?_
   refine T.seq ?_
   refine T.drawQ drawsX [.val (vn w4 0), dN 2, .val (vn w4 0)] [2, 3, 4] (by decide +kernel) rfl ?_ rfl ?_
   · refine OpsQ.yes (Want.plain rfl) rfl (OpR.loadPtr 1 rfl rfl rfl rfl) ?_
     iterate 2 refine aB rfl rfl rfl ?_
     exact OpsQ.nil
   show T X _ _ _
   refine T.ret ?_
   obtain rfl := Option.some.inj h0
   exact PostG.retP (ks := [0]) (Gst.trans (Gst.only [2, 3] rfl) (Gst.trans (Gst.freezeRow 2 rfl rfl (ReS.cons (Re.base .all) (ReS.cons Re.refl ReS.nil)) (ReO.same (ReO.var (ReL.cons (Re.base .all) ReL.nil) (ReO.same ReO.nil)))) (Gst.pick [0] rfl rfl))) undef (cT rfl (cT rfl ResL.nil)) rfl rfl rfl rfl
 refine T.condF rfl (eq_false_of_ne_true c5) ?_
 refine aK rfl ?_
 refine T.seq ?_
 refine T.drawQ drawsX [.val (vn w4 0), dN 0, .val (vn w4 0)] [2, 3] (by decide +kernel) rfl ?_ rfl ?_
 · refine OpsQ.yes (Want.plain rfl) rfl (OpR.loadPtr 1 rfl rfl rfl rfl) ?_
   iterate 2 refine aB rfl rfl rfl ?_
   exact OpsQ.nil
 show T X _ _ _
 refine T.ret ?_
 obtain rfl := Option.some.inj h0
 exact PostG.retP (ks := [0]) (Gst.trans (Gst.only [2, 3] rfl) (Gst.trans (Gst.freezeRow 2 rfl rfl (ReS.cons (Re.base .all) (ReS.cons Re.refl ReS.nil)) (ReO.same (ReO.var (ReL.cons (Re.base .all) ReL.nil) (ReO.same ReO.nil)))) (Gst.pick [0] rfl rfl))) undef (cT rfl (cT rfl ResL.nil)) rfl rfl rfl rfl
noncomputable def scan_reader_field (a0 : List UInt8) (a1 : Int) : Option (scan_Field × Int) :=
  bnd (scan_reader_is 34 a0 a1) fun x3 =>
  bnd (if x3 = true then
    bnd (scan_reader_quoted a0 a1) fun x6 =>
    some (x6.2.2, x6.1, x6.2.1)
  else
    bnd (scan_reader_bare a0 a1) fun x7 =>
    some (x7.2.2, x7.1, x7.2.1) : Option (Int × Int × (List arena_Span))) fun t4 =>
  some ((⟨(⟨a1, w64 (t4.1 - a1)⟩ : arena_Span), t4.2.1, t4.2.2⟩ : scan_Field), t4.1)
theorem scan_reader_field_c {a0 : List UInt8} {a1 : Int} {b0 : Nat} {res : scan_Field × Int} (h0 : scan_reader_field a0 a1 = some res) : CallF X 225 [dP b0] [.var b0 [.sl 1 (lB a0), dN a1] 267] (fun x => .agg [dN res.1.fRaw.fAt, dN res.1.fRaw.fN, dN res.1.fKind, .sl 2 (List.map e_arena_Span res.1.fParts)]) (fun x => [.var b0 [.sl 1 (lB a0), dN res.2] 267]) := by
 unfold scan_reader_field at h0
 refine CallF.mkG (X := X) rfl Tryz.func225 rfl rfl Tryz.ntmps225 rfl rfl ?_
 refine aS ?_
 refine TL.op (OpR.alloc rfl rfl (fun _ => rfl)) rfl (fun p1 => ?_)
 refine aN rfl ?_
 refine aS ?_
 iterate 3 refine aA rfl rfl ?_
 refine TL.op1 (OpR.loadPtr 0 rfl rfl rfl rfl) rfl ?_
 refine aA rfl rfl ?_
 refine aN rfl ?_
 refine aS ?_
 refine TL.op (OpR.alloc rfl rfl (fun _ => rfl)) rfl (fun p2 => ?_)
 refine aN rfl ?_
 refine T.seq ?_
 refine aS ?_
 refine aA rfl rfl ?_
 obtain ⟨x3, hx3, h0⟩ := bS h0
 refine TL.op1 (OpR.call [0] fn226 (scan_reader_is_c hx3) rfl rfl rfl (fun _ => rfl)) rfl ?_
 refine aN rfl ?_
 obtain ⟨t4, ht4, h0⟩ := bS h0
 refine T.cutC (fun S' => S' = ⟨[(4, (dP (blk p2))), (3, (dN a1)), (2, (dP (blk p1))), (0, (dP b0))], [.var b0 [.sl 1 (lB a0), dN t4.1] 267, .var (blk p1) [dN 0, dN 0, dN 0, .val (.slice none 0 0)] 270, .var (blk p2) [dN 0, dN 0, dN t4.2.1, .sl 2 (List.map e_arena_Span t4.2.2)] 270], 35⟩) (fun _ h => h) ?_ ?_
 rotate_left
 · rintro _ rfl
   show T X _ _ _
   refine aS ?_
   iterate 4 refine aA rfl rfl ?_
   refine TL.op1 (OpR.loadPtr 0 rfl rfl rfl rfl) rfl ?_
   iterate 2 refine aA rfl rfl ?_
   refine TL.op1 (OpR.build rfl rfl rfl rfl rfl) rfl ?_
   refine aA rfl rfl ?_
   refine TL.op0 (OpR.store 2 rfl rfl rfl rfl rfl rfl rfl rfl) ?_
   refine aN rfl ?_
   refine aS ?_
   refine TL.op1 (OpR.loadPtr 2 rfl rfl rfl rfl) rfl ?_
   refine TL.op0 (OpR.store 1 rfl rfl rfl rfl rfl rfl rfl rfl) ?_
   refine aN rfl ?_
   refine T.ret ?_
   obtain rfl := Option.some.inj h0
   exact rP [0] [2] [0, 1] rfl rfl rfl undef (cV 1 rfl rfl rfl rfl ResL.nil) rfl rfl rfl rfl
 rcases ite_some ht4 with ⟨c5, ht4⟩ | ⟨c5, ht4⟩
 · refine T.condT rfl (c5) ?_
   refine T.region ?_
   refine aA rfl rfl ?_
   obtain ⟨x6, hx6, ht4⟩ := bS ht4
   refine TL.op1 (OpR.call [0] fn252 (scan_reader_quoted_c hx6) rfl rfl rfl (fun _ => rfl)) rfl ?_
   iterate 4 refine aA rfl rfl ?_
   refine TL.op0 (OpR.store 2 rfl rfl rfl rfl rfl rfl rfl rfl) ?_
   refine aA rfl rfl ?_
   refine TL.op0 (OpR.store 2 rfl rfl rfl rfl rfl rfl rfl rfl) ?_
   refine TL.nil ?_
   obtain rfl := Option.some.inj ht4
   exact ⟨_, Gst.only [0, 2, 3, 4] rfl, rfl⟩
 refine T.condF rfl (eq_false_of_ne_true c5) ?_
 refine T.region ?_
 refine aA rfl rfl ?_
 obtain ⟨x7, hx7, ht4⟩ := bS ht4
 refine TL.op1 (OpR.call [0] fn253 (scan_reader_bare_c hx7) rfl rfl rfl (fun _ => rfl)) rfl ?_
 iterate 4 refine aA rfl rfl ?_
 refine TL.op0 (OpR.store 2 rfl rfl rfl rfl rfl rfl rfl rfl) ?_
 refine aA rfl rfl ?_
 refine TL.op0 (OpR.store 2 rfl rfl rfl rfl rfl rfl rfl rfl) ?_
 refine TL.nil ?_
 obtain rfl := Option.some.inj ht4
 exact ⟨_, Gst.only [0, 2, 3, 4] rfl, rfl⟩
noncomputable def scan_reader_end (a0 : List UInt8) (a1 : Int) : Option (Int × Int) :=
  bnd (scan_reader_is 10 a0 a1) fun x1 =>
  if x1 = true then
    some (1, w64 (a1 + 1))
  else
    bnd (scan_reader_is 13 a0 a1) fun x3 =>
    if x3 = true then
      bnd (scan_reader_is 10 a0 (w64 (a1 + 1))) fun x5 =>
      if x5 = true then
        some (2, w64 ((w64 (a1 + 1)) + 1))
      else
        some (3, w64 (a1 + 1))
    else
      some (0, a1)
theorem scan_reader_end_c {a0 : List UInt8} {a1 : Int} {b0 : Nat} {res : Int × Int} (h0 : scan_reader_end a0 a1 = some res) : CallF X 227 [dP b0] [.var b0 [.sl 1 (lB a0), dN a1] 267] (fun x => (dN res.1)) (fun x => [.var b0 [.sl 1 (lB a0), dN res.2] 267]) := by
 unfold scan_reader_end at h0
 refine CallF.mkG (X := X) rfl Tryz.func227 rfl rfl Tryz.ntmps227 rfl rfl ?_
 refine aS ?_
 refine aA rfl rfl ?_
 refine aN rfl ?_
 refine T.seq ?_
 refine T.block ?_
 refine aS ?_
 refine aA rfl rfl ?_
 obtain ⟨x1, hx1, h0⟩ := bS h0
 refine TL.op1 (OpR.call [0] fn226 (scan_reader_is_c hx1) rfl rfl rfl (fun _ => rfl)) rfl ?_
 refine aA rfl rfl ?_
 refine aN rfl ?_
 rcases ite_some h0 with ⟨c2, h0⟩ | ⟨c2, h0⟩
 · refine T.condT rfl (c2) ?_
   refine aS ?_
   iterate 3 refine aA rfl rfl ?_
   refine TL.op1 (OpR.loadPtr 0 rfl rfl rfl rfl) rfl ?_
   iterate 3 refine aA rfl rfl ?_
   refine TL.op0 (OpR.store 0 rfl rfl rfl rfl rfl rfl rfl rfl) ?_
   refine aN rfl ?_
   refine aS ?_
   refine aA rfl rfl ?_
   refine aN rfl ?_
   refine T.ret ?_
   obtain rfl := Option.some.inj h0
   exact rO [0] [2] rfl undef (cT rfl ResL.nil) rfl rfl rfl rfl
 refine T.condF rfl (eq_false_of_ne_true c2) ?_
 refine aS ?_
 refine aA rfl rfl ?_
 obtain ⟨x3, hx3, h0⟩ := bS h0
 refine TL.op1 (OpR.call [0] fn226 (scan_reader_is_c hx3) rfl rfl rfl (fun _ => rfl)) rfl ?_
 refine aA rfl rfl ?_
 refine aN rfl ?_
 rcases ite_some h0 with ⟨c4, h0⟩ | ⟨c4, h0⟩
 rotate_left
 · refine T.condF rfl (eq_false_of_ne_true c4) ?_
   refine aK rfl ?_
   refine aS ?_
   refine aA rfl rfl ?_
   refine aN rfl ?_
   refine T.ret ?_
   obtain rfl := Option.some.inj h0
   exact rO [0] [2] rfl undef (cT rfl ResL.nil) rfl rfl rfl rfl
 refine T.condT rfl (c4) ?_
 refine aS ?_
 iterate 3 refine aA rfl rfl ?_
 refine TL.op1 (OpR.loadPtr 0 rfl rfl rfl rfl) rfl ?_
 iterate 3 refine aA rfl rfl ?_
 refine TL.op0 (OpR.store 0 rfl rfl rfl rfl rfl rfl rfl rfl) ?_
 refine aN rfl ?_
 refine T.seq ?_
 refine aS ?_
 refine aA rfl rfl ?_
 obtain ⟨x5, hx5, h0⟩ := bS h0
 refine TL.op1 (OpR.call [0] fn226 (scan_reader_is_c hx5) rfl rfl rfl (fun _ => rfl)) rfl ?_
 refine aN rfl ?_
 rcases ite_some h0 with ⟨c6, h0⟩ | ⟨c6, h0⟩
 rotate_left
 · refine T.condF rfl (eq_false_of_ne_true c6) ?_
   refine aK rfl ?_
   refine aS ?_
   refine aA rfl rfl ?_
   refine aN rfl ?_
   refine T.ret ?_
   obtain rfl := Option.some.inj h0
   exact rO [0] [2] rfl undef (cT rfl ResL.nil) rfl rfl rfl rfl
 refine T.condT rfl (c6) ?_
 refine aS ?_
 iterate 3 refine aA rfl rfl ?_
 refine TL.op1 (OpR.loadPtr 0 rfl rfl rfl rfl) rfl ?_
 iterate 3 refine aA rfl rfl ?_
 refine TL.op0 (OpR.store 0 rfl rfl rfl rfl rfl rfl rfl rfl) ?_
 refine aN rfl ?_
 refine aS ?_
 refine aA rfl rfl ?_
 refine aN rfl ?_
 refine T.ret ?_
 obtain rfl := Option.some.inj h0
 exact rO [0] [2] rfl undef (cT rfl ResL.nil) rfl rfl rfl rfl
noncomputable def scan_reader_row.l1 (a0 : List UInt8) (s8 : Int × (List scan_Field)) : Option (Lp (Int × (List scan_Field)) (Int × (List scan_Field))) :=
  bnd (scan_reader_is 44 a0 s8.1) fun x16 =>
  if x16 = true then
    bnd (scan_reader_field a0 (w64 (s8.1 + 1))) fun x19 =>
    bnd (app 48 s8.2 [x19.1]) fun x20 =>
    some (Lp.next (x19.2, x20))
  else
    some (Lp.done (s8.1, s8.2))
noncomputable def scan_reader_row (a0 : List UInt8) (a1 : Int) : Option (scan_Row × Int) :=
  bnd (scan_reader_field a0 a1) fun x2 =>
  bnd (loop (scan_reader_row.l1 a0) (x2.2, [x2.1]) : Option (Int × (List scan_Field))) fun t5 =>
  bnd (scan_reader_end a0 t5.1) fun x21 =>
  some ((⟨t5.2, x21.1⟩ : scan_Row), x21.2)
theorem scan_reader_row_c {a0 : List UInt8} {a1 : Int} {b0 : Nat} {res : scan_Row × Int} (h0 : scan_reader_row a0 a1 = some res) : CallF X 193 [dP b0] [.var b0 [.sl 1 (lB a0), dN a1] 267] (fun x => .agg [.sl 4 (List.map e_scan_Field res.1.fFields), dN res.1.fEnd]) (fun x => [.var b0 [.sl 1 (lB a0), dN res.2] 267]) := by
 unfold scan_reader_row at h0
 refine CallF.mkG (X := X) rfl Tryz.func193 rfl rfl Tryz.ntmps193 rfl rfl ?_
 refine aS ?_
 refine TL.op (OpR.alloc rfl rfl (fun _ => rfl)) rfl (fun p1 => ?_)
 refine aN rfl ?_
 refine aS ?_
 refine aA rfl rfl ?_
 obtain ⟨x2, hx2, h0⟩ := bS h0
 refine TL.op1 (OpR.call [0] fn225 (scan_reader_field_c hx2) rfl rfl rfl (fun _ => rfl)) rfl ?_
 refine TL.op (OpR.litRow rfl rfl rfl rfl rfl rfl rfl rfl (fun _ => rfl)) rfl (fun v3 => ?_)
 refine TL.op1 (OpR.build rfl rfl rfl rfl rfl) rfl ?_
 refine TL.op (OpR.alloc rfl rfl (fun _ => rfl)) rfl (fun p4 => ?_)
 refine TL.op0 (OpR.store 3 rfl rfl rfl rfl rfl rfl rfl rfl) ?_
 refine aN rfl ?_
 refine T.seq ?_
 obtain ⟨t5, ht5, h0⟩ := bS h0
 refine T.cutC (fun S' => ∃ y6 : Value, S' = ⟨[(3, (dP (blk p4))), (2, (dP (blk p1))), (0, (dP b0))], [.var b0 [.sl 1 (lB a0), dN t5.1] 267, .var (blk p1) [.val (.slice none 0 0), dN 0] 202, .var (blk p4) [.val y6, dN 0] 202, .row y6 (List.map e_scan_Field t5.2) 4 270], 28⟩) (fun _ h => h) ?_ ?_
 rotate_left
 · rintro _ ⟨y6, rfl⟩
   show T X _ _ _
   refine aS ?_
   refine aA rfl rfl ?_
   obtain ⟨x21, hx21, h0⟩ := bS h0
   refine TL.op1 (OpR.call [0] fn227 (scan_reader_end_c hx21) rfl rfl rfl (fun _ => rfl)) rfl ?_
   refine aA rfl rfl ?_
   refine TL.op0 (OpR.store 2 rfl rfl rfl rfl rfl rfl rfl rfl) ?_
   refine aN rfl ?_
   refine aS ?_
   refine TL.op1 (OpR.loadPtr 2 rfl rfl rfl rfl) rfl ?_
   refine TL.op0 (OpR.store 1 rfl rfl rfl rfl rfl rfl rfl rfl) ?_
   refine aN rfl ?_
   refine T.ret ?_
   obtain rfl := Option.some.inj h0
   exact PostG.retP (ks := [0]) (Gst.trans (Gst.only [2] rfl) (Gst.trans (Gst.freezeRow 3 rfl rfl (ReS.cons Re.refl ReS.nil) (ReO.same (ReO.var (ReL.cons (Re.base .all) (ReL.cons Re.refl ReL.nil)) (ReO.var (ReL.cons (Re.base .all) (ReL.cons Re.refl ReL.nil)) (ReO.same ReO.nil))))) (Gst.pick [0, 1] rfl rfl))) undef (cV 1 rfl rfl rfl rfl ResL.nil) rfl rfl rfl rfl
 refine T.block ?_
 obtain ⟨n9, n14⟩ := loop_some ht5
 refine T.loop (fun n S' => ∃ S'', Gst S' S'' ∧ ∃ y7 : Value, ∃ s8 : Int × (List scan_Field), S'' = ⟨[(3, (dP (blk p4))), (2, (dP (blk p1))), (0, (dP b0))], [.var b0 [.sl 1 (lB a0), dN s8.1] 267, .var (blk p1) [.val (.slice none 0 0), dN 0] 202, .var (blk p4) [.val y7, dN 0] 202, .row y7 (List.map e_scan_Field s8.2) 4 270], 28⟩ ∧ iter (scan_reader_row.l1 a0) n s8 = some t5) n9 ?_ ?_
 · exact ⟨_, gP [0, 2, 3] [0, 1, 3, 2] rfl rfl rfl, v3, (x2.2, [x2.1]), rfl, n14⟩
 rintro n9 _ ⟨_, g, y7, s8, rfl, i13⟩
 refine T.ghost g ?_
 obtain ⟨m10, q11, rfl, q12, i13⟩ := iter_succ i13
 unfold scan_reader_row.l1 at q12
 refine T.seq ?_
 refine aS ?_
 refine aA rfl rfl ?_
 obtain ⟨x16, hx16, q12⟩ := bS q12
 refine TL.op1 (OpR.call [0] fn226 (scan_reader_is_c hx16) rfl rfl rfl (fun _ => rfl)) rfl ?_
 refine aN rfl ?_
 rcases ite_some q12 with ⟨c17, q12⟩ | ⟨c17, q12⟩
 rotate_left
 · refine T.condF rfl (eq_false_of_ne_true c17) ?_
   refine T.exit ?_
   obtain rfl := Option.some.inj q12
   obtain rfl : _ = _ := i13
   exact ⟨_, Gst.only [0, 2, 3] rfl, y7, rfl⟩
 refine T.condT rfl (c17) ?_
 refine aK rfl ?_
 refine T.block ?_
 refine aS ?_
 iterate 3 refine aA rfl rfl ?_
 refine TL.op1 (OpR.loadPtr 0 rfl rfl rfl rfl) rfl ?_
 iterate 3 refine aA rfl rfl ?_
 refine TL.op0 (OpR.store 0 rfl rfl rfl rfl rfl rfl rfl rfl) ?_
 refine aN rfl ?_
 obtain ⟨x19, hx19, q12⟩ := bS q12
 obtain ⟨x20, hx20, q12⟩ := bS q12
 refine T.drawS drawsX (fun env18 => [dP (blk p4), .val y7, dP b0, .agg [dN x19.1.fRaw.fAt, dN x19.1.fRaw.fN, dN x19.1.fKind, .sl 2 (List.map e_arena_Span x19.1.fParts)], .sl 4 (List.map e_scan_Field [x19.1]), .val (env18 5), dP (blk p4), .dead]) (fun D env18 => [(bif D 3 then .var b0 [.sl 1 (lB a0), dN x19.2] 267 else .var b0 [.sl 1 (lB a0), dN (w64 (s8.1 + 1))] 267), .var (blk p1) [.val (.slice none 0 0), dN 0] 202, (bif D 7 then .var (blk p4) [.val (env18 5), dN 0] 202 else .var (blk p4) [.val y7, dN 0] 202), (bif D 5 then .row (env18 5) (List.map e_scan_Field x20) 4 270 else .row y7 (List.map e_scan_Field s8.2) 4 270)]) [0, 1, 0, 4, 12, 31, 63, 127] [0, 2, 3] _ (by decide +kernel) (by decide +kernel) (fun _ => rfl) (fun _ => rfl) ?_ (fun _ => rfl) (fun _ => rfl) ?_
 rotate_left
 · intro env18
   obtain rfl := Option.some.inj q12
   exact ⟨m10, Nat.lt_succ_self _, _, Gst.only [0, 2, 3] rfl, (env18 5), (x19.2, x20), rfl, i13⟩
 refine aC ?_
 refine OpsS.cons' true ?_ (fun _ _ _ _ _ _ _ => rfl) ?_
 · intro D env18 hA
   have e5 : D 5 = false := hA.no 5 _ rfl rfl
   have e7 : D 7 = false := hA.no 7 _ rfl rfl
   rcases Bool.eq_false_or_eq_true (D 3) with e3 | e3
   · exact OpS.yp [(5, false), (7, false), (3, true)] ⟨e5, e7, e3, trivial⟩ (Want.plain rfl) (OpR.loadPtr 2 rfl rfl rfl rfl) (fun x => rfl) (fun x => rfl)
   exact OpS.yp [(5, false), (7, false), (3, false)] ⟨e5, e7, e3, trivial⟩ (Want.plain rfl) (OpR.loadPtr 2 rfl rfl rfl rfl) (fun x => rfl) (fun x => rfl)
 refine aC ?_
 refine OpsS.cons' true ?_ (fun _ _ _ _ _ _ _ => rfl) ?_
 · intro D env18 hA
   have e5 : D 5 = false := hA.no 5 _ rfl rfl
   have e7 : D 7 = false := hA.no 7 _ rfl rfl
   exact OpS.yp [(5, false), (7, false), (3, false)] ⟨e5, e7, hA.me, trivial⟩ (Want.plain rfl) (OpR.call [0] fn225 (scan_reader_field_c hx19) rfl rfl rfl (fun _ => rfl)) (fun x => rfl) (fun x => rfl)
 refine oT (.sl 4 (List.map e_scan_Field [x19.1])) (fun _ _ => OpR.lit rfl rfl rfl rfl rfl rfl rfl) ?_
 refine OpsS.cons' true ?_ (fun D hA env18 x j hj hD => match j, hj, hD with | 0, _, _ => rfl | 1, _, _ => rfl | 2, _, _ => rfl | 3, _, _ => rfl | 4, _, _ => rfl | 5, hj, _ => absurd rfl hj | 6, _, _ => rfl | 7, _, _ => rfl | _ + 8, _, _ => rfl) ?_
 · intro D env18 hA
   have e3 : D 3 = true := hA.yes 3 _ rfl rfl
   have e7 : D 7 = false := hA.no 7 _ rfl rfl
   exact OpS.yp [(3, true), (7, false), (5, false)] ⟨e3, e7, hA.me, trivial⟩ (Want.plain rfl) (OpR.appendM (m := [x19.1]) e_scan_Field 3 hx20 rfl rfl rfl rfl rfl rfl rfl rfl rfl (fun _ => rfl)) (fun x => rfl) (fun x => rfl)
 refine aC ?_
 refine OpsS.cons' true ?_ (fun _ _ _ _ _ _ _ => rfl) ?_
 · intro D env18 hA
   have e3 : D 3 = true := hA.yes 3 _ rfl rfl
   have e5 : D 5 = true := hA.yes 5 _ rfl rfl
   exact OpS.yp [(3, true), (5, true), (7, false)] ⟨e3, e5, hA.me, trivial⟩ (Want.plain rfl) (OpR.store 2 rfl rfl rfl rfl rfl rfl rfl rfl) (fun x => rfl) (fun x => rfl)
 exact trivial
noncomputable def scan_All.l1 (a0 : List UInt8) (s5 : (List scan_Row) × Int) : Option (Lp ((List scan_Row) × Int) (List scan_Row)) :=
  bnd (scan_reader_done a0 s5.2) fun x13 =>
  if x13 = true then
    some (Lp.done s5.1)
  else
    bnd (scan_reader_row a0 s5.2) fun x15 =>
    bnd (app 32 s5.1 [x15.1]) fun x16 =>
    some (Lp.next (x16, x15.2))
noncomputable def scan_All (a0 : List UInt8) : Option (List scan_Row) :=
  bnd (loop (scan_All.l1 a0) ([], 0) : Option (List scan_Row)) fun t2 =>
  some t2
theorem scan_All_c {a0 : List UInt8} {res : (List scan_Row)} (h0 : scan_All a0 = some res) : CallF X 130 [.sl 1 (lB a0)] [] (fun x => .sl 2 (List.map e_scan_Row res)) (fun x => []) := by
 unfold scan_All at h0
 refine CallF.mkG (X := X) rfl Tryz.func130 rfl rfl Tryz.ntmps130 rfl rfl ?_
 refine aS ?_
 refine aA rfl rfl ?_
 refine aN rfl ?_
 refine aS ?_
 refine aA rfl rfl ?_
 refine aN rfl ?_
 refine T.seq ?_
 refine aS ?_
 refine aA rfl rfl ?_
 refine TL.op1 (OpR.build rfl rfl rfl rfl rfl) rfl ?_
 refine TL.op (OpR.boxVar rfl rfl (fun _ => rfl)) rfl (fun p1 => ?_)
 refine aA rfl rfl ?_
 refine aN rfl ?_
 obtain ⟨t2, ht2, h0⟩ := bS h0
 refine T.cutC (fun S' => ∃ y3 : Value, S' = ⟨[(3, .val y3), (2, .val (.slice none 0 0))], [.row y3 (List.map e_scan_Row t2) 2 202], 17⟩) (fun _ h => h) ?_ ?_
 rotate_left
 · rintro _ ⟨y3, rfl⟩
   show T X _ _ _
   refine aS ?_
   iterate 2 refine aA rfl rfl ?_
   refine aN rfl ?_
   refine T.ret ?_
   obtain rfl := Option.some.inj h0
   exact PostG.retP (ks := []) (Gst.trans (Gst.only [2] rfl) (Gst.trans (Gst.freezeRow 0 rfl rfl (ReS.cons (Re.base .all) ReS.nil) (ReO.same ReO.nil)) (Gst.pick [] rfl rfl))) undef (cT rfl ResL.nil) rfl rfl rfl rfl
 refine T.block ?_
 obtain ⟨n6, n11⟩ := loop_some ht2
 refine T.loop (fun n S' => ∃ S'', Gst S' S'' ∧ ∃ y4 : Value, ∃ s5 : (List scan_Row) × Int, S'' = ⟨[(4, (dP (blk p1))), (3, .val y4), (2, .val (.slice none 0 0))], [.row y4 (List.map e_scan_Row s5.1) 2 202, .var (blk p1) [.sl 1 (lB a0), dN s5.2] 267], 17⟩ ∧ iter (scan_All.l1 a0) n s5 = some t2) n6 ?_ ?_
 · exact ⟨_, Gst.trans (Gst.only [2, 3, 4] rfl) (Gst.trans (Gst.nilRow (ow := [.var (blk p1) [.sl 1 (lB a0), dN 0] 267]) 2 202 rfl) (Gst.pick [1, 0] rfl rfl)), (.slice none 0 0), ([], 0), rfl, n11⟩
 rintro n6 _ ⟨_, g, y4, s5, rfl, i10⟩
 refine T.ghost g ?_
 obtain ⟨m7, q8, rfl, q9, i10⟩ := iter_succ i10
 unfold scan_All.l1 at q9
 refine T.seq ?_
 refine aS ?_
 refine aA rfl rfl ?_
 obtain ⟨x13, hx13, q9⟩ := bS q9
 refine TL.op1 (OpR.call [1] fn192 (scan_reader_done_c hx13) rfl rfl rfl (fun _ => rfl)) rfl ?_
 refine aA rfl rfl ?_
 refine aN rfl ?_
 rcases ite_some q9 with ⟨c14, q9⟩ | ⟨c14, q9⟩
 · refine T.condF rfl (not_t (c14)) ?_
   refine T.exit ?_
   obtain rfl := Option.some.inj q9
   obtain rfl : _ = _ := i10
   exact ⟨_, gP [2, 3] [0] rfl rfl rfl, y4, rfl⟩
 refine T.condT rfl (not_f (eq_false_of_ne_true c14)) ?_
 refine aK rfl ?_
 refine T.block ?_
 refine T.region ?_
 iterate 2 refine aA rfl rfl ?_
 obtain ⟨x15, hx15, q9⟩ := bS q9
 refine TL.op1 (OpR.call [1] fn193 (scan_reader_row_c hx15) rfl rfl rfl (fun _ => rfl)) rfl ?_
 refine TL.op1 (OpR.lit rfl rfl rfl rfl rfl rfl rfl) rfl ?_
 obtain ⟨x16, hx16, q9⟩ := bS q9
 refine TL.op (OpR.appendM (m := [x15.1]) e_scan_Row 0 hx16 rfl rfl rfl rfl rfl rfl rfl rfl rfl (fun _ => rfl)) rfl (fun v17 => ?_)
 refine aA rfl rfl ?_
 refine TL.nil ?_
 obtain rfl := Option.some.inj q9
 exact ⟨m7, Nat.lt_succ_self _, _, Gst.only [2, 3, 4] rfl, v17, (x16, x15.2), rfl, i10⟩
noncomputable def arena_New_2 : Option (Int × (List UInt8)) :=
  bnd ((mkc 1 0 : Option (List UInt8))) fun x1 =>
  some (0, x1)
theorem arena_New_2_c {res : Int × (List UInt8)} (h0 : arena_New_2 = some res) : CallF X 128 [.val (.slice none 0 0)] [] (fun x => .tup [dP (blk (vn x 0)), dN res.1]) (fun x => [.var (blk (vn x 0)) [.val (vn x 1)] 264, .row (vn x 1) (lB res.2) 1 5]) := by
 unfold arena_New_2 at h0
 refine CallF.mkG (X := X) rfl Tryz.func128 rfl rfl Tryz.ntmps128 rfl rfl ?_
 refine aS ?_
 iterate 2 refine aA rfl rfl ?_
 refine aN rfl ?_
 refine T.seq ?_
 refine aS ?_
 iterate 2 refine aA rfl rfl ?_
 refine TL.op1 (OpR.cast (OpR.pure rfl) (boolE (show (decide ((0 : Int) > 4096)) = false by decide))) rfl ?_
 refine aN rfl ?_
 refine T.condF rfl rfl ?_
 refine aK rfl ?_
 refine aS ?_
 iterate 2 refine aA rfl rfl ?_
 obtain ⟨x1, hx1, h0⟩ := bS h0
 refine TL.op (OpR.makeC byteD hx1 rfl rfl rfl rfl rfl rfl rfl (fun _ => rfl)) rfl (fun v2 => ?_)
 refine TL.op1 (OpR.build rfl rfl rfl rfl rfl) rfl ?_
 refine TL.op (OpR.boxVar rfl rfl (fun _ => rfl)) rfl (fun p3 => ?_)
 refine aA rfl rfl ?_
 refine aN rfl ?_
 refine aS ?_
 iterate 3 refine aA rfl rfl ?_
 refine TL.op1 (OpR.loadPtr 1 rfl rfl rfl rfl) rfl ?_
 refine aA rfl rfl ?_
 refine TL.op1 (OpR.copyNil 0 rfl rfl rfl rfl rfl rfl) rfl ?_
 refine aN rfl ?_
 refine aS ?_
 iterate 3 refine aA rfl rfl ?_
 refine aN rfl ?_
 refine T.ret ?_
 obtain rfl := Option.some.inj h0
 exact rP [0, 1] [2, 3] [1, 0] rfl rfl rfl (.tuple #[p3, v2]) (cT rfl (cT rfl ResL.nil)) rfl rfl rfl rfl
noncomputable def grid_refused (a0 : Int) : Option (grid_Grid × Int × (List UInt8)) :=
  bnd (arena_New_2) fun x2 =>
  some ((⟨(⟨none⟩ : tree_Tree_damier_row_Row), false, 2⟩ : grid_Grid), a0, x2.2)
theorem grid_refused_c {a0 : Int} {res : grid_Grid × Int × (List UInt8)} (h0 : grid_refused a0 = some res) : CallF X 129 [dN a0] [] (fun x => .tup [.agg [(eOP res.1.fRows.fRoot), dT res.1.fTail, dN res.1.fEnd], dP (blk (vn x 0)), dN res.2.1]) (fun x => [.var (blk (vn x 0)) [.val (vn x 1)] 264, .row (vn x 1) (lB res.2.2) 1 5]) := by
 unfold grid_refused at h0
 refine CallF.mkG (X := X) rfl Tryz.func129 rfl rfl Tryz.ntmps129 rfl rfl ?_
 refine aS ?_
 refine TL.op (OpR.alloc rfl rfl (fun _ => rfl)) rfl (fun p1 => ?_)
 iterate 2 refine aA rfl rfl ?_
 refine aN rfl ?_
 refine aS ?_
 obtain ⟨x2, hx2, h0⟩ := bS h0
 refine TL.op (OpR.call [] fn128 (arena_New_2_c hx2) rfl rfl rfl (fun _ => rfl)) rfl (fun w3 => ?_)
 iterate 5 refine aA rfl rfl ?_
 refine aN rfl ?_
 refine aS ?_
 refine TL.op1 (OpR.build rfl rfl rfl rfl rfl) rfl ?_
 iterate 2 refine aA rfl rfl ?_
 refine TL.op0 (OpR.store 0 rfl rfl rfl rfl rfl rfl rfl rfl) ?_
 iterate 2 refine aA rfl rfl ?_
 refine aN rfl ?_
 refine T.ret ?_
 obtain rfl := Option.some.inj h0
 exact rO [1, 2] [2, 3, 4] rfl (.tuple #[(vn w3 0), (vn w3 1)]) (cV 0 rfl rfl rfl rfl (cT rfl (cT rfl ResL.nil))) rfl rfl rfl rfl
noncomputable def piece_Text_with_2 (a0 : arena_Span) (a1 : Int) (a2 : List arena_Span) : Option (Int × (List arena_Span)) :=
  if a0.fN < 1 then
    some (a1, a2)
  else
    bnd (if (w64 ((a2.length : Int) - 1)) ≥ 0 then
      bnd (idx a2 (w64 ((a2.length : Int) - 1))) fun x7 =>
      bnd (arena_Join x7 a0) fun x8 =>
      if x8.2 = true then
        some (Ex.ret (w64 (a1 + a0.fN), (a2.set (w64 ((a2.length : Int) - 1)).toNat x8.1)))
      else
        some (Ex.brk ())
    else
      some (Ex.brk ()) : Option (Ex Unit (Int × (List arena_Span)))) fun t3 => match t3 with
      | .brk u4 =>
        bnd (app 16 a2 [a0]) fun x12 =>
        some (w64 (a1 + a0.fN), x12)
      | .ret u4 => some u4
theorem piece_Text_with_2_c {a0 : arena_Span} {a1 : Int} {a2 : List arena_Span} {b0 : Nat} {v1 : Value} {res : Int × (List arena_Span)} (h0 : piece_Text_with_2 a0 a1 a2 = some res) : CallF X 254 [dP b0, .agg [dN a0.fAt, dN a0.fN]] [.var b0 [.val v1, dN a1] 140, .row v1 (List.map e_arena_Span a2) 2 142] (fun x => .tup []) (fun x => [.var b0 [.val (vn x 0), dN res.1] 140, .row (vn x 0) (List.map e_arena_Span res.2) 2 142]) := by
 unfold piece_Text_with_2 at h0
 refine CallF.mkG (X := X) rfl Tryz.func254 rfl rfl Tryz.ntmps254 rfl rfl ?_
 refine aS ?_
 refine TL.op1 (OpR.boxImm rfl rfl) rfl ?_
 refine aN rfl ?_
 refine T.seq ?_
 refine aS ?_
 iterate 3 refine aA rfl rfl ?_
 refine aN rfl ?_
 rcases ite_some h0 with ⟨c1, h0⟩ | ⟨c1, h0⟩
 · refine T.condT rfl (decide_eq_true c1) ?_
   refine T.ret ?_
   obtain rfl := Option.some.inj h0
   exact rO [0, 1] [] rfl (.tuple #[v1]) ResL.nil rfl rfl rfl rfl
 refine T.condF rfl (decide_eq_false c1) ?_
 refine aK rfl ?_
 refine T.seq ?_
 refine T.drawS drawsX (fun env2 => [dP b0, dP b0, .val (.pointer (some ⟨b0, 1, none⟩)), dN a1, .nod [dN a0.fN], dN a0.fN, dN (w64 (a1 + a0.fN)), dP b0, .val (.pointer (some ⟨b0, 1, none⟩)), .dead]) (fun D env2 => [(bif D 9 then .var b0 [.val v1, dN (w64 (a1 + a0.fN))] 140 else .var b0 [.val v1, dN a1] 140), .row v1 (List.map e_arena_Span a2) 2 142]) [0, 1, 3, 7, 0, 16, 63, 127, 255, 511] [0, 3] _ (by decide +kernel) (by decide +kernel) (fun _ => rfl) (fun _ => rfl) ?_ (fun _ => rfl) (fun _ => rfl) ?_
 · iterate 3 refine aC ?_
   refine OpsS.cons' true ?_ (fun _ _ _ _ _ _ _ => rfl) ?_
   · intro D env2 hA
     have e9 : D 9 = false := hA.no 9 _ rfl rfl
     exact OpS.yp [(9, false)] ⟨e9, trivial⟩ (Want.plain rfl) (OpR.loadPtr 0 rfl rfl rfl rfl) (fun x => rfl) (fun x => rfl)
   iterate 5 refine aC ?_
   refine OpsS.cons' true ?_ (fun _ _ _ _ _ _ _ => rfl) ?_
   · intro D env2 hA
     exact OpS.yp [(9, false)] ⟨hA.me, trivial⟩ (Want.plain rfl) (OpR.store 0 rfl rfl rfl rfl rfl rfl rfl rfl) (fun x => rfl) (fun x => rfl)
   exact trivial
 intro env2
 show T X _ _ _
 refine T.seq ?_
 refine aS ?_
 iterate 3 refine aA rfl rfl ?_
 refine TL.op1 (OpR.loadPtr 0 rfl rfl rfl rfl) rfl ?_
 refine TL.op1 (OpR.rowLenM e_arena_Span 1 rfl rfl rfl rfl) rfl ?_
 iterate 2 refine aA rfl rfl ?_
 refine aN rfl ?_
 refine aS ?_
 iterate 2 refine aA rfl rfl ?_
 refine aN rfl ?_
 obtain ⟨t3, ht3, h0⟩ := bS h0
 refine T.cutC (fun S' => ∃ u4, t3 = Ex.brk u4 ∧ S' = ⟨[(3, .nod [dN a0.fAt, dN a0.fN]), (0, (dP b0))], [.var b0 [.val v1, dN (w64 (a1 + a0.fN))] 140, .row v1 (List.map e_arena_Span a2) 2 142], 57⟩) (fun _ h => h) ?_ ?_
 rotate_left
 · rintro _ ⟨u4, rfl, rfl⟩
   show T X _ _ _
   obtain ⟨x12, hx12, h0⟩ := bS h0
   refine T.drawS drawsX (fun env11 => [dP b0, dP b0, dP b0, dP b0, .val v1, .agg [dN a0.fAt, dN a0.fN], .sl 2 (List.map e_arena_Span [a0]), .val (env11 7), dP b0, dP b0, .dead]) (fun D env11 => [(bif D 10 then .var b0 [.val (env11 7), dN (w64 (a1 + a0.fN))] 140 else .var b0 [.val v1, dN (w64 (a1 + a0.fN))] 140), (bif D 7 then .row (env11 7) (List.map e_arena_Span x12) 2 142 else .row v1 (List.map e_arena_Span a2) 2 142)]) [0, 0, 2, 6, 14, 0, 32, 126, 255, 511, 1023] [] _ (by decide +kernel) (by decide +kernel) (fun _ => rfl) (fun _ => rfl) ?_ (fun _ => rfl) (fun _ => rfl) ?_
   rotate_left
   · intro env11
     obtain rfl := Option.some.inj h0
     exact PostG.finP (ks := [0, 1]) (Gst.only [] rfl) (.tuple #[(env11 7)]) ResL.nil rfl rfl rfl rfl
   iterate 4 refine aC ?_
   refine OpsS.cons' true ?_ (fun _ _ _ _ _ _ _ => rfl) ?_
   · intro D env11 hA
     have e7 : D 7 = false := hA.no 7 _ rfl rfl
     have e10 : D 10 = false := hA.no 10 _ rfl rfl
     exact OpS.yp [(7, false), (10, false)] ⟨e7, e10, trivial⟩ (Want.plain rfl) (OpR.loadPtr 0 rfl rfl rfl rfl) (fun x => rfl) (fun x => rfl)
   refine aC ?_
   refine oT (.sl 2 (List.map e_arena_Span [a0])) (fun _ _ => OpR.lit rfl rfl rfl rfl rfl rfl rfl) ?_
   refine OpsS.cons' true ?_ (fun D hA env11 x j hj hD => match j, hj, hD with | 0, _, _ => rfl | 1, _, _ => rfl | 2, _, _ => rfl | 3, _, _ => rfl | 4, _, _ => rfl | 5, _, _ => rfl | 6, _, _ => rfl | 7, hj, _ => absurd rfl hj | 8, _, _ => rfl | 9, _, _ => rfl | 10, _, _ => rfl | _ + 11, _, _ => rfl) ?_
   · intro D env11 hA
     have e10 : D 10 = false := hA.no 10 _ rfl rfl
     exact OpS.yp [(10, false), (7, false)] ⟨e10, hA.me, trivial⟩ (Want.plain rfl) (OpR.appendM (m := [a0]) e_arena_Span 1 hx12 rfl rfl rfl rfl rfl rfl rfl rfl rfl (fun _ => rfl)) (fun x => rfl) (fun x => rfl)
   iterate 2 refine aC ?_
   refine OpsS.cons' true ?_ (fun _ _ _ _ _ _ _ => rfl) ?_
   · intro D env11 hA
     have e7 : D 7 = true := hA.yes 7 _ rfl rfl
     exact OpS.yp [(7, true), (10, false)] ⟨e7, hA.me, trivial⟩ (Want.plain rfl) (OpR.store 0 rfl rfl rfl rfl rfl rfl rfl rfl) (fun x => rfl) (fun x => rfl)
   exact trivial
 rcases ite_some ht3 with ⟨c5, ht3⟩ | ⟨c5, ht3⟩
 rotate_left
 · refine T.condF rfl (decide_eq_false c5) ?_
   refine T.skip ?_
   obtain rfl := Option.some.inj ht3
   exact ⟨_, Gst.only [0, 3] rfl, _, rfl, rfl⟩
 refine T.condT rfl (decide_eq_true c5) ?_
 refine T.seq ?_
 obtain ⟨x7, hx7, ht3⟩ := bS ht3
 obtain ⟨x8, hx8, ht3⟩ := bS ht3
 refine T.drawS drawsX (fun env6 => [dP b0, dP b0, dP b0, .val v1, dN (w64 ((a2.length : Int) - 1)), .val (.pointer (some ⟨blk v1, (w64 ((a2.length : Int) - 1)).toNat * 2, none⟩)), .agg [dN x7.fAt, dN x7.fN], .agg [dN a0.fAt, dN a0.fN], .tup [.agg [dN x8.1.fAt, dN x8.1.fN], dT x8.2], .tup [.agg [dN x8.1.fAt, dN x8.1.fN], dT x8.2], .agg [dN x8.1.fAt, dN x8.1.fN], dT x8.2, dP (blk (env6 12)), .dead, dT x8.2]) (fun D env6 => [.var b0 [.val v1, dN (w64 (a1 + a0.fN))] 140, .row v1 (List.map e_arena_Span a2) 2 142] ++ (bif D 12 then [(bif D 13 then .var (blk (env6 12)) [dN x8.1.fAt, dN x8.1.fN] 142 else .var (blk (env6 12)) [dN 0, dN 0] 142)] else [])) [0, 1, 3, 7, 0, 31, 63, 0, 255, 511, 1023, 1023, 0, 6143, 16383] [0, 3, 4, 5, 6] _ (by decide +kernel) (by decide +kernel) (fun _ => rfl) (fun _ => rfl) ?_ (fun _ => rfl) (fun _ => rfl) ?_
 rotate_left
 · intro env6
   show T X _ _ _
   refine aS ?_
   refine aA rfl rfl ?_
   refine aN rfl ?_
   rcases ite_some ht3 with ⟨c9, ht3⟩ | ⟨c9, ht3⟩
   rotate_left
   · refine T.condF rfl (eq_false_of_ne_true c9) ?_
     refine T.skip ?_
     obtain rfl := Option.some.inj ht3
     exact ⟨_, gP [0, 3] [0, 1] rfl rfl rfl, _, rfl, rfl⟩
   refine T.condT rfl (c9) ?_
   refine T.seq ?_
   refine T.drawS drawsX (fun env10 => [dP b0, dP b0, dP b0, .val v1, dN (w64 ((a2.length : Int) - 1)), .agg [dN x8.1.fAt, dN x8.1.fN], .val (.pointer (some ⟨blk v1, (w64 ((a2.length : Int) - 1)).toNat * 2, none⟩)), .dead]) (fun D env10 => [.var b0 [.val v1, dN (w64 (a1 + a0.fN))] 140, (bif D 7 then .row v1 (List.map e_arena_Span (a2.set (w64 ((a2.length : Int) - 1)).toNat x8.1)) 2 142 else .row v1 (List.map e_arena_Span a2) 2 142), .var (blk (env6 12)) [dN x8.1.fAt, dN x8.1.fN] 142]) [0, 1, 3, 7, 0, 0, 63, 127] [0, 3] _ (by decide +kernel) (by decide +kernel) (fun _ => rfl) (fun _ => rfl) ?_ (fun _ => rfl) (fun _ => rfl) ?_
   rotate_left
   · intro env10
     show T X _ _ _
     refine T.ret ?_
     obtain rfl := Option.some.inj ht3
     obtain rfl := Option.some.inj h0
     exact rP [0, 1] [] [0, 1] rfl rfl rfl (.tuple #[v1]) ResL.nil rfl rfl rfl rfl
   iterate 3 refine aC ?_
   refine oT (.val v1) (fun _ _ => OpR.loadPtr 0 rfl rfl rfl rfl) ?_
   refine aC ?_
   refine oT (.agg [dN x8.1.fAt, dN x8.1.fN]) (fun _ _ => OpR.loadPtr 2 rfl rfl rfl rfl) ?_
   refine OpsS.cons' true ?_ (fun _ _ _ _ _ _ _ => rfl) ?_
   · intro D env10 hA
     have e7 : D 7 = false := hA.no 7 _ rfl rfl
     exact OpS.yp [(7, false)] ⟨e7, trivial⟩ (Want.plain rfl) (OpR.rowIndexM e_arena_Span 1 hx7 rfl rfl rfl rfl rfl rfl rfl) (fun x => rfl) (fun x => rfl)
   refine OpsS.cons' true ?_ (fun _ _ _ _ _ _ _ => rfl) ?_
   · intro D env10 hA
     exact OpS.yp [(7, false)] ⟨hA.me, trivial⟩ (Want.plain rfl) (OpR.rowStore0M (j := w64 ((a2.length : Int) - 1)) e_arena_Span x8.1 1 hx7 rfl rfl rfl rfl rfl rfl rfl rfl rfl) (fun x => rfl) (fun x => rfl)
   exact trivial
 iterate 3 refine aC ?_
 refine oT (.val v1) (fun _ _ => OpR.loadPtr 0 rfl rfl rfl rfl) ?_
 refine aC ?_
 refine oT (.val (.pointer (some ⟨blk v1, (w64 ((a2.length : Int) - 1)).toNat * 2, none⟩))) (fun _ _ => OpR.rowIndexM e_arena_Span 1 hx7 rfl rfl rfl rfl rfl rfl rfl) ?_
 refine oT (.agg [dN x7.fAt, dN x7.fN]) (fun _ _ => OpR.rowLoad0M (j := w64 ((a2.length : Int) - 1)) e_arena_Span 1 hx7 rfl rfl rfl rfl) ?_
 refine aC ?_
 refine oT (.tup [.agg [dN x8.1.fAt, dN x8.1.fN], dT x8.2]) (fun _ _ => OpR.call0 fn271 (arena_Join_c hx8) rfl) ?_
 iterate 3 refine aC ?_
 refine OpsS.cons' true ?_ (fun D hA env6 x j hj hD => match j, hj, hD with | 0, _, _ => rfl | 1, _, _ => rfl | 2, _, _ => rfl | 3, _, _ => rfl | 4, _, _ => rfl | 5, _, _ => rfl | 6, _, _ => rfl | 7, _, _ => rfl | 8, _, _ => rfl | 9, _, _ => rfl | 10, _, _ => rfl | 11, _, _ => rfl | 12, hj, _ => absurd rfl hj | 13, _, _ => rfl | 14, _, _ => rfl | _ + 15, _, _ => rfl) ?_
 · intro D env6 hA
   have e13 : D 13 = false := hA.no 13 _ rfl rfl
   exact OpS.yp [(13, false), (12, false)] ⟨e13, hA.me, trivial⟩ (Want.plain rfl) (OpR.alloc rfl rfl (fun _ => rfl)) (fun x => rfl) (fun x => rfl)
 refine OpsS.cons' true ?_ (fun _ _ _ _ _ _ _ => rfl) ?_
 · intro D env6 hA
   have e12 : D 12 = true := hA.yes 12 _ rfl rfl
   exact OpS.yp [(12, true), (13, false)] ⟨e12, hA.me, trivial⟩ (Want.plain rfl) (OpR.store 2 rfl rfl rfl rfl rfl rfl rfl rfl) (fun x => rfl) (fun x => rfl)
 refine aC ?_
 exact trivial
noncomputable def piece_Of.l1 (a0 : List arena_Span) (s6 : Int × Int × (List arena_Span)) : Option (Lp (Int × Int × (List arena_Span)) (Int × (List arena_Span))) :=
  if s6.1 < (a0.length : Int) then
    bnd (idx a0 s6.1) fun x15 =>
    bnd (piece_Text_with_2 x15 s6.2.1 s6.2.2) fun x17 =>
    some (Lp.next (w64 (s6.1 + 1), x17.1, x17.2))
  else
    some (Lp.done (s6.2.1, s6.2.2))
noncomputable def piece_Of (a0 : List arena_Span) : Option piece_Text :=
  bnd (loop (piece_Of.l1 a0) (0, 0, []) : Option (Int × (List arena_Span))) fun t3 =>
  some (⟨t3.2, t3.1⟩ : piece_Text)
theorem piece_Of_c {a0 : List arena_Span} {res : piece_Text} (h0 : piece_Of a0 = some res) : CallF X 228 [.sl 2 (List.map e_arena_Span a0)] [] (fun x => .agg [.sl 2 (List.map e_arena_Span res.fL), dN res.fN]) (fun x => []) := by
 unfold piece_Of at h0
 refine CallF.mkG (X := X) rfl Tryz.func228 rfl rfl Tryz.ntmps228 rfl rfl ?_
 refine aS ?_
 refine TL.op (OpR.alloc rfl rfl (fun _ => rfl)) rfl (fun p1 => ?_)
 refine aN rfl ?_
 refine aS ?_
 refine TL.op (OpR.alloc rfl rfl (fun _ => rfl)) rfl (fun p2 => ?_)
 refine aN rfl ?_
 refine T.seq ?_
 refine aS ?_
 refine aA rfl rfl ?_
 refine TL.op1 (OpR.cast (OpR.pure rfl) (intE (lenM _ _))) rfl ?_
 refine aA rfl rfl ?_
 refine aN rfl ?_
 obtain ⟨t3, ht3, h0⟩ := bS h0
 refine T.cutC (fun S' => ∃ y4 : Value, S' = ⟨[(3, (dP (blk p2))), (2, (dP (blk p1)))], [.var (blk p1) [.val (.slice none 0 0), dN 0] 140, .var (blk p2) [.val y4, dN t3.1] 140, .row y4 (List.map e_arena_Span t3.2) 2 142], 16⟩) (fun _ h => h) ?_ ?_
 rotate_left
 · rintro _ ⟨y4, rfl⟩
   show T X _ _ _
   refine aS ?_
   refine TL.op1 (OpR.loadPtr 1 rfl rfl rfl rfl) rfl ?_
   refine TL.op0 (OpR.store 0 rfl rfl rfl rfl rfl rfl rfl rfl) ?_
   refine aN rfl ?_
   refine T.ret ?_
   obtain rfl := Option.some.inj h0
   exact PostG.retP (ks := []) (Gst.trans (Gst.only [2] rfl) (Gst.trans (Gst.freezeRow 2 rfl rfl (ReS.cons Re.refl ReS.nil) (ReO.var (ReL.cons (Re.base .all) (ReL.cons Re.refl ReL.nil)) (ReO.var (ReL.cons (Re.base .all) (ReL.cons Re.refl ReL.nil)) (ReO.same ReO.nil)))) (Gst.pick [0] rfl rfl))) undef (cV 0 rfl rfl rfl rfl ResL.nil) rfl rfl rfl rfl
 refine T.block ?_
 obtain ⟨n7, n12⟩ := loop_some ht3
 refine T.loop (fun n S' => ∃ S'', Gst S' S'' ∧ ∃ y5 : Value, ∃ s6 : Int × Int × (List arena_Span), S'' = ⟨[(8, (dN s6.1)), (7, (dN (a0.length : Int))), (6, .sl 2 (List.map e_arena_Span a0)), (3, (dP (blk p2))), (2, (dP (blk p1)))], [.var (blk p1) [.val (.slice none 0 0), dN 0] 140, .var (blk p2) [.val y5, dN s6.2.1] 140, .row y5 (List.map e_arena_Span s6.2.2) 2 142], 16⟩ ∧ iter (piece_Of.l1 a0) n s6 = some t3) n7 ?_ ?_
 · exact ⟨_, Gst.trans (Gst.only [2, 3, 6, 7, 8] rfl) (Gst.nilRow (ow := [.var (blk p1) [.val (.slice none 0 0), dN 0] 140, .var (blk p2) [.val (.slice none 0 0), dN 0] 140]) 2 142 rfl), (.slice none 0 0), (0, 0, []), rfl, n12⟩
 rintro n7 _ ⟨_, g, y5, s6, rfl, i11⟩
 refine T.ghost g ?_
 obtain ⟨m8, q9, rfl, q10, i11⟩ := iter_succ i11
 unfold piece_Of.l1 at q10
 refine aS ?_
 refine aA rfl rfl ?_
 refine aN rfl ?_
 refine T.seq ?_
 rcases ite_some q10 with ⟨c14, q10⟩ | ⟨c14, q10⟩
 rotate_left
 · refine T.condF rfl (decide_eq_false c14) ?_
   refine T.exit ?_
   obtain rfl := Option.some.inj q10
   obtain rfl : _ = _ := i11
   exact ⟨_, Gst.only [2, 3] rfl, y5, rfl⟩
 refine T.condT rfl (decide_eq_true c14) ?_
 refine aK rfl ?_
 refine T.seq ?_
 refine T.block ?_
 refine aS ?_
 obtain ⟨x15, hx15, q10⟩ := bS q10
 refine TL.op1 (OpR.indexM e_arena_Span hx15 rfl rfl rfl rfl rfl) rfl ?_
 refine aA rfl rfl ?_
 refine TL.op (OpR.alloc rfl rfl (fun _ => rfl)) rfl (fun p16 => ?_)
 refine TL.op0 (OpR.store 3 rfl rfl rfl rfl rfl rfl rfl rfl) ?_
 refine aN rfl ?_
 refine T.region ?_
 refine TL.op1 (OpR.loadPtr 3 rfl rfl rfl rfl) rfl ?_
 obtain ⟨x17, hx17, q10⟩ := bS q10
 refine TL.op (OpR.call [1, 2] fn254 (piece_Text_with_2_c hx17) rfl rfl rfl (fun _ => rfl)) rfl (fun w18 => ?_)
 refine aN rfl ?_
 refine T.region ?_
 iterate 2 refine aA rfl rfl ?_
 refine TL.nil ?_
 obtain rfl := Option.some.inj q10
 exact ⟨m8, Nat.lt_succ_self _, _, gP [2, 3, 6, 7, 8] [0, 1, 2] rfl rfl rfl, (vn w18 0), (w64 (s6.1 + 1), x17.1, x17.2), rfl, i11⟩
noncomputable def cell_Load (a0 : scan_Field) : Option cell_Cell :=
  bnd (piece_Of a0.fParts) fun x3 =>
  some (⟨x3, a0.fRaw, true⟩ : cell_Cell)
theorem cell_Load_c {a0 : scan_Field} {res : cell_Cell} (h0 : cell_Load a0 = some res) : CallF X 194 [.agg [dN a0.fRaw.fAt, dN a0.fRaw.fN, dN a0.fKind, .sl 2 (List.map e_arena_Span a0.fParts)]] [] (fun x => .agg [.sl 2 (List.map e_arena_Span res.fText.fL), dN res.fText.fN, dN res.fRaw.fAt, dN res.fRaw.fN, dT res.fKept]) (fun x => []) := by
 unfold cell_Load at h0
 refine CallF.mkG (X := X) rfl Tryz.func194 rfl rfl Tryz.ntmps194 rfl rfl ?_
 refine aS ?_
 refine TL.op1 (OpR.boxImm rfl rfl) rfl ?_
 refine TL.op (OpR.alloc rfl rfl (fun _ => rfl)) rfl (fun p1 => ?_)
 refine aN rfl ?_
 refine T.seq ?_
 obtain ⟨x3, hx3, h0⟩ := bS h0
 refine T.drawS drawsX (fun env2 => [.nod [.sl 2 (List.map e_arena_Span a0.fParts)], .sl 2 (List.map e_arena_Span a0.fParts), .agg [.sl 2 (List.map e_arena_Span x3.fL), dN x3.fN], .nod [dN a0.fRaw.fAt, dN a0.fRaw.fN, dN a0.fKind, .sl 2 (List.map e_arena_Span a0.fParts)], .agg [dN a0.fRaw.fAt, dN a0.fRaw.fN], .agg [.sl 2 (List.map e_arena_Span x3.fL), dN x3.fN, dN a0.fRaw.fAt, dN a0.fRaw.fN, dT true], .dead]) (fun D env2 => [(bif D 6 then .var (blk p1) [.sl 2 (List.map e_arena_Span x3.fL), dN x3.fN, dN a0.fRaw.fAt, dN a0.fRaw.fN, dT true] 144 else .var (blk p1) [.val (.slice none 0 0), dN 0, dN 0, dN 0, dT false] 144)]) [0, 1, 3, 0, 8, 31, 63] [2] _ (by decide +kernel) (by decide +kernel) (fun _ => rfl) (fun _ => rfl) ?_ (fun _ => rfl) (fun _ => rfl) ?_
 rotate_left
 · intro env2
   show T X _ _ _
   refine T.ret ?_
   obtain rfl := Option.some.inj h0
   exact rO [] [2] rfl undef (cV 0 rfl rfl rfl rfl ResL.nil) rfl rfl rfl rfl
 iterate 2 refine aC ?_
 refine oT (.agg [.sl 2 (List.map e_arena_Span x3.fL), dN x3.fN]) (fun _ _ => OpR.call0 fn228 (piece_Of_c hx3) rfl) ?_
 iterate 2 refine aC ?_
 refine oT (.agg [.sl 2 (List.map e_arena_Span x3.fL), dN x3.fN, dN a0.fRaw.fAt, dN a0.fRaw.fN, dT true]) (fun _ _ => OpR.build rfl rfl rfl rfl rfl) ?_
 refine OpsS.cons' true ?_ (fun _ _ _ _ _ _ _ => rfl) ?_
 · intro D env2 hA
   exact OpS.yp [(6, false)] ⟨hA.me, trivial⟩ (Want.plain rfl) (OpR.store 0 rfl rfl rfl rfl rfl rfl rfl rfl) (fun x => rfl) (fun x => rfl)
 exact trivial
noncomputable def piece_Text_Len (a0 : piece_Text) : Option Int :=
  some a0.fN
theorem piece_Text_Len_c {a0 : piece_Text} {res : Int} (h0 : piece_Text_Len a0 = some res) : CallF X 195 [.agg [.sl 2 (List.map e_arena_Span a0.fL), dN a0.fN]] [] (fun x => (dN res)) (fun x => []) := by
 unfold piece_Text_Len at h0
 refine CallF.mkG (X := X) rfl Tryz.func195 rfl rfl Tryz.ntmps195 rfl rfl ?_
 refine aS ?_
 refine TL.op1 (OpR.boxImm rfl rfl) rfl ?_
 refine aA rfl rfl ?_
 refine aN rfl ?_
 refine aS ?_
 iterate 3 refine aA rfl rfl ?_
 refine aN rfl ?_
 refine T.ret ?_
 obtain rfl := Option.some.inj h0
 exact rO [] [2] rfl undef (cT rfl ResL.nil) rfl rfl rfl rfl
noncomputable def row_Load.l1 (a0 : scan_Row) (s7 : Int × (List cell_Cell)) : Option (Lp (Int × (List cell_Cell)) (Ex (List cell_Cell) (row_Row × Int))) :=
  if s7.1 < (a0.fFields.length : Int) then
    bnd (idx a0.fFields s7.1) fun x16 =>
    bnd (cell_Load x16) fun x19 =>
    bnd (idx s7.2 s7.1) fun x20 =>
    bnd (idx (s7.2.set s7.1.toNat x19) s7.1) fun x21 =>
    bnd (piece_Text_Len x21.fText) fun x22 =>
    if x22 > 400 then
      some (Lp.done (Ex.ret ((⟨[], 0, false⟩ : row_Row), 7)))
    else
      some (Lp.next (w64 (s7.1 + 1), (s7.2.set s7.1.toNat x19)))
  else
    some (Lp.done (Ex.brk s7.2))
noncomputable def row_Load (a0 : scan_Row) : Option (row_Row × Int) :=
  if (a0.fFields.length : Int) > 40 then
    some ((⟨[], 0, false⟩ : row_Row), 6)
  else
    bnd (mkz 56 (a0.fFields.length : Int) ((⟨(⟨[], 0⟩ : piece_Text), (⟨0, 0⟩ : arena_Span), false⟩ : cell_Cell) : cell_Cell)) fun x4 =>
    bnd (loop (row_Load.l1 a0) (0, x4) : Option (Ex (List cell_Cell) (row_Row × Int))) fun t5 => match t5 with
      | .brk u6 =>
        some ((⟨u6, a0.fEnd, false⟩ : row_Row), 0)
      | .ret u6 => some u6
theorem row_Load_c {a0 : scan_Row} {res : row_Row × Int} (h0 : row_Load a0 = some res) : CallF X 131 [.agg [.sl 4 (List.map e_scan_Field a0.fFields), dN a0.fEnd]] [] (fun x => .tup [.agg [.sl 5 (List.map e_cell_Cell res.1.fCells), dN res.1.fEnd, dT res.1.fHidden], dN res.2]) (fun x => []) := by
 unfold row_Load at h0
 refine CallF.mkG (X := X) rfl Tryz.func131 rfl rfl Tryz.ntmps131 rfl rfl ?_
 refine aS ?_
 refine TL.op1 (OpR.boxImm rfl rfl) rfl ?_
 refine TL.op (OpR.alloc rfl rfl (fun _ => rfl)) rfl (fun p1 => ?_)
 refine aA rfl rfl ?_
 refine aN rfl ?_
 refine T.seq ?_
 refine aS ?_
 iterate 2 refine aA rfl rfl ?_
 refine TL.op1 (OpR.cast (OpR.pure rfl) (intE (lenM _ _))) rfl ?_
 refine aA rfl rfl ?_
 refine aN rfl ?_
 rcases ite_some h0 with ⟨c2, h0⟩ | ⟨c2, h0⟩
 · refine T.condT rfl (decide_eq_true c2) ?_
   refine aS ?_
   refine TL.op1 (OpR.build rfl rfl rfl rfl rfl) rfl ?_
   refine TL.op0 (OpR.store 0 rfl rfl rfl rfl rfl rfl rfl rfl) ?_
   refine aA rfl rfl ?_
   refine aN rfl ?_
   refine T.ret ?_
   obtain rfl := Option.some.inj h0
   exact PostG.retP (ks := []) (Gst.trans (Gst.only [2, 3] rfl) (Gst.denil (ReS.cons Re.refl (ReS.cons Re.refl ReS.nil)) (ReO.var (ReL.cons (Re.base .nil) (ReL.cons Re.refl (ReL.cons Re.refl ReL.nil))) ReO.nil))) undef (cV 0 rfl rfl rfl rfl (cT rfl ResL.nil)) rfl rfl rfl rfl
 refine T.condF rfl (decide_eq_false c2) ?_
 refine aK rfl ?_
 refine T.seq ?_
 obtain ⟨x4, hx4, h0⟩ := bS h0
 refine T.drawS drawsX (fun env3 => [.nod [.sl 4 (List.map e_scan_Field a0.fFields), dN a0.fEnd], .sl 4 (List.map e_scan_Field a0.fFields), dN (a0.fFields.length : Int), .val (env3 3), .nod [dN a0.fEnd], dN a0.fEnd, .agg [.val (env3 3), dN a0.fEnd, dT false], dP (blk (env3 7)), .dead]) (fun D env3 => [.var (blk p1) [.val (.slice none 0 0), dN 0, dT false] 49] ++ (bif D 3 then [.row (env3 3) (List.map e_cell_Cell x4) 5 144] else []) ++ (bif D 7 then [(bif D 8 then .var (blk (env3 7)) [.val (env3 3), dN a0.fEnd, dT false] 49 else .var (blk (env3 7)) [.val (.slice none 0 0), dN 0, dT false] 49)] else [])) [0, 1, 3, 7, 0, 16, 63, 0, 255] [1, 2, 3, 4] _ (by decide +kernel) (by decide +kernel) (fun _ => rfl) (fun _ => rfl) ?_ (fun _ => rfl) (fun _ => rfl) ?_
 · iterate 2 refine aC ?_
   refine oT ((dN (a0.fFields.length : Int))) (fun _ _ => OpR.cast (OpR.pure rfl) (intE (lenM _ _))) ?_
   refine OpsS.cons' true ?_ (fun D hA env3 x j hj hD => match j, hj, hD with | 0, _, _ => rfl | 1, _, _ => rfl | 2, _, _ => rfl | 3, hj, _ => absurd rfl hj | 4, _, _ => rfl | 5, _, _ => rfl | 6, _, hD => absurd hD (by rw [hA.no 6 _ rfl rfl]; decide) | 7, _, _ => rfl | 8, _, _ => rfl | _ + 9, _, _ => rfl) ?_
   · intro D env3 hA
     have e8 : D 8 = false := hA.no 8 _ rfl rfl
     rcases Bool.eq_false_or_eq_true (D 7) with e7 | e7
     rotate_left
     · exact OpS.yp [(8, false), (7, false), (3, false)] ⟨e8, e7, hA.me, trivial⟩ (Want.plain rfl) (OpR.makeN e_cell_Cell hx4 rfl rfl rfl rfl rfl rfl rfl rfl rfl rfl (ReL.cons (Re.base .nil) (ReL.cons Re.refl (ReL.cons Re.refl (ReL.cons Re.refl (ReL.cons Re.refl ReL.nil))))) rfl (fun _ => rfl)) (fun x => rfl) (fun x => rfl)
     exact OpS.yp [(8, false), (7, true), (3, false)] ⟨e8, e7, hA.me, trivial⟩ (Want.plain rfl) (OpR.pick [0, 2, 1] (OpR.makeN e_cell_Cell hx4 rfl rfl rfl rfl rfl rfl rfl rfl rfl rfl (ReL.cons (Re.base .nil) (ReL.cons Re.refl (ReL.cons Re.refl (ReL.cons Re.refl (ReL.cons Re.refl ReL.nil))))) rfl (fun _ => rfl)) (fun _ => rfl) rfl) (fun x => rfl) (fun x => rfl)
   iterate 2 refine aC ?_
   refine OpsS.cons' true (fun D env3 hA => OpS.same (d := .agg [.val (env3 3), dN a0.fEnd, dT false]) (Want.plain rfl) (fun x => rfl) (fun x => rfl) (OpR.build rfl rfl rfl rfl rfl)) (fun _ _ _ _ _ _ _ => rfl) ?_
   refine OpsS.cons' true ?_ (fun D hA env3 x j hj hD => match j, hj, hD with | 0, _, _ => rfl | 1, _, _ => rfl | 2, _, _ => rfl | 3, _, _ => rfl | 4, _, _ => rfl | 5, _, _ => rfl | 6, _, _ => rfl | 7, hj, _ => absurd rfl hj | 8, _, _ => rfl | _ + 9, _, _ => rfl) ?_
   · intro D env3 hA
     have e8 : D 8 = false := hA.no 8 _ rfl rfl
     rcases Bool.eq_false_or_eq_true (D 3) with e3 | e3
     · exact OpS.yp [(8, false), (3, true), (7, false)] ⟨e8, e3, hA.me, trivial⟩ (Want.plain rfl) (OpR.alloc rfl rfl (fun _ => rfl)) (fun x => rfl) (fun x => rfl)
     exact OpS.yp [(8, false), (3, false), (7, false)] ⟨e8, e3, hA.me, trivial⟩ (Want.plain rfl) (OpR.alloc rfl rfl (fun _ => rfl)) (fun x => rfl) (fun x => rfl)
   refine OpsS.cons' true ?_ (fun _ _ _ _ _ _ _ => rfl) ?_
   · intro D env3 hA
     have e3 : D 3 = true := hA.yes 3 _ rfl rfl
     have e7 : D 7 = true := hA.yes 7 _ rfl rfl
     exact OpS.yp [(3, true), (7, true), (8, false)] ⟨e3, e7, hA.me, trivial⟩ (Want.plain rfl) (OpR.store 2 rfl rfl rfl rfl rfl rfl rfl rfl) (fun x => rfl) (fun x => rfl)
   exact trivial
 intro env3
 show T X _ _ _
 refine T.seq ?_
 refine aS ?_
 iterate 2 refine aA rfl rfl ?_
 refine TL.op1 (OpR.cast (OpR.pure rfl) (intE (lenM _ _))) rfl ?_
 refine aA rfl rfl ?_
 refine aN rfl ?_
 obtain ⟨t5, ht5, h0⟩ := bS h0
 refine T.cutC (fun S' => ∃ u6, t5 = Ex.brk u6 ∧ S' = ⟨[(4, (dP (blk (env3 7)))), (3, (dN 0)), (2, (dP (blk p1)))], [.var (blk p1) [.val (.slice none 0 0), dN 0, dT false] 49, .var (blk (env3 7)) [.val (env3 3), dN a0.fEnd, dT false] 49, .row (env3 3) (List.map e_cell_Cell u6) 5 144], 44⟩) (fun _ h => h) ?_ ?_
 rotate_left
 · rintro _ ⟨u6, rfl, rfl⟩
   show T X _ _ _
   refine aS ?_
   refine TL.op1 (OpR.loadPtr 1 rfl rfl rfl rfl) rfl ?_
   refine TL.op0 (OpR.store 0 rfl rfl rfl rfl rfl rfl rfl rfl) ?_
   refine aA rfl rfl ?_
   refine aN rfl ?_
   refine T.ret ?_
   obtain rfl := Option.some.inj h0
   exact PostG.retP (ks := []) (Gst.trans (Gst.only [2, 3] rfl) (Gst.trans (Gst.freezeRow 2 rfl rfl (ReS.cons Re.refl (ReS.cons Re.refl ReS.nil)) (ReO.var (ReL.cons (Re.base .all) (ReL.cons Re.refl (ReL.cons Re.refl ReL.nil))) (ReO.var (ReL.cons (Re.base .all) (ReL.cons Re.refl (ReL.cons Re.refl ReL.nil))) (ReO.same ReO.nil)))) (Gst.pick [0] rfl rfl))) undef (cV 0 rfl rfl rfl rfl (cT rfl ResL.nil)) rfl rfl rfl rfl
 refine T.block ?_
 obtain ⟨n8, n13⟩ := loop_some ht5
 refine T.loop (fun n S' => ∃ S'', Gst S' S'' ∧ ∃ s7 : Int × (List cell_Cell), S'' = ⟨[(22, (dN s7.1)), (21, (dN (a0.fFields.length : Int))), (20, .sl 4 (List.map e_scan_Field a0.fFields)), (4, (dP (blk (env3 7)))), (3, (dN 0)), (2, (dP (blk p1)))], [.var (blk p1) [.val (.slice none 0 0), dN 0, dT false] 49, .var (blk (env3 7)) [.val (env3 3), dN a0.fEnd, dT false] 49, .row (env3 3) (List.map e_cell_Cell s7.2) 5 144], 44⟩ ∧ iter (row_Load.l1 a0) n s7 = some t5) n8 ?_ ?_
 · exact ⟨_, gP [2, 3, 4, 20, 21, 22] [0, 2, 1] rfl rfl rfl, (0, x4), rfl, n13⟩
 rintro n8 _ ⟨_, g, s7, rfl, i12⟩
 refine T.ghost g ?_
 obtain ⟨m9, q10, rfl, q11, i12⟩ := iter_succ i12
 unfold row_Load.l1 at q11
 refine aS ?_
 refine aA rfl rfl ?_
 refine aN rfl ?_
 refine T.seq ?_
 rcases ite_some q11 with ⟨c15, q11⟩ | ⟨c15, q11⟩
 rotate_left
 · refine T.condF rfl (decide_eq_false c15) ?_
   refine T.exit ?_
   obtain rfl := Option.some.inj q11
   obtain rfl : _ = _ := i12
   exact ⟨_, Gst.only [2, 3, 4] rfl, _, rfl, rfl⟩
 refine T.condT rfl (decide_eq_true c15) ?_
 refine aK rfl ?_
 refine T.seq ?_
 refine T.block ?_
 refine aS ?_
 refine aA rfl rfl ?_
 obtain ⟨x16, hx16, q11⟩ := bS q11
 refine TL.op1 (OpR.indexM e_scan_Field hx16 rfl rfl rfl rfl rfl) rfl ?_
 refine aA rfl rfl ?_
 refine TL.op (OpR.alloc rfl rfl (fun _ => rfl)) rfl (fun p17 => ?_)
 refine aA rfl rfl ?_
 refine TL.op0 (OpR.store 3 rfl rfl rfl rfl rfl rfl rfl rfl) ?_
 refine aN rfl ?_
 refine T.seq ?_
 obtain ⟨x19, hx19, q11⟩ := bS q11
 obtain ⟨x20, hx20, q11⟩ := bS q11
 refine T.drawS drawsX (fun env18 => [dP (blk (env3 7)), .val (env3 3), dN s7.1, .agg [dN x16.fRaw.fAt, dN x16.fRaw.fN, dN x16.fKind, .sl 2 (List.map e_arena_Span x16.fParts)], .agg [.sl 2 (List.map e_arena_Span x19.fText.fL), dN x19.fText.fN, dN x19.fRaw.fAt, dN x19.fRaw.fN, dT x19.fKept], .val (.pointer (some ⟨blk (env3 3), s7.1.toNat * 5, none⟩)), .dead]) (fun D env18 => [.var (blk p1) [.val (.slice none 0 0), dN 0, dT false] 49, .var (blk (env3 7)) [.val (env3 3), dN a0.fEnd, dT false] 49, (bif D 6 then .row (env3 3) (List.map e_cell_Cell (s7.2.set s7.1.toNat x19)) 5 144 else .row (env3 3) (List.map e_cell_Cell s7.2) 5 144), .var (blk p17) [dN x16.fRaw.fAt, dN x16.fRaw.fN, dN x16.fKind, .sl 2 (List.map e_arena_Span x16.fParts)] 270]) [0, 1, 0, 0, 8, 31, 63] [2, 3, 4, 5, 20, 21, 22] _ (by decide +kernel) (by decide +kernel) (fun _ => rfl) (fun _ => rfl) ?_ (fun _ => rfl) (fun _ => rfl) ?_
 · refine aC ?_
   refine oT (.val (env3 3)) (fun _ _ => OpR.loadPtr 1 rfl rfl rfl rfl) ?_
   refine aC ?_
   refine oT (.agg [dN x16.fRaw.fAt, dN x16.fRaw.fN, dN x16.fKind, .sl 2 (List.map e_arena_Span x16.fParts)]) (fun _ _ => OpR.loadPtr 3 rfl rfl rfl rfl) ?_
   refine oT (.agg [.sl 2 (List.map e_arena_Span x19.fText.fL), dN x19.fText.fN, dN x19.fRaw.fAt, dN x19.fRaw.fN, dT x19.fKept]) (fun _ _ => OpR.call0 fn194 (cell_Load_c hx19) rfl) ?_
   refine OpsS.cons' true ?_ (fun _ _ _ _ _ _ _ => rfl) ?_
   · intro D env18 hA
     have e6 : D 6 = false := hA.no 6 _ rfl rfl
     exact OpS.yp [(6, false)] ⟨e6, trivial⟩ (Want.plain rfl) (OpR.rowIndexM e_cell_Cell 2 hx20 rfl rfl rfl rfl rfl rfl rfl) (fun x => rfl) (fun x => rfl)
   refine OpsS.cons' true ?_ (fun _ _ _ _ _ _ _ => rfl) ?_
   · intro D env18 hA
     exact OpS.yp [(6, false)] ⟨hA.me, trivial⟩ (Want.plain rfl) (OpR.rowStore0M (j := s7.1) e_cell_Cell x19 2 hx20 rfl rfl rfl rfl rfl rfl rfl rfl rfl) (fun x => rfl) (fun x => rfl)
   exact trivial
 intro env18
 show T X _ _ _
 refine aS ?_
 refine aA rfl rfl ?_
 refine TL.op1 (OpR.loadPtr 1 rfl rfl rfl rfl) rfl ?_
 refine aA rfl rfl ?_
 obtain ⟨x21, hx21, q11⟩ := bS q11
 refine TL.op1 (OpR.rowIndexM e_cell_Cell 2 hx21 rfl rfl rfl rfl rfl rfl rfl) rfl ?_
 refine aA rfl rfl ?_
 refine TL.op1 (OpR.rowLoad0M (j := s7.1) e_cell_Cell 2 hx21 rfl rfl rfl rfl) rfl ?_
 obtain ⟨x22, hx22, q11⟩ := bS q11
 refine TL.op1 (OpR.call0 fn195 (piece_Text_Len_c hx22) rfl) rfl ?_
 refine aA rfl rfl ?_
 refine aN rfl ?_
 rcases ite_some q11 with ⟨c23, q11⟩ | ⟨c23, q11⟩
 rotate_left
 · refine T.condF rfl (decide_eq_false c23) ?_
   refine aK rfl ?_
   refine T.region ?_
   iterate 2 refine aA rfl rfl ?_
   refine TL.nil ?_
   obtain rfl := Option.some.inj q11
   exact ⟨m9, Nat.lt_succ_self _, _, gP [2, 3, 4, 20, 21, 22] [0, 1, 2] rfl rfl rfl, (w64 (s7.1 + 1), (s7.2.set s7.1.toNat x19)), rfl, i12⟩
 refine T.condT rfl (decide_eq_true c23) ?_
 refine aS ?_
 refine TL.op1 (OpR.build rfl rfl rfl rfl rfl) rfl ?_
 refine TL.op0 (OpR.store 0 rfl rfl rfl rfl rfl rfl rfl rfl) ?_
 refine aA rfl rfl ?_
 refine aN rfl ?_
 refine T.ret ?_
 obtain rfl := Option.some.inj q11
 obtain rfl : _ = _ := i12
 obtain rfl := Option.some.inj h0
 exact PostG.retP (ks := []) (Gst.trans (Gst.only [2, 3] rfl) (Gst.trans (Gst.denil (ReS.cons Re.refl (ReS.cons Re.refl ReS.nil)) (ReO.var (ReL.cons (Re.base .nil) (ReL.cons Re.refl (ReL.cons Re.refl ReL.nil))) (ReO.same (ReO.same (ReO.same ReO.nil))))) (Gst.pick [0] rfl rfl))) undef (cV 0 rfl rfl rfl rfl (cT rfl ResL.nil)) rfl rfl rfl rfl
end Go.Proofs.YtpmhiiemklhbhaaGreat.S
