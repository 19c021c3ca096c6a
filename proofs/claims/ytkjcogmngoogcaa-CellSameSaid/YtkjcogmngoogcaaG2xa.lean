/- Printed by a program of this session's own (gen.py): Lean functions for Go functions, and the proofs that the Go code comes to their answers. -/
import Derived.Test.YtkjcogmngoogcaaG0
set_option linter.unusedVariables false
set_option linter.unusedSimpArgs false
set_option maxRecDepth 20000
namespace Go.Proofs.Ytkjcogmngoogcaa.S
open Go Go.Sm
attribute [local irreducible] T TL OpR CallT iter loop
noncomputable def ref06_Needs.l1 (a0 : List UInt8) (s3 : Int) : Option (Lp Int (Ex Unit Bool)) :=
  if s3 < (a0.length : Int) then
    bnd (bnd (idx a0 s3) fun x13 =>
    if (x13.toNat : Int) = 44 then
      some true
    else
      if (x13.toNat : Int) = 34 then
        some true
      else
        if (x13.toNat : Int) = 13 then
          some true
        else
          some ((x13.toNat : Int) == 10) : Option Bool) fun t12 =>
    if t12 = true then
      some (Lp.done (Ex.ret true))
    else
      some (Lp.next (w64 (s3 + 1)))
  else
    some (Lp.done (Ex.brk ()))
noncomputable def ref06_Needs (a0 : List UInt8) : Option Bool :=
  bnd (loop (ref06_Needs.l1 a0) 0 : Option (Ex Unit Bool)) fun t1 => match t1 with
    | .brk u2 =>
      some false
    | .ret u2 => some u2
set_option maxHeartbeats 4000000 in
theorem ref06_Needs_c {a0 : List UInt8} {res : Bool} (h0 : ref06_Needs a0 = some res) : CallF X 17 [.val (.string (bs a0))] [] (fun x => .val (.bool res)) (fun x => []) := by
 unfold ref06_Needs at h0
 refine CallF.mkG (X := X) Try.func17 rfl rfl Try.ntmps17 rfl rfl ?_
 refine T.seq ?_
 refine T.region ?_
 refine TL.op1 (OpR.pure rfl) rfl ?_
 refine TL.nil ?_
 show T X _ _ _
 refine T.seq ?_
 refine T.seq ?_
 refine T.region ?_
 refine TL.op1 (OpR.pure rfl) rfl ?_
 refine TL.nil ?_
 show T X _ _ _
 obtain ⟨t1, ht1, h0⟩ := bnd_some h0
 refine T.cutC (fun S' => ∃ u2, t1 = Ex.brk u2 ∧ S' = ⟨[(2, .val (.bool false))], [], 32⟩) (fun _ h => h) ?_ ?_
 rotate_left
 · rintro _ ⟨u2, rfl, rfl⟩
   show T X _ _ _
   refine T.seq ?_
   refine T.region ?_
   refine TL.op1 (OpR.pure rfl) rfl ?_
   refine TL.nil ?_
   show T X _ _ _
   refine T.ret ?_
   obtain rfl := Option.some.inj h0
   exact PostG.retP (ks := []) (Gst.only [2] rfl) undef (ResL.cons (ResV.tmp rfl) ResL.nil) rfl rfl rfl rfl
 refine T.block ?_
 obtain ⟨n4, n9⟩ := loop_some ht1
 refine T.loop (fun n S' => ∃ S'', Gst S' S'' ∧ ∃ s3 : Int, S'' = ⟨[(3, .val (.int .i64 s3)), (2, .val (.bool false)), (0, .val (.string (bs a0)))], [], 32⟩ ∧ iter (ref06_Needs.l1 a0) n s3 = some t1) n4 ?_ ?_
 · exact ⟨_, Gst.only [0, 2, 3] rfl, 0, rfl, n9⟩
 rintro n4 _ ⟨_, g, s3, rfl, i8⟩
 refine T.ghost g ?_
 obtain ⟨m5, q6, rfl, q7, i8⟩ := iter_succ i8
 unfold ref06_Needs.l1 at q7
 refine T.seq ?_
 refine T.seq ?_
 refine T.region ?_
 refine TL.op1 (OpR.pure rfl) rfl ?_
 refine TL.op1 (OpR.pure rfl) rfl ?_
 refine TL.op1 (OpR.cast (OpR.pure rfl) (intE (lenS _))) rfl ?_
 refine TL.op1 (OpR.pure rfl) rfl ?_
 refine TL.nil ?_
 show T X _ _ _
 rcases ite_some q7 with ⟨c11, q7⟩ | ⟨c11, q7⟩
 rotate_left
 · refine T.condF rfl (decide_eq_false c11) ?_
   refine T.exit ?_
   obtain rfl := Option.some.inj q7
   obtain rfl : _ = _ := i8
   exact ⟨_, Gst.only [2] rfl, _, rfl, rfl⟩
 refine T.condT rfl (decide_eq_true c11) ?_
 refine T.skip ?_
 show T X _ _ _
 refine T.seq ?_
 refine T.block ?_
 refine T.seq ?_
 obtain ⟨t12, ht12, q7⟩ := bnd_some q7
 refine T.cutC (fun S' => S' = ⟨[(31, .val (.bool t12)), (3, .val (.int .i64 s3)), (2, .val (.bool false)), (0, .val (.string (bs a0)))], [], 32⟩) (fun _ h => h) ?_ ?_
 rotate_left
 · rintro _ rfl
   show T X _ _ _
   rcases ite_some q7 with ⟨c17, q7⟩ | ⟨c17, q7⟩
   rotate_left
   · refine T.condF rfl (eq_false_of_ne_true c17) ?_
     refine T.skip ?_
     show T X _ _ _
     refine T.region ?_
     refine TL.op1 (OpR.pure rfl) rfl ?_
     refine TL.op1 (OpR.pure rfl) rfl ?_
     refine TL.op1 (OpR.pure rfl) rfl ?_
     refine TL.nil ?_
     obtain rfl := Option.some.inj q7
     exact ⟨m5, Nat.lt_succ_self _, _, Gst.only [0, 2, 3] rfl, w64 (s3 + 1), rfl, i8⟩
   refine T.condT rfl (c17) ?_
   refine T.seq ?_
   refine T.region ?_
   refine TL.op1 (OpR.pure rfl) rfl ?_
   refine TL.nil ?_
   show T X _ _ _
   refine T.ret ?_
   obtain rfl := Option.some.inj q7
   obtain rfl : _ = _ := i8
   obtain rfl := Option.some.inj h0
   exact PostG.retP (ks := []) (Gst.only [2] rfl) undef (ResL.cons (ResV.tmp rfl) ResL.nil) rfl rfl rfl rfl
 refine T.region ?_
 refine TL.op1 (OpR.pure rfl) rfl ?_
 refine TL.op1 (OpR.pure rfl) rfl ?_
 obtain ⟨x13, hx13, ht12⟩ := bnd_some ht12
 refine TL.op1 (OpR.indexS hx13 rfl rfl rfl rfl) rfl ?_
 refine TL.op1 (OpR.pure rfl) rfl ?_
 refine TL.op1 (OpR.pure rfl) rfl ?_
 rcases ite_some ht12 with ⟨c14, ht12⟩ | ⟨c14, ht12⟩
 · refine TL.off rfl rfl rfl rfl (beq_iff_eq.2 c14) rfl rfl ?_
   refine TL.off rfl rfl rfl rfl (beq_iff_eq.2 c14) rfl rfl ?_
   refine TL.off rfl rfl rfl rfl (beq_iff_eq.2 c14) rfl rfl ?_
   refine TL.off rfl rfl rfl rfl (beq_iff_eq.2 c14) rfl rfl ?_
   refine TL.op1 (OpR.pickT rfl (beq_iff_eq.2 c14) rfl) rfl ?_
   refine TL.op1 (OpR.pure rfl) rfl ?_
   refine TL.off rfl rfl rfl rfl rfl rfl rfl ?_
   refine TL.off rfl rfl rfl rfl rfl rfl rfl ?_
   refine TL.off rfl rfl rfl rfl rfl rfl rfl ?_
   refine TL.off rfl rfl rfl rfl rfl rfl rfl ?_
   refine TL.op1 (OpR.pickT rfl rfl rfl) rfl ?_
   refine TL.op1 (OpR.pure rfl) rfl ?_
   refine TL.off rfl rfl rfl rfl rfl rfl rfl ?_
   refine TL.off rfl rfl rfl rfl rfl rfl rfl ?_
   refine TL.off rfl rfl rfl rfl rfl rfl rfl ?_
   refine TL.off rfl rfl rfl rfl rfl rfl rfl ?_
   refine TL.op1 (OpR.pickT rfl rfl rfl) rfl ?_
   refine TL.nil ?_
   obtain rfl := Option.some.inj ht12
   exact ⟨_, Gst.only [0, 2, 3, 31] rfl, rfl⟩
 refine TL.on rfl rfl rfl rfl (beq_eq_false_iff_ne.2 c14) ?_
 refine TL.op1 (OpR.pure rfl) rfl ?_
 refine TL.on rfl rfl rfl rfl (beq_eq_false_iff_ne.2 c14) ?_
 refine TL.op1 (OpR.pure rfl) rfl ?_
 refine TL.on rfl rfl rfl rfl (beq_eq_false_iff_ne.2 c14) ?_
 refine TL.op1 (OpR.indexS hx13 rfl rfl rfl rfl) rfl ?_
 refine TL.on rfl rfl rfl rfl (beq_eq_false_iff_ne.2 c14) ?_
 refine TL.op1 (OpR.pure rfl) rfl ?_
 refine TL.op1 (OpR.pickF rfl (beq_eq_false_iff_ne.2 c14) rfl) rfl ?_
 refine TL.op1 (OpR.pure rfl) rfl ?_
 rcases ite_some ht12 with ⟨c15, ht12⟩ | ⟨c15, ht12⟩
 · refine TL.off rfl rfl rfl rfl (beq_iff_eq.2 c15) rfl rfl ?_
   refine TL.off rfl rfl rfl rfl (beq_iff_eq.2 c15) rfl rfl ?_
   refine TL.off rfl rfl rfl rfl (beq_iff_eq.2 c15) rfl rfl ?_
   refine TL.off rfl rfl rfl rfl (beq_iff_eq.2 c15) rfl rfl ?_
   refine TL.op1 (OpR.pickT rfl (beq_iff_eq.2 c15) rfl) rfl ?_
   refine TL.op1 (OpR.pure rfl) rfl ?_
   refine TL.off rfl rfl rfl rfl rfl rfl rfl ?_
   refine TL.off rfl rfl rfl rfl rfl rfl rfl ?_
   refine TL.off rfl rfl rfl rfl rfl rfl rfl ?_
   refine TL.off rfl rfl rfl rfl rfl rfl rfl ?_
   refine TL.op1 (OpR.pickT rfl rfl rfl) rfl ?_
   refine TL.nil ?_
   obtain rfl := Option.some.inj ht12
   exact ⟨_, Gst.only [0, 2, 3, 31] rfl, rfl⟩
 refine TL.on rfl rfl rfl rfl (beq_eq_false_iff_ne.2 c15) ?_
 refine TL.op1 (OpR.pure rfl) rfl ?_
 refine TL.on rfl rfl rfl rfl (beq_eq_false_iff_ne.2 c15) ?_
 refine TL.op1 (OpR.pure rfl) rfl ?_
 refine TL.on rfl rfl rfl rfl (beq_eq_false_iff_ne.2 c15) ?_
 refine TL.op1 (OpR.indexS hx13 rfl rfl rfl rfl) rfl ?_
 refine TL.on rfl rfl rfl rfl (beq_eq_false_iff_ne.2 c15) ?_
 refine TL.op1 (OpR.pure rfl) rfl ?_
 refine TL.op1 (OpR.pickF rfl (beq_eq_false_iff_ne.2 c15) rfl) rfl ?_
 refine TL.op1 (OpR.pure rfl) rfl ?_
 rcases ite_some ht12 with ⟨c16, ht12⟩ | ⟨c16, ht12⟩
 · refine TL.off rfl rfl rfl rfl (beq_iff_eq.2 c16) rfl rfl ?_
   refine TL.off rfl rfl rfl rfl (beq_iff_eq.2 c16) rfl rfl ?_
   refine TL.off rfl rfl rfl rfl (beq_iff_eq.2 c16) rfl rfl ?_
   refine TL.off rfl rfl rfl rfl (beq_iff_eq.2 c16) rfl rfl ?_
   refine TL.op1 (OpR.pickT rfl (beq_iff_eq.2 c16) rfl) rfl ?_
   refine TL.nil ?_
   obtain rfl := Option.some.inj ht12
   exact ⟨_, Gst.only [0, 2, 3, 31] rfl, rfl⟩
 refine TL.on rfl rfl rfl rfl (beq_eq_false_iff_ne.2 c16) ?_
 refine TL.op1 (OpR.pure rfl) rfl ?_
 refine TL.on rfl rfl rfl rfl (beq_eq_false_iff_ne.2 c16) ?_
 refine TL.op1 (OpR.pure rfl) rfl ?_
 refine TL.on rfl rfl rfl rfl (beq_eq_false_iff_ne.2 c16) ?_
 refine TL.op1 (OpR.indexS hx13 rfl rfl rfl rfl) rfl ?_
 refine TL.on rfl rfl rfl rfl (beq_eq_false_iff_ne.2 c16) ?_
 refine TL.op1 (OpR.pure rfl) rfl ?_
 refine TL.op1 (OpR.pickF rfl (beq_eq_false_iff_ne.2 c16) rfl) rfl ?_
 refine TL.nil ?_
 obtain rfl := Option.some.inj ht12
 exact ⟨_, Gst.only [0, 2, 3, 31] rfl, rfl⟩
noncomputable def ref06_Put.l1 (a0 : List UInt8) (s4 : (List UInt8) × Int) : Option (Lp ((List UInt8) × Int) (List UInt8)) :=
  if s4.2 < (a0.length : Int) then
    bnd (cut a0 s4.2 (w64 (s4.2 + 1))) fun x13 =>
    bnd (catS s4.1 x13) fun x14 =>
    bnd (idx a0 s4.2) fun x15 =>
    bnd (if (x15.toNat : Int) = 34 then
      bnd (catS x14 [34]) fun x18 =>
      some x18
    else
      some x14 : Option (List UInt8)) fun t16 =>
    some (Lp.next (t16, w64 (s4.2 + 1)))
  else
    some (Lp.done s4.1)
noncomputable def ref06_Put (a0 : List UInt8) : Option (List UInt8) :=
  bnd (ref06_Needs a0) fun x1 =>
  if x1 = true then
    bnd (loop (ref06_Put.l1 a0) ([34], 0) : Option (List UInt8)) fun t3 =>
    bnd (catS t3 [34]) fun x19 =>
    some x19
  else
    some a0
set_option maxHeartbeats 4000000 in
theorem ref06_Put_c {a0 : List UInt8} {res : (List UInt8)} (h0 : ref06_Put a0 = some res) : CallF X 15 [.val (.string (bs a0))] [] (fun x => .val (.string (bs res))) (fun x => []) := by
 unfold ref06_Put at h0
 refine CallF.mkG (X := X) Try.func15 rfl rfl Try.ntmps15 rfl rfl ?_
 refine T.seq ?_
 refine T.region ?_
 refine TL.op1 (OpR.pure rfl) rfl ?_
 refine TL.nil ?_
 show T X _ _ _
 refine T.seq ?_
 refine T.seq ?_
 refine T.region ?_
 refine TL.op1 (OpR.pure rfl) rfl ?_
 obtain ⟨x1, hx1, h0⟩ := bnd_some h0
 refine TL.op1 (OpR.call0 fn17 (ref06_Needs_c hx1) rfl) rfl ?_
 refine TL.op1 (OpR.pure rfl) rfl ?_
 refine TL.nil ?_
 show T X _ _ _
 rcases ite_some h0 with ⟨c2, h0⟩ | ⟨c2, h0⟩
 rotate_left
 · refine T.condT rfl (not_f (eq_false_of_ne_true c2)) ?_
   refine T.seq ?_
   refine T.region ?_
   refine TL.op1 (OpR.pure rfl) rfl ?_
   refine TL.op1 (OpR.pure rfl) rfl ?_
   refine TL.nil ?_
   show T X _ _ _
   refine T.ret ?_
   obtain rfl := Option.some.inj h0
   exact PostG.retP (ks := []) (Gst.only [2] rfl) undef (ResL.cons (ResV.tmp rfl) ResL.nil) rfl rfl rfl rfl
 refine T.condF rfl (not_t (c2)) ?_
 refine T.skip ?_
 show T X _ _ _
 refine T.seq ?_
 refine T.region ?_
 refine TL.op1 (OpR.pure rfl) rfl ?_
 refine TL.nil ?_
 show T X _ _ _
 refine T.seq ?_
 refine T.seq ?_
 refine T.region ?_
 refine TL.op1 (OpR.pure rfl) rfl ?_
 refine TL.nil ?_
 show T X _ _ _
 obtain ⟨t3, ht3, h0⟩ := bnd_some h0
 refine T.cutC (fun S' => S' = ⟨[(3, .val (.string (bs t3))), (2, .val (.string (bs [])))], [], 30⟩) (fun _ h => h) ?_ ?_
 rotate_left
 · rintro _ rfl
   show T X _ _ _
   refine T.seq ?_
   refine T.region ?_
   refine TL.op1 (OpR.pure rfl) rfl ?_
   obtain ⟨x19, hx19, h0⟩ := bnd_some h0
   refine TL.op1 (OpR.concatM hx19 rfl rfl) rfl ?_
   refine TL.op1 (OpR.pure rfl) rfl ?_
   refine TL.nil ?_
   show T X _ _ _
   refine T.ret ?_
   obtain rfl := Option.some.inj h0
   exact PostG.retP (ks := []) (Gst.only [2] rfl) undef (ResL.cons (ResV.tmp rfl) ResL.nil) rfl rfl rfl rfl
 refine T.block ?_
 obtain ⟨n5, n10⟩ := loop_some ht3
 refine T.loop (fun n S' => ∃ S'', Gst S' S'' ∧ ∃ s4 : (List UInt8) × Int, S'' = ⟨[(4, .val (.int .i64 s4.2)), (3, .val (.string (bs s4.1))), (2, .val (.string (bs []))), (0, .val (.string (bs a0)))], [], 30⟩ ∧ iter (ref06_Put.l1 a0) n s4 = some t3) n5 ?_ ?_
 · exact ⟨_, Gst.only [0, 2, 3, 4] rfl, ([34], 0), rfl, n10⟩
 rintro n5 _ ⟨_, g, s4, rfl, i9⟩
 refine T.ghost g ?_
 obtain ⟨m6, q7, rfl, q8, i9⟩ := iter_succ i9
 unfold ref06_Put.l1 at q8
 refine T.seq ?_
 refine T.seq ?_
 refine T.region ?_
 refine TL.op1 (OpR.pure rfl) rfl ?_
 refine TL.op1 (OpR.pure rfl) rfl ?_
 refine TL.op1 (OpR.cast (OpR.pure rfl) (intE (lenS _))) rfl ?_
 refine TL.op1 (OpR.pure rfl) rfl ?_
 refine TL.nil ?_
 show T X _ _ _
 rcases ite_some q8 with ⟨c12, q8⟩ | ⟨c12, q8⟩
 rotate_left
 · refine T.condF rfl (decide_eq_false c12) ?_
   refine T.exit ?_
   obtain rfl := Option.some.inj q8
   obtain rfl : _ = _ := i9
   exact ⟨_, Gst.only [2, 3] rfl, rfl⟩
 refine T.condT rfl (decide_eq_true c12) ?_
 refine T.skip ?_
 show T X _ _ _
 refine T.seq ?_
 refine T.block ?_
 refine T.seq ?_
 refine T.region ?_
 refine TL.op1 (OpR.pure rfl) rfl ?_
 refine TL.op1 (OpR.pure rfl) rfl ?_
 refine TL.op1 (OpR.pure rfl) rfl ?_
 refine TL.op1 (OpR.pure rfl) rfl ?_
 refine TL.op1 (OpR.pure rfl) rfl ?_
 obtain ⟨x13, hx13, q8⟩ := bnd_some q8
 refine TL.op1 (OpR.sliceS hx13 rfl rfl rfl (BdM.some rfl) (BdM.some rfl)) rfl ?_
 obtain ⟨x14, hx14, q8⟩ := bnd_some q8
 refine TL.op1 (OpR.concatM hx14 rfl rfl) rfl ?_
 refine TL.op1 (OpR.pure rfl) rfl ?_
 refine TL.nil ?_
 show T X _ _ _
 refine T.seq ?_
 refine T.region ?_
 refine TL.op1 (OpR.pure rfl) rfl ?_
 refine TL.op1 (OpR.pure rfl) rfl ?_
 obtain ⟨x15, hx15, q8⟩ := bnd_some q8
 refine TL.op1 (OpR.indexS hx15 rfl rfl rfl rfl) rfl ?_
 refine TL.op1 (OpR.pure rfl) rfl ?_
 refine TL.nil ?_
 show T X _ _ _
 obtain ⟨t16, ht16, q8⟩ := bnd_some q8
 refine T.cutC (fun S' => S' = ⟨[(4, .val (.int .i64 s4.2)), (3, .val (.string (bs t16))), (2, .val (.string (bs []))), (0, .val (.string (bs a0)))], [], 30⟩) (fun _ h => h) ?_ ?_
 rotate_left
 · rintro _ rfl
   show T X _ _ _
   refine T.region ?_
   refine TL.op1 (OpR.pure rfl) rfl ?_
   refine TL.op1 (OpR.pure rfl) rfl ?_
   refine TL.op1 (OpR.pure rfl) rfl ?_
   refine TL.nil ?_
   obtain rfl := Option.some.inj q8
   exact ⟨m6, Nat.lt_succ_self _, _, Gst.only [0, 2, 3, 4] rfl, (t16, w64 (s4.2 + 1)), rfl, i9⟩
 rcases ite_some ht16 with ⟨c17, ht16⟩ | ⟨c17, ht16⟩
 rotate_left
 · refine T.condF rfl (beq_eq_false_iff_ne.2 c17) ?_
   refine T.skip ?_
   obtain rfl := Option.some.inj ht16
   exact ⟨_, Gst.only [0, 2, 3, 4] rfl, rfl⟩
 refine T.condT rfl (beq_iff_eq.2 c17) ?_
 refine T.region ?_
 refine TL.op1 (OpR.pure rfl) rfl ?_
 obtain ⟨x18, hx18, ht16⟩ := bnd_some ht16
 refine TL.op1 (OpR.concatM hx18 rfl rfl) rfl ?_
 refine TL.op1 (OpR.pure rfl) rfl ?_
 refine TL.nil ?_
 obtain rfl := Option.some.inj ht16
 exact ⟨_, Gst.only [0, 2, 3, 4] rfl, rfl⟩
end Go.Proofs.Ytkjcogmngoogcaa.S
