/- Printed by a program of this session's own (gen.py): Lean functions for Go functions, and the proofs that the Go code comes to their answers. -/
import Derived.Test.YtkmdfaodbiknlaaG2xa
import Derived.Test.YtkmdfaodbiknlaaG4xa
set_option linter.unusedVariables false
set_option linter.unusedSimpArgs false
set_option maxRecDepth 20000
namespace Go.Proofs.Ytkmdfaodbiknlaa.S
open Go Go.Sm
attribute [local irreducible] T TL OpR CallT iter loop
noncomputable def law09_fits_nil (a0 : Int) (a1 : Bool) : Option ((List Int) × Bool) :=
  some ([], false)
set_option maxHeartbeats 4000000 in
theorem law09_fits_nil_c {a0 : Int} {a1 : Bool} {res : (List Int) × Bool} (h0 : law09_fits_nil a0 a1 = some res) : CallF X 48 [.val (.pointer none), .val (.int .i64 a0), .val (.bool a1)] [] (fun x => .tup [.sl 1 (List.map (eI .i64) res.1), .val (.bool res.2)]) (fun x => []) := by
 unfold law09_fits_nil at h0
 refine CallF.mkG (X := X) rfl Try.func48 rfl rfl Try.ntmps48 rfl rfl ?_
 refine T.seq ?_
 refine T.region ?_
 refine TL.op1 (OpR.pure rfl) rfl ?_
 refine TL.op1 (OpR.pure rfl) rfl ?_
 refine TL.nil ?_
 show T X _ _ _
 refine T.seq ?_
 refine T.seq ?_
 refine T.region ?_
 refine TL.op1 (OpR.pure rfl) rfl ?_
 refine TL.op1 (OpR.ptrNil rfl rfl rfl) rfl ?_
 refine TL.op1 (OpR.pure rfl) rfl ?_
 refine TL.off rfl rfl rfl rfl rfl rfl rfl ?_
 refine TL.off rfl rfl rfl rfl rfl rfl rfl ?_
 refine TL.op1 (OpR.pickT rfl rfl rfl) rfl ?_
 refine TL.op1 (OpR.pure rfl) rfl ?_
 refine TL.off rfl rfl rfl rfl rfl rfl rfl ?_
 refine TL.off rfl rfl rfl rfl rfl rfl rfl ?_
 refine TL.off rfl rfl rfl rfl rfl rfl rfl ?_
 refine TL.off rfl rfl rfl rfl rfl rfl rfl ?_
 refine TL.off rfl rfl rfl rfl rfl rfl rfl ?_
 refine TL.off rfl rfl rfl rfl rfl rfl rfl ?_
 refine TL.op1 (OpR.pickT rfl rfl rfl) rfl ?_
 refine TL.op1 (OpR.pure rfl) rfl ?_
 refine TL.off rfl rfl rfl rfl rfl rfl rfl ?_
 refine TL.off rfl rfl rfl rfl rfl rfl rfl ?_
 refine TL.off rfl rfl rfl rfl rfl rfl rfl ?_
 refine TL.off rfl rfl rfl rfl rfl rfl rfl ?_
 refine TL.off rfl rfl rfl rfl rfl rfl rfl ?_
 refine TL.off rfl rfl rfl rfl rfl rfl rfl ?_
 refine TL.op1 (OpR.pickT rfl rfl rfl) rfl ?_
 refine TL.nil ?_
 show T X _ _ _
 refine T.condT rfl rfl ?_
 refine T.seq ?_
 refine T.region ?_
 refine TL.op1 (OpR.pure rfl) rfl ?_
 refine TL.op1 (OpR.pure rfl) rfl ?_
 refine TL.nil ?_
 show T X _ _ _
 refine T.ret ?_
 obtain rfl := Option.some.inj h0
 exact PostG.retP (ks := []) (Gst.trans (Gst.only [6, 7] rfl) (Gst.denil (ReS.cons Re.refl (ReS.cons (Re.base .nil) ReS.nil)) ReO.nil)) undef (ResL.cons (ResV.tmp rfl) (ResL.cons (ResV.tmp rfl) ResL.nil)) rfl rfl rfl rfl
noncomputable def law09_fits.l1 (x30 : (List Int) × Bool) (s36 : Int × (List Int)) : Option (Lp (Int × (List Int)) (List Int)) :=
  if s36.1 < (x30.1.length : Int) then
    bnd (idx x30.1 s36.1) fun x45 =>
    bnd (app 8 s36.2 [x45]) fun x46 =>
    some (Lp.next (w64 (s36.1 + 1), x46))
  else
    some (Lp.done s36.2)
noncomputable def law09_fits.l2 (a0 : List NP) (a3 : Int) (self : (List NP) → (List Int) → Int → Int → Bool → Option ((List Int) × Bool)) (s19 : Bool × Int × (List Int)) : Option (Lp (Bool × Int × (List Int)) (Bool × (List Int))) :=
  if s19.2.1 < (a0.length : Int) then
    bnd (idx a0 s19.2.1) fun x28 =>
    bnd (o_tree_Node_int x28) fun x29 =>
    bnd (self x29.fKids x29.fItems x29.fN (w64 (a3 - 1)) false) fun x30 =>
    bnd (if s19.1 = true then
      some x30.2
    else
      some false : Option Bool) fun t31 =>
    bnd (loop (law09_fits.l1 x30) (0, s19.2.2) : Option (List Int)) fun t33 =>
    some (Lp.next (t31, w64 (s19.2.1 + 1), t33))
  else
    some (Lp.done (s19.1, s19.2.2))
noncomputable def law09_fits.body (self : (List NP) → (List Int) → Int → Int → Bool → Option ((List Int) × Bool)) (a0 : List NP) (a1 : List Int) (a2 : Int) (a3 : Int) (a4 : Bool) : Option ((List Int) × Bool) :=
  bnd (if a3 < 1 then
    some true
  else
    if (a0.length : Int) > 6 then
      some true
    else
      some (decide ((a1.length : Int) > 6)) : Option Bool) fun t1 =>
  if t1 = true then
    some ([], false)
  else
    if a3 = 1 then
      bnd (if a4 = true then
        some 1
      else
        some 3 : Option Int) fun t6 =>
      bnd (if (a0.length : Int) = 0 then
        if (a1.length : Int) ≥ t6 then
          some (a1, (a2 == (a1.length : Int)))
        else
          some (a1, false)
      else
        some (a1, false) : Option ((List Int) × Bool)) fun t8 =>
      some (t8.1, t8.2)
    else
      bnd (if a4 = true then
        some 2
      else
        some 3 : Option Int) fun t12 =>
      bnd (if (a1.length : Int) = 0 then
        some (decide ((a0.length : Int) ≥ t12))
      else
        some false : Option Bool) fun t14 =>
      bnd (loop (law09_fits.l2 a0 a3 self) (t14, 0, []) : Option (Bool × (List Int))) fun t16 =>
      bnd (if t16.1 = true then
        some (a2 == (t16.2.length : Int))
      else
        some false : Option Bool) fun t48 =>
      some (t16.2, t48)
noncomputable def law09_fits : Nat → (List NP) → (List Int) → Int → Int → Bool → Option ((List Int) × Bool)
  | 0 => fun _ _ _ _ _ => none
  | n + 1 => law09_fits.body (law09_fits n)
set_option maxHeartbeats 4000000 in
theorem law09_fits_c {fu : Nat} {a0 : List NP} {a1 : List Int} {a2 : Int} {a3 : Int} {a4 : Bool} {res : (List Int) × Bool} (h0 : law09_fits fu a0 a1 a2 a3 a4 = some res) : CallF X 48 [.nod [.sl 1 (List.map eNP a0), .sl 1 (List.map (eI .i64) a1), .val (.int .i64 a2)], .val (.int .i64 a3), .val (.bool a4)] [] (fun x => .tup [.sl 1 (List.map (eI .i64) res.1), .val (.bool res.2)]) (fun x => []) := by
 induction fu generalizing a0 a1 a2 a3 a4 res
 · exact nomatch h0
 rename_i fu ih
 replace h0 : law09_fits.body (law09_fits fu) a0 a1 a2 a3 a4 = some res := h0
 unfold law09_fits.body at h0
 refine CallF.mkG (X := X) rfl Try.func48 rfl rfl Try.ntmps48 rfl rfl ?_
 refine T.seq ?_
 refine T.region ?_
 refine TL.op1 (OpR.pure rfl) rfl ?_
 refine TL.op1 (OpR.pure rfl) rfl ?_
 refine TL.nil ?_
 show T X _ _ _
 refine T.seq ?_
 refine T.seq ?_
 obtain ⟨t1, ht1, h0⟩ := bnd_some h0
 refine T.cutC (fun S' => S' = ⟨[(39, .val (.bool t1)), (7, .val (.bool false)), (6, .val (.slice none 0 0)), (2, .val (.bool a4)), (1, .val (.int .i64 a3)), (0, .nod [.sl 1 (List.map eNP a0), .sl 1 (List.map (eI .i64) a1), .val (.int .i64 a2)])], [], 133⟩) (fun _ h => h) ?_ ?_
 · refine T.region ?_
   refine TL.op1 (OpR.pure rfl) rfl ?_
   refine TL.op1 (OpR.nodNil rfl rfl rfl) rfl ?_
   refine TL.op1 (OpR.pure rfl) rfl ?_
   refine TL.on rfl rfl rfl rfl rfl ?_
   refine TL.op1 (OpR.pure rfl) rfl ?_
   refine TL.on rfl rfl rfl rfl rfl ?_
   refine TL.op1 (OpR.pure rfl) rfl ?_
   refine TL.op1 (OpR.pickF rfl rfl rfl) rfl ?_
   refine TL.op1 (OpR.pure rfl) rfl ?_
   rcases ite_some ht1 with ⟨c2, ht1⟩ | ⟨c2, ht1⟩
   · refine TL.off rfl rfl rfl rfl (decide_eq_true c2) rfl rfl ?_
     refine TL.off rfl rfl rfl rfl (decide_eq_true c2) rfl rfl ?_
     refine TL.off rfl rfl rfl rfl (decide_eq_true c2) rfl rfl ?_
     refine TL.off rfl rfl rfl rfl (decide_eq_true c2) rfl rfl ?_
     refine TL.off rfl rfl rfl rfl (decide_eq_true c2) rfl rfl ?_
     refine TL.off rfl rfl rfl rfl (decide_eq_true c2) rfl rfl ?_
     refine TL.op1 (OpR.pickT rfl (decide_eq_true c2) rfl) rfl ?_
     refine TL.op1 (OpR.pure rfl) rfl ?_
     refine TL.off rfl rfl rfl rfl rfl rfl rfl ?_
     refine TL.off rfl rfl rfl rfl rfl rfl rfl ?_
     refine TL.off rfl rfl rfl rfl rfl rfl rfl ?_
     refine TL.off rfl rfl rfl rfl rfl rfl rfl ?_
     refine TL.off rfl rfl rfl rfl rfl rfl rfl ?_
     refine TL.off rfl rfl rfl rfl rfl rfl rfl ?_
     refine TL.op1 (OpR.pickT rfl rfl rfl) rfl ?_
     refine TL.nil ?_
     obtain rfl := Option.some.inj ht1
     exact ⟨_, Gst.only [0, 1, 2, 6, 7, 39] rfl, rfl⟩
   refine TL.on rfl rfl rfl rfl (decide_eq_false c2) ?_
   refine TL.op1 (OpR.pure rfl) rfl ?_
   refine TL.on rfl rfl rfl rfl (decide_eq_false c2) ?_
   refine TL.op1 (OpR.pure rfl) rfl ?_
   refine TL.on rfl rfl rfl rfl (decide_eq_false c2) ?_
   refine TL.op1 (OpR.pure rfl) rfl ?_
   refine TL.on rfl rfl rfl rfl (decide_eq_false c2) ?_
   refine TL.op1 (OpR.pure rfl) rfl ?_
   refine TL.on rfl rfl rfl rfl (decide_eq_false c2) ?_
   refine TL.op1 (OpR.cast (OpR.pure rfl) (intE (lenM _ _))) rfl ?_
   refine TL.on rfl rfl rfl rfl (decide_eq_false c2) ?_
   refine TL.op1 (OpR.pure rfl) rfl ?_
   refine TL.op1 (OpR.pickF rfl (decide_eq_false c2) rfl) rfl ?_
   refine TL.op1 (OpR.pure rfl) rfl ?_
   rcases ite_some ht1 with ⟨c3, ht1⟩ | ⟨c3, ht1⟩
   · refine TL.off rfl rfl rfl rfl (decide_eq_true c3) rfl rfl ?_
     refine TL.off rfl rfl rfl rfl (decide_eq_true c3) rfl rfl ?_
     refine TL.off rfl rfl rfl rfl (decide_eq_true c3) rfl rfl ?_
     refine TL.off rfl rfl rfl rfl (decide_eq_true c3) rfl rfl ?_
     refine TL.off rfl rfl rfl rfl (decide_eq_true c3) rfl rfl ?_
     refine TL.off rfl rfl rfl rfl (decide_eq_true c3) rfl rfl ?_
     refine TL.op1 (OpR.pickT rfl (decide_eq_true c3) rfl) rfl ?_
     refine TL.nil ?_
     obtain rfl := Option.some.inj ht1
     exact ⟨_, Gst.only [0, 1, 2, 6, 7, 39] rfl, rfl⟩
   refine TL.on rfl rfl rfl rfl (decide_eq_false c3) ?_
   refine TL.op1 (OpR.pure rfl) rfl ?_
   refine TL.on rfl rfl rfl rfl (decide_eq_false c3) ?_
   refine TL.op1 (OpR.pure rfl) rfl ?_
   refine TL.on rfl rfl rfl rfl (decide_eq_false c3) ?_
   refine TL.op1 (OpR.pure rfl) rfl ?_
   refine TL.on rfl rfl rfl rfl (decide_eq_false c3) ?_
   refine TL.op1 (OpR.pure rfl) rfl ?_
   refine TL.on rfl rfl rfl rfl (decide_eq_false c3) ?_
   refine TL.op1 (OpR.cast (OpR.pure rfl) (intE (lenM _ _))) rfl ?_
   refine TL.on rfl rfl rfl rfl (decide_eq_false c3) ?_
   refine TL.op1 (OpR.pure rfl) rfl ?_
   refine TL.op1 (OpR.pickF rfl (decide_eq_false c3) rfl) rfl ?_
   refine TL.nil ?_
   obtain rfl := Option.some.inj ht1
   exact ⟨_, Gst.only [0, 1, 2, 6, 7, 39] rfl, rfl⟩
 rintro _ rfl
 show T X _ _ _
 rcases ite_some h0 with ⟨c4, h0⟩ | ⟨c4, h0⟩
 · refine T.condT rfl (c4) ?_
   refine T.seq ?_
   refine T.region ?_
   refine TL.op1 (OpR.pure rfl) rfl ?_
   refine TL.op1 (OpR.pure rfl) rfl ?_
   refine TL.nil ?_
   show T X _ _ _
   refine T.ret ?_
   obtain rfl := Option.some.inj h0
   exact PostG.retP (ks := []) (Gst.trans (Gst.only [6, 7] rfl) (Gst.denil (ReS.cons Re.refl (ReS.cons (Re.base .nil) ReS.nil)) ReO.nil)) undef (ResL.cons (ResV.tmp rfl) (ResL.cons (ResV.tmp rfl) ResL.nil)) rfl rfl rfl rfl
 refine T.condF rfl (eq_false_of_ne_true c4) ?_
 refine T.skip ?_
 show T X _ _ _
 refine T.seq ?_
 refine T.seq ?_
 refine T.region ?_
 refine TL.op1 (OpR.pure rfl) rfl ?_
 refine TL.op1 (OpR.pure rfl) rfl ?_
 refine TL.nil ?_
 show T X _ _ _
 rcases ite_some h0 with ⟨c5, h0⟩ | ⟨c5, h0⟩
 · refine T.condT rfl (beq_iff_eq.2 c5) ?_
   refine T.seq ?_
   refine T.region ?_
   refine TL.op1 (OpR.pure rfl) rfl ?_
   refine TL.nil ?_
   show T X _ _ _
   refine T.seq ?_
   refine T.seq ?_
   refine T.region ?_
   refine TL.op1 (OpR.pure rfl) rfl ?_
   refine TL.nil ?_
   show T X _ _ _
   obtain ⟨t6, ht6, h0⟩ := bnd_some h0
   refine T.cutC (fun S' => S' = ⟨[(8, .val (.int .i64 t6)), (7, .val (.bool false)), (6, .val (.slice none 0 0)), (2, .val (.bool a4)), (1, .val (.int .i64 a3)), (0, .nod [.sl 1 (List.map eNP a0), .sl 1 (List.map (eI .i64) a1), .val (.int .i64 a2)])], [], 133⟩) (fun _ h => h) ?_ ?_
   · rcases ite_some ht6 with ⟨c7, ht6⟩ | ⟨c7, ht6⟩
     rotate_left
     · refine T.condF rfl (eq_false_of_ne_true c7) ?_
       refine T.skip ?_
       obtain rfl := Option.some.inj ht6
       exact ⟨_, Gst.only [0, 1, 2, 6, 7, 8] rfl, rfl⟩
     refine T.condT rfl (c7) ?_
     refine T.region ?_
     refine TL.op1 (OpR.pure rfl) rfl ?_
     refine TL.nil ?_
     obtain rfl := Option.some.inj ht6
     exact ⟨_, Gst.only [0, 1, 2, 6, 7, 8] rfl, rfl⟩
   rintro _ rfl
   show T X _ _ _
   refine T.seq ?_
   obtain ⟨t8, ht8, h0⟩ := bnd_some h0
   refine T.cutC (fun S' => S' = ⟨[(7, .val (.bool t8.2)), (6, .sl 1 (List.map (eI .i64) t8.1)), (2, .val (.bool a4)), (1, .val (.int .i64 a3)), (0, .nod [.sl 1 (List.map eNP a0), .sl 1 (List.map (eI .i64) a1), .val (.int .i64 a2)])], [], 133⟩) (fun _ h => h) ?_ ?_
   rotate_left
   · rintro _ rfl
     show T X _ _ _
     refine T.ret ?_
     obtain rfl := Option.some.inj h0
     exact PostG.retP (ks := []) (Gst.only [6, 7] rfl) undef (ResL.cons (ResV.tmp rfl) (ResL.cons (ResV.tmp rfl) ResL.nil)) rfl rfl rfl rfl
   rcases ite_some ht8 with ⟨c10, ht8⟩ | ⟨c10, ht8⟩
   rotate_left
   · refine T.drawQ drawsX [.nod [.sl 1 (List.map eNP a0), .sl 1 (List.map (eI .i64) a1), .val (.int .i64 a2)], .nod [.sl 1 (List.map eNP a0), .sl 1 (List.map (eI .i64) a1), .val (.int .i64 a2)], .nod [.sl 1 (List.map (eI .i64) a1), .val (.int .i64 a2)], .sl 1 (List.map (eI .i64) a1), .nod [.sl 1 (List.map eNP a0), .sl 1 (List.map (eI .i64) a1), .val (.int .i64 a2)], .nod [.sl 1 (List.map eNP a0), .sl 1 (List.map (eI .i64) a1), .val (.int .i64 a2)], .nod [.sl 1 (List.map eNP a0), .sl 1 (List.map (eI .i64) a1), .val (.int .i64 a2)], .sl 1 (List.map eNP a0), .val (.int .i64 (a0.length : Int)), .val (.bool ((a0.length : Int) == 0)), .val (.bool ((a0.length : Int) == 0)), .tup [], .tup [], .tup [], .tup [], .tup [], .tup [], .tup [], .val (.bool false), .val (.bool false), .tup [], .tup [], .tup [], .tup [], .tup [], .tup [], .tup [], .tup [], .tup [], .tup [], .val (.bool false), .sl 1 (List.map (eI .i64) a1), .val (.bool false)] [0, 1, 2, 6, 7, 8, 43, 44, 45, 46, 47, 48, 49, 50, 51, 52, 53, 54, 55, 56, 57, 58, 59, 60, 61, 62, 63, 64, 65, 66, 67, 68, 69, 70, 71, 72, 73] (by decide +kernel) rfl ?_ rfl ?_
     rotate_left
     · obtain rfl := Option.some.inj ht8
       exact ⟨_, Gst.only [0, 1, 2, 6, 7] rfl, rfl⟩
     refine OpsQ.yes (Want.plain rfl) rfl (OpR.pure rfl) ?_
     refine OpsQ.yes (Want.plain rfl) rfl (OpR.pure rfl) ?_
     refine OpsQ.yes (Want.plain rfl) rfl (OpR.pure rfl) ?_
     refine OpsQ.yes (Want.plain rfl) rfl (OpR.pure rfl) ?_
     refine OpsQ.yes (Want.plain rfl) rfl (OpR.pure rfl) ?_
     refine OpsQ.yes (Want.plain rfl) rfl (OpR.pure rfl) ?_
     refine OpsQ.yes (Want.plain rfl) rfl (OpR.pure rfl) ?_
     refine OpsQ.yes (Want.plain rfl) rfl (OpR.pure rfl) ?_
     refine OpsQ.yes (Want.plain rfl) rfl (OpR.cast (OpR.pure rfl) (intE (lenM _ _))) ?_
     refine OpsQ.yes (Want.plain rfl) rfl (OpR.pure rfl) ?_
     refine OpsQ.yes (Want.plain rfl) rfl (OpR.pure rfl) ?_
     refine OpsQ.no (Want.bool rfl rfl rfl rfl (by rw [(beq_eq_false_iff_ne.2 c10)]; rfl)) rfl ?_
     refine OpsQ.no (Want.bool rfl rfl rfl rfl (by rw [(beq_eq_false_iff_ne.2 c10)]; rfl)) rfl ?_
     refine OpsQ.no (Want.bool rfl rfl rfl rfl (by rw [(beq_eq_false_iff_ne.2 c10)]; rfl)) rfl ?_
     refine OpsQ.no (Want.bool rfl rfl rfl rfl (by rw [(beq_eq_false_iff_ne.2 c10)]; rfl)) rfl ?_
     refine OpsQ.no (Want.bool rfl rfl rfl rfl (by rw [(beq_eq_false_iff_ne.2 c10)]; rfl)) rfl ?_
     refine OpsQ.no (Want.bool rfl rfl rfl rfl (by rw [(beq_eq_false_iff_ne.2 c10)]; rfl)) rfl ?_
     refine OpsQ.no (Want.bool rfl rfl rfl rfl (by rw [(beq_eq_false_iff_ne.2 c10)]; rfl)) rfl ?_
     refine OpsQ.yes (Want.plain rfl) rfl (OpR.pickF rfl (beq_eq_false_iff_ne.2 c10) rfl) ?_
     refine OpsQ.yes (Want.plain rfl) rfl (OpR.pure rfl) ?_
     refine OpsQ.no (Want.bool rfl rfl rfl rfl rfl) rfl ?_
     refine OpsQ.no (Want.bool rfl rfl rfl rfl rfl) rfl ?_
     refine OpsQ.no (Want.bool rfl rfl rfl rfl rfl) rfl ?_
     refine OpsQ.no (Want.bool rfl rfl rfl rfl rfl) rfl ?_
     refine OpsQ.no (Want.bool rfl rfl rfl rfl rfl) rfl ?_
     refine OpsQ.no (Want.bool rfl rfl rfl rfl rfl) rfl ?_
     refine OpsQ.no (Want.bool rfl rfl rfl rfl rfl) rfl ?_
     refine OpsQ.no (Want.bool rfl rfl rfl rfl rfl) rfl ?_
     refine OpsQ.no (Want.bool rfl rfl rfl rfl rfl) rfl ?_
     refine OpsQ.no (Want.bool rfl rfl rfl rfl rfl) rfl ?_
     refine OpsQ.yes (Want.plain rfl) rfl (OpR.pickF rfl rfl rfl) ?_
     refine OpsQ.yes (Want.plain rfl) rfl (OpR.pure rfl) ?_
     refine OpsQ.yes (Want.plain rfl) rfl (OpR.pure rfl) ?_
     exact OpsQ.nil
   rcases ite_some ht8 with ⟨c11, ht8⟩ | ⟨c11, ht8⟩
   rotate_left
   · refine T.drawQ drawsX [.nod [.sl 1 (List.map eNP a0), .sl 1 (List.map (eI .i64) a1), .val (.int .i64 a2)], .nod [.sl 1 (List.map eNP a0), .sl 1 (List.map (eI .i64) a1), .val (.int .i64 a2)], .nod [.sl 1 (List.map (eI .i64) a1), .val (.int .i64 a2)], .sl 1 (List.map (eI .i64) a1), .nod [.sl 1 (List.map eNP a0), .sl 1 (List.map (eI .i64) a1), .val (.int .i64 a2)], .nod [.sl 1 (List.map eNP a0), .sl 1 (List.map (eI .i64) a1), .val (.int .i64 a2)], .nod [.sl 1 (List.map eNP a0), .sl 1 (List.map (eI .i64) a1), .val (.int .i64 a2)], .sl 1 (List.map eNP a0), .val (.int .i64 (a0.length : Int)), .val (.bool ((a0.length : Int) == 0)), .val (.bool ((a0.length : Int) == 0)), .nod [.sl 1 (List.map eNP a0), .sl 1 (List.map (eI .i64) a1), .val (.int .i64 a2)], .nod [.sl 1 (List.map eNP a0), .sl 1 (List.map (eI .i64) a1), .val (.int .i64 a2)], .nod [.sl 1 (List.map (eI .i64) a1), .val (.int .i64 a2)], .sl 1 (List.map (eI .i64) a1), .val (.int .i64 (a1.length : Int)), .val (.int .i64 t6), .val (.bool (decide ((a1.length : Int) ≥ t6))), .val (.bool (decide ((a1.length : Int) ≥ t6))), .val (.bool (decide ((a1.length : Int) ≥ t6))), .tup [], .tup [], .tup [], .tup [], .tup [], .tup [], .tup [], .tup [], .tup [], .tup [], .val (.bool false), .sl 1 (List.map (eI .i64) a1), .val (.bool false)] [0, 1, 2, 6, 7, 8, 43, 44, 45, 46, 47, 48, 49, 50, 51, 52, 53, 54, 55, 56, 57, 58, 59, 60, 61, 62, 63, 64, 65, 66, 67, 68, 69, 70, 71, 72, 73] (by decide +kernel) rfl ?_ rfl ?_
     rotate_left
     · obtain rfl := Option.some.inj ht8
       exact ⟨_, Gst.only [0, 1, 2, 6, 7] rfl, rfl⟩
     refine OpsQ.yes (Want.plain rfl) rfl (OpR.pure rfl) ?_
     refine OpsQ.yes (Want.plain rfl) rfl (OpR.pure rfl) ?_
     refine OpsQ.yes (Want.plain rfl) rfl (OpR.pure rfl) ?_
     refine OpsQ.yes (Want.plain rfl) rfl (OpR.pure rfl) ?_
     refine OpsQ.yes (Want.plain rfl) rfl (OpR.pure rfl) ?_
     refine OpsQ.yes (Want.plain rfl) rfl (OpR.pure rfl) ?_
     refine OpsQ.yes (Want.plain rfl) rfl (OpR.pure rfl) ?_
     refine OpsQ.yes (Want.plain rfl) rfl (OpR.pure rfl) ?_
     refine OpsQ.yes (Want.plain rfl) rfl (OpR.cast (OpR.pure rfl) (intE (lenM _ _))) ?_
     refine OpsQ.yes (Want.plain rfl) rfl (OpR.pure rfl) ?_
     refine OpsQ.yes (Want.plain rfl) rfl (OpR.pure rfl) ?_
     refine OpsQ.yes (Want.bool rfl rfl rfl rfl (by rw [(beq_iff_eq.2 c10)]; rfl)) rfl (OpR.pure rfl) ?_
     refine OpsQ.yes (Want.bool rfl rfl rfl rfl (by rw [(beq_iff_eq.2 c10)]; rfl)) rfl (OpR.pure rfl) ?_
     refine OpsQ.yes (Want.bool rfl rfl rfl rfl (by rw [(beq_iff_eq.2 c10)]; rfl)) rfl (OpR.pure rfl) ?_
     refine OpsQ.yes (Want.bool rfl rfl rfl rfl (by rw [(beq_iff_eq.2 c10)]; rfl)) rfl (OpR.pure rfl) ?_
     refine OpsQ.yes (Want.bool rfl rfl rfl rfl (by rw [(beq_iff_eq.2 c10)]; rfl)) rfl (OpR.cast (OpR.pure rfl) (intE (lenM _ _))) ?_
     refine OpsQ.yes (Want.bool rfl rfl rfl rfl (by rw [(beq_iff_eq.2 c10)]; rfl)) rfl (OpR.pure rfl) ?_
     refine OpsQ.yes (Want.bool rfl rfl rfl rfl (by rw [(beq_iff_eq.2 c10)]; rfl)) rfl (OpR.pure rfl) ?_
     refine OpsQ.yes (Want.plain rfl) rfl (OpR.pickT rfl (beq_iff_eq.2 c10) rfl) ?_
     refine OpsQ.yes (Want.plain rfl) rfl (OpR.pure rfl) ?_
     refine OpsQ.no (Want.bool rfl rfl rfl rfl (by rw [(decide_eq_false c11)]; rfl)) rfl ?_
     refine OpsQ.no (Want.bool rfl rfl rfl rfl (by rw [(decide_eq_false c11)]; rfl)) rfl ?_
     refine OpsQ.no (Want.bool rfl rfl rfl rfl (by rw [(decide_eq_false c11)]; rfl)) rfl ?_
     refine OpsQ.no (Want.bool rfl rfl rfl rfl (by rw [(decide_eq_false c11)]; rfl)) rfl ?_
     refine OpsQ.no (Want.bool rfl rfl rfl rfl (by rw [(decide_eq_false c11)]; rfl)) rfl ?_
     refine OpsQ.no (Want.bool rfl rfl rfl rfl (by rw [(decide_eq_false c11)]; rfl)) rfl ?_
     refine OpsQ.no (Want.bool rfl rfl rfl rfl (by rw [(decide_eq_false c11)]; rfl)) rfl ?_
     refine OpsQ.no (Want.bool rfl rfl rfl rfl (by rw [(decide_eq_false c11)]; rfl)) rfl ?_
     refine OpsQ.no (Want.bool rfl rfl rfl rfl (by rw [(decide_eq_false c11)]; rfl)) rfl ?_
     refine OpsQ.no (Want.bool rfl rfl rfl rfl (by rw [(decide_eq_false c11)]; rfl)) rfl ?_
     refine OpsQ.yes (Want.plain rfl) rfl (OpR.pickF rfl (decide_eq_false c11) rfl) ?_
     refine OpsQ.yes (Want.plain rfl) rfl (OpR.pure rfl) ?_
     refine OpsQ.yes (Want.plain rfl) rfl (OpR.pure rfl) ?_
     exact OpsQ.nil
   refine T.drawQ drawsX [.nod [.sl 1 (List.map eNP a0), .sl 1 (List.map (eI .i64) a1), .val (.int .i64 a2)], .nod [.sl 1 (List.map eNP a0), .sl 1 (List.map (eI .i64) a1), .val (.int .i64 a2)], .nod [.sl 1 (List.map (eI .i64) a1), .val (.int .i64 a2)], .sl 1 (List.map (eI .i64) a1), .nod [.sl 1 (List.map eNP a0), .sl 1 (List.map (eI .i64) a1), .val (.int .i64 a2)], .nod [.sl 1 (List.map eNP a0), .sl 1 (List.map (eI .i64) a1), .val (.int .i64 a2)], .nod [.sl 1 (List.map eNP a0), .sl 1 (List.map (eI .i64) a1), .val (.int .i64 a2)], .sl 1 (List.map eNP a0), .val (.int .i64 (a0.length : Int)), .val (.bool ((a0.length : Int) == 0)), .val (.bool ((a0.length : Int) == 0)), .nod [.sl 1 (List.map eNP a0), .sl 1 (List.map (eI .i64) a1), .val (.int .i64 a2)], .nod [.sl 1 (List.map eNP a0), .sl 1 (List.map (eI .i64) a1), .val (.int .i64 a2)], .nod [.sl 1 (List.map (eI .i64) a1), .val (.int .i64 a2)], .sl 1 (List.map (eI .i64) a1), .val (.int .i64 (a1.length : Int)), .val (.int .i64 t6), .val (.bool (decide ((a1.length : Int) ≥ t6))), .val (.bool (decide ((a1.length : Int) ≥ t6))), .val (.bool (decide ((a1.length : Int) ≥ t6))), .nod [.sl 1 (List.map eNP a0), .sl 1 (List.map (eI .i64) a1), .val (.int .i64 a2)], .nod [.sl 1 (List.map eNP a0), .sl 1 (List.map (eI .i64) a1), .val (.int .i64 a2)], .nod [.val (.int .i64 a2)], .val (.int .i64 a2), .nod [.sl 1 (List.map eNP a0), .sl 1 (List.map (eI .i64) a1), .val (.int .i64 a2)], .nod [.sl 1 (List.map eNP a0), .sl 1 (List.map (eI .i64) a1), .val (.int .i64 a2)], .nod [.sl 1 (List.map (eI .i64) a1), .val (.int .i64 a2)], .sl 1 (List.map (eI .i64) a1), .val (.int .i64 (a1.length : Int)), .val (.bool (a2 == (a1.length : Int))), .val (.bool (a2 == (a1.length : Int))), .sl 1 (List.map (eI .i64) a1), .val (.bool (a2 == (a1.length : Int)))] [0, 1, 2, 6, 7, 8, 43, 44, 45, 46, 47, 48, 49, 50, 51, 52, 53, 54, 55, 56, 57, 58, 59, 60, 61, 62, 63, 64, 65, 66, 67, 68, 69, 70, 71, 72, 73] (by decide +kernel) rfl ?_ rfl ?_
   rotate_left
   · obtain rfl := Option.some.inj ht8
     exact ⟨_, Gst.only [0, 1, 2, 6, 7] rfl, rfl⟩
   refine OpsQ.yes (Want.plain rfl) rfl (OpR.pure rfl) ?_
   refine OpsQ.yes (Want.plain rfl) rfl (OpR.pure rfl) ?_
   refine OpsQ.yes (Want.plain rfl) rfl (OpR.pure rfl) ?_
   refine OpsQ.yes (Want.plain rfl) rfl (OpR.pure rfl) ?_
   refine OpsQ.yes (Want.plain rfl) rfl (OpR.pure rfl) ?_
   refine OpsQ.yes (Want.plain rfl) rfl (OpR.pure rfl) ?_
   refine OpsQ.yes (Want.plain rfl) rfl (OpR.pure rfl) ?_
   refine OpsQ.yes (Want.plain rfl) rfl (OpR.pure rfl) ?_
   refine OpsQ.yes (Want.plain rfl) rfl (OpR.cast (OpR.pure rfl) (intE (lenM _ _))) ?_
   refine OpsQ.yes (Want.plain rfl) rfl (OpR.pure rfl) ?_
   refine OpsQ.yes (Want.plain rfl) rfl (OpR.pure rfl) ?_
   refine OpsQ.yes (Want.bool rfl rfl rfl rfl (by rw [(beq_iff_eq.2 c10)]; rfl)) rfl (OpR.pure rfl) ?_
   refine OpsQ.yes (Want.bool rfl rfl rfl rfl (by rw [(beq_iff_eq.2 c10)]; rfl)) rfl (OpR.pure rfl) ?_
   refine OpsQ.yes (Want.bool rfl rfl rfl rfl (by rw [(beq_iff_eq.2 c10)]; rfl)) rfl (OpR.pure rfl) ?_
   refine OpsQ.yes (Want.bool rfl rfl rfl rfl (by rw [(beq_iff_eq.2 c10)]; rfl)) rfl (OpR.pure rfl) ?_
   refine OpsQ.yes (Want.bool rfl rfl rfl rfl (by rw [(beq_iff_eq.2 c10)]; rfl)) rfl (OpR.cast (OpR.pure rfl) (intE (lenM _ _))) ?_
   refine OpsQ.yes (Want.bool rfl rfl rfl rfl (by rw [(beq_iff_eq.2 c10)]; rfl)) rfl (OpR.pure rfl) ?_
   refine OpsQ.yes (Want.bool rfl rfl rfl rfl (by rw [(beq_iff_eq.2 c10)]; rfl)) rfl (OpR.pure rfl) ?_
   refine OpsQ.yes (Want.plain rfl) rfl (OpR.pickT rfl (beq_iff_eq.2 c10) rfl) ?_
   refine OpsQ.yes (Want.plain rfl) rfl (OpR.pure rfl) ?_
   refine OpsQ.yes (Want.bool rfl rfl rfl rfl (by rw [(decide_eq_true c11)]; rfl)) rfl (OpR.pure rfl) ?_
   refine OpsQ.yes (Want.bool rfl rfl rfl rfl (by rw [(decide_eq_true c11)]; rfl)) rfl (OpR.pure rfl) ?_
   refine OpsQ.yes (Want.bool rfl rfl rfl rfl (by rw [(decide_eq_true c11)]; rfl)) rfl (OpR.pure rfl) ?_
   refine OpsQ.yes (Want.bool rfl rfl rfl rfl (by rw [(decide_eq_true c11)]; rfl)) rfl (OpR.pure rfl) ?_
   refine OpsQ.yes (Want.bool rfl rfl rfl rfl (by rw [(decide_eq_true c11)]; rfl)) rfl (OpR.pure rfl) ?_
   refine OpsQ.yes (Want.bool rfl rfl rfl rfl (by rw [(decide_eq_true c11)]; rfl)) rfl (OpR.pure rfl) ?_
   refine OpsQ.yes (Want.bool rfl rfl rfl rfl (by rw [(decide_eq_true c11)]; rfl)) rfl (OpR.pure rfl) ?_
   refine OpsQ.yes (Want.bool rfl rfl rfl rfl (by rw [(decide_eq_true c11)]; rfl)) rfl (OpR.pure rfl) ?_
   refine OpsQ.yes (Want.bool rfl rfl rfl rfl (by rw [(decide_eq_true c11)]; rfl)) rfl (OpR.cast (OpR.pure rfl) (intE (lenM _ _))) ?_
   refine OpsQ.yes (Want.bool rfl rfl rfl rfl (by rw [(decide_eq_true c11)]; rfl)) rfl (OpR.pure rfl) ?_
   refine OpsQ.yes (Want.plain rfl) rfl (OpR.pickT rfl (decide_eq_true c11) rfl) ?_
   refine OpsQ.yes (Want.plain rfl) rfl (OpR.pure rfl) ?_
   refine OpsQ.yes (Want.plain rfl) rfl (OpR.pure rfl) ?_
   exact OpsQ.nil
 refine T.condF rfl (beq_eq_false_iff_ne.2 c5) ?_
 refine T.skip ?_
 show T X _ _ _
 refine T.seq ?_
 refine T.region ?_
 refine TL.op1 (OpR.pure rfl) rfl ?_
 refine TL.nil ?_
 show T X _ _ _
 refine T.seq ?_
 refine T.seq ?_
 refine T.region ?_
 refine TL.op1 (OpR.pure rfl) rfl ?_
 refine TL.nil ?_
 show T X _ _ _
 obtain ⟨t12, ht12, h0⟩ := bnd_some h0
 refine T.cutC (fun S' => S' = ⟨[(9, .val (.int .i64 t12)), (7, .val (.bool false)), (6, .val (.slice none 0 0)), (1, .val (.int .i64 a3)), (0, .nod [.sl 1 (List.map eNP a0), .sl 1 (List.map (eI .i64) a1), .val (.int .i64 a2)])], [], 133⟩) (fun _ h => h) ?_ ?_
 · rcases ite_some ht12 with ⟨c13, ht12⟩ | ⟨c13, ht12⟩
   rotate_left
   · refine T.condF rfl (eq_false_of_ne_true c13) ?_
     refine T.skip ?_
     obtain rfl := Option.some.inj ht12
     exact ⟨_, Gst.only [0, 1, 6, 7, 9] rfl, rfl⟩
   refine T.condT rfl (c13) ?_
   refine T.region ?_
   refine TL.op1 (OpR.pure rfl) rfl ?_
   refine TL.nil ?_
   obtain rfl := Option.some.inj ht12
   exact ⟨_, Gst.only [0, 1, 6, 7, 9] rfl, rfl⟩
 rintro _ rfl
 show T X _ _ _
 refine T.seq ?_
 refine T.region ?_
 refine TL.op1 (OpR.pure rfl) rfl ?_
 refine TL.nil ?_
 show T X _ _ _
 refine T.seq ?_
 obtain ⟨t14, ht14, h0⟩ := bnd_some h0
 refine T.cutC (fun S' => S' = ⟨[(11, .val (.bool t14)), (10, .val (.slice none 0 0)), (7, .val (.bool false)), (6, .val (.slice none 0 0)), (1, .val (.int .i64 a3)), (0, .nod [.sl 1 (List.map eNP a0), .sl 1 (List.map (eI .i64) a1), .val (.int .i64 a2)])], [], 133⟩) (fun _ h => h) ?_ ?_
 · refine T.region ?_
   refine TL.op1 (OpR.pure rfl) rfl ?_
   refine TL.op1 (OpR.pure rfl) rfl ?_
   refine TL.op1 (OpR.pure rfl) rfl ?_
   refine TL.op1 (OpR.pure rfl) rfl ?_
   refine TL.op1 (OpR.cast (OpR.pure rfl) (intE (lenM _ _))) rfl ?_
   refine TL.op1 (OpR.pure rfl) rfl ?_
   refine TL.op1 (OpR.pure rfl) rfl ?_
   rcases ite_some ht14 with ⟨c15, ht14⟩ | ⟨c15, ht14⟩
   rotate_left
   · refine TL.off rfl rfl rfl rfl (beq_eq_false_iff_ne.2 c15) rfl rfl ?_
     refine TL.off rfl rfl rfl rfl (beq_eq_false_iff_ne.2 c15) rfl rfl ?_
     refine TL.off rfl rfl rfl rfl (beq_eq_false_iff_ne.2 c15) rfl rfl ?_
     refine TL.off rfl rfl rfl rfl (beq_eq_false_iff_ne.2 c15) rfl rfl ?_
     refine TL.off rfl rfl rfl rfl (beq_eq_false_iff_ne.2 c15) rfl rfl ?_
     refine TL.off rfl rfl rfl rfl (beq_eq_false_iff_ne.2 c15) rfl rfl ?_
     refine TL.off rfl rfl rfl rfl (beq_eq_false_iff_ne.2 c15) rfl rfl ?_
     refine TL.op1 (OpR.pickF rfl (beq_eq_false_iff_ne.2 c15) rfl) rfl ?_
     refine TL.op1 (OpR.pure rfl) rfl ?_
     refine TL.nil ?_
     obtain rfl := Option.some.inj ht14
     exact ⟨_, Gst.only [0, 1, 6, 7, 10, 11] rfl, rfl⟩
   refine TL.on rfl rfl rfl rfl (beq_iff_eq.2 c15) ?_
   refine TL.op1 (OpR.pure rfl) rfl ?_
   refine TL.on rfl rfl rfl rfl (beq_iff_eq.2 c15) ?_
   refine TL.op1 (OpR.pure rfl) rfl ?_
   refine TL.on rfl rfl rfl rfl (beq_iff_eq.2 c15) ?_
   refine TL.op1 (OpR.pure rfl) rfl ?_
   refine TL.on rfl rfl rfl rfl (beq_iff_eq.2 c15) ?_
   refine TL.op1 (OpR.pure rfl) rfl ?_
   refine TL.on rfl rfl rfl rfl (beq_iff_eq.2 c15) ?_
   refine TL.op1 (OpR.cast (OpR.pure rfl) (intE (lenM _ _))) rfl ?_
   refine TL.on rfl rfl rfl rfl (beq_iff_eq.2 c15) ?_
   refine TL.op1 (OpR.pure rfl) rfl ?_
   refine TL.on rfl rfl rfl rfl (beq_iff_eq.2 c15) ?_
   refine TL.op1 (OpR.pure rfl) rfl ?_
   refine TL.op1 (OpR.pickT rfl (beq_iff_eq.2 c15) rfl) rfl ?_
   refine TL.op1 (OpR.pure rfl) rfl ?_
   refine TL.nil ?_
   obtain rfl := Option.some.inj ht14
   exact ⟨_, Gst.only [0, 1, 6, 7, 10, 11] rfl, rfl⟩
 rintro _ rfl
 show T X _ _ _
 refine T.seq ?_
 refine T.seq ?_
 refine T.region ?_
 refine TL.op1 (OpR.pure rfl) rfl ?_
 refine TL.op1 (OpR.pure rfl) rfl ?_
 refine TL.op1 (OpR.pure rfl) rfl ?_
 refine TL.op1 (OpR.pure rfl) rfl ?_
 refine TL.op1 (OpR.cast (OpR.pure rfl) (intE (lenM _ _))) rfl ?_
 refine TL.op1 (OpR.pure rfl) rfl ?_
 refine TL.nil ?_
 show T X _ _ _
 obtain ⟨t16, ht16, h0⟩ := bnd_some h0
 refine T.cutC (fun S' => ∃ y17 : Value, S' = ⟨[(11, .val (.bool t16.1)), (10, .val y17), (7, .val (.bool false)), (6, .val (.slice none 0 0)), (0, .nod [.sl 1 (List.map eNP a0), .sl 1 (List.map (eI .i64) a1), .val (.int .i64 a2)])], [.row y17 (List.map (eI .i64) t16.2) 1 3], 133⟩) (fun _ h => h) ?_ ?_
 rotate_left
 · rintro _ ⟨y17, rfl⟩
   show T X _ _ _
   refine T.seq ?_
   obtain ⟨t48, ht48, h0⟩ := bnd_some h0
   refine T.cutC (fun S' => S' = ⟨[(7, .val (.bool t48)), (6, .val y17)], [.row y17 (List.map (eI .i64) t16.2) 1 3], 133⟩) (fun _ h => h) ?_ ?_
   rotate_left
   · rintro _ rfl
     show T X _ _ _
     refine T.ret ?_
     obtain rfl := Option.some.inj h0
     exact PostG.retP (ks := []) (Gst.trans (Gst.only [6, 7] rfl) (Gst.trans (Gst.freezeRow 0 rfl rfl (ReS.cons Re.refl (ReS.cons (Re.base .all) ReS.nil)) (ReO.same ReO.nil)) (Gst.pick [] rfl rfl))) undef (ResL.cons (ResV.tmp rfl) (ResL.cons (ResV.tmp rfl) ResL.nil)) rfl rfl rfl rfl
   rcases ite_some ht48 with ⟨c50, ht48⟩ | ⟨c50, ht48⟩
   rotate_left
   · refine T.drawQ drawsX [.val y17, .val (.bool t16.1), .val (.bool t16.1), .tup [], .tup [], .tup [], .tup [], .tup [], .tup [], .tup [], .val (.bool false), .val y17, .val (.bool false)] [0, 6, 7, 10, 11, 122, 123, 124, 125, 126, 127, 128, 129, 130, 131, 132] (by decide +kernel) rfl ?_ rfl ?_
     rotate_left
     · obtain rfl := Option.some.inj ht48
       exact ⟨_, Gst.only [6, 7] rfl, rfl⟩
     refine OpsQ.yes (Want.plain rfl) rfl (OpR.pure rfl) ?_
     refine OpsQ.yes (Want.plain rfl) rfl (OpR.pure rfl) ?_
     refine OpsQ.yes (Want.plain rfl) rfl (OpR.pure rfl) ?_
     refine OpsQ.no (Want.bool rfl rfl rfl rfl (by rw [(eq_false_of_ne_true c50)]; rfl)) rfl ?_
     refine OpsQ.no (Want.bool rfl rfl rfl rfl (by rw [(eq_false_of_ne_true c50)]; rfl)) rfl ?_
     refine OpsQ.no (Want.bool rfl rfl rfl rfl (by rw [(eq_false_of_ne_true c50)]; rfl)) rfl ?_
     refine OpsQ.no (Want.bool rfl rfl rfl rfl (by rw [(eq_false_of_ne_true c50)]; rfl)) rfl ?_
     refine OpsQ.no (Want.bool rfl rfl rfl rfl (by rw [(eq_false_of_ne_true c50)]; rfl)) rfl ?_
     refine OpsQ.no (Want.bool rfl rfl rfl rfl (by rw [(eq_false_of_ne_true c50)]; rfl)) rfl ?_
     refine OpsQ.no (Want.bool rfl rfl rfl rfl (by rw [(eq_false_of_ne_true c50)]; rfl)) rfl ?_
     refine OpsQ.yes (Want.plain rfl) rfl (OpR.pickF rfl (eq_false_of_ne_true c50) rfl) ?_
     refine OpsQ.yes (Want.plain rfl) rfl (OpR.pure rfl) ?_
     refine OpsQ.yes (Want.plain rfl) rfl (OpR.pure rfl) ?_
     exact OpsQ.nil
   refine T.drawQ drawsX [.val y17, .val (.bool t16.1), .val (.bool t16.1), .nod [.sl 1 (List.map eNP a0), .sl 1 (List.map (eI .i64) a1), .val (.int .i64 a2)], .nod [.sl 1 (List.map eNP a0), .sl 1 (List.map (eI .i64) a1), .val (.int .i64 a2)], .nod [.val (.int .i64 a2)], .val (.int .i64 a2), .val y17, .val (.int .i64 (t16.2.length : Int)), .val (.bool (a2 == (t16.2.length : Int))), .val (.bool (a2 == (t16.2.length : Int))), .val y17, .val (.bool (a2 == (t16.2.length : Int)))] [0, 6, 7, 10, 11, 122, 123, 124, 125, 126, 127, 128, 129, 130, 131, 132] (by decide +kernel) rfl ?_ rfl ?_
   rotate_left
   · obtain rfl := Option.some.inj ht48
     exact ⟨_, Gst.only [6, 7] rfl, rfl⟩
   refine OpsQ.yes (Want.plain rfl) rfl (OpR.pure rfl) ?_
   refine OpsQ.yes (Want.plain rfl) rfl (OpR.pure rfl) ?_
   refine OpsQ.yes (Want.plain rfl) rfl (OpR.pure rfl) ?_
   refine OpsQ.yes (Want.bool rfl rfl rfl rfl (by rw [(c50)]; rfl)) rfl (OpR.pure rfl) ?_
   refine OpsQ.yes (Want.bool rfl rfl rfl rfl (by rw [(c50)]; rfl)) rfl (OpR.pure rfl) ?_
   refine OpsQ.yes (Want.bool rfl rfl rfl rfl (by rw [(c50)]; rfl)) rfl (OpR.pure rfl) ?_
   refine OpsQ.yes (Want.bool rfl rfl rfl rfl (by rw [(c50)]; rfl)) rfl (OpR.pure rfl) ?_
   refine OpsQ.yes (Want.bool rfl rfl rfl rfl (by rw [(c50)]; rfl)) rfl (OpR.pure rfl) ?_
   refine OpsQ.yes (Want.bool rfl rfl rfl rfl (by rw [(c50)]; rfl)) rfl (OpR.rowLenM (eI .i64) 0 rfl rfl rfl rfl) ?_
   refine OpsQ.yes (Want.bool rfl rfl rfl rfl (by rw [(c50)]; rfl)) rfl (OpR.pure rfl) ?_
   refine OpsQ.yes (Want.plain rfl) rfl (OpR.pickT rfl (c50) rfl) ?_
   refine OpsQ.yes (Want.plain rfl) rfl (OpR.pure rfl) ?_
   refine OpsQ.yes (Want.plain rfl) rfl (OpR.pure rfl) ?_
   exact OpsQ.nil
 refine T.block ?_
 obtain ⟨n20, n25⟩ := loop_some ht16
 refine T.loop (fun n S' => ∃ S'', Gst S' S'' ∧ ∃ y18 : Value, ∃ s19 : Bool × Int × (List Int), S'' = ⟨[(95, .val (.int .i64 s19.2.1)), (94, .val (.int .i64 (a0.length : Int))), (93, .sl 1 (List.map eNP a0)), (11, .val (.bool s19.1)), (10, .val y18), (7, .val (.bool false)), (6, .val (.slice none 0 0)), (1, .val (.int .i64 a3)), (0, .nod [.sl 1 (List.map eNP a0), .sl 1 (List.map (eI .i64) a1), .val (.int .i64 a2)])], [.row y18 (List.map (eI .i64) s19.2.2) 1 3], 133⟩ ∧ iter (law09_fits.l2 a0 a3 (law09_fits fu)) n s19 = some t16) n20 ?_ ?_
 · exact ⟨_, Gst.trans (Gst.only [0, 1, 6, 7, 10, 11, 93, 94, 95] rfl) (Gst.nilRow (ow := []) 1 3 rfl), (.slice none 0 0), (t14, 0, []), rfl, n25⟩
 rintro n20 _ ⟨_, g, y18, s19, rfl, i24⟩
 refine T.ghost g ?_
 obtain ⟨m21, q22, rfl, q23, i24⟩ := iter_succ i24
 unfold law09_fits.l2 at q23
 refine T.seq ?_
 refine T.region ?_
 refine TL.op1 (OpR.pure rfl) rfl ?_
 refine TL.nil ?_
 show T X _ _ _
 refine T.seq ?_
 rcases ite_some q23 with ⟨c27, q23⟩ | ⟨c27, q23⟩
 rotate_left
 · refine T.condF rfl (decide_eq_false c27) ?_
   refine T.exit ?_
   obtain rfl := Option.some.inj q23
   obtain rfl : _ = _ := i24
   exact ⟨_, Gst.only [0, 6, 7, 10, 11] rfl, y18, rfl⟩
 refine T.condT rfl (decide_eq_true c27) ?_
 refine T.skip ?_
 show T X _ _ _
 refine T.seq ?_
 refine T.block ?_
 refine T.seq ?_
 refine T.region ?_
 obtain ⟨x28, hx28, q23⟩ := bnd_some q23
 obtain ⟨x29, hx29, q23⟩ := bnd_some q23
 rw [o_tree_Node_int_eq hx29] at hx28
 refine TL.op1 (OpR.indexM eNP hx28 rfl rfl rfl rfl rfl) rfl ?_
 refine TL.op1 (OpR.pure rfl) rfl ?_
 refine TL.op1 (OpR.pure rfl) rfl ?_
 refine TL.nil ?_
 show T X _ _ _
 refine T.seq ?_
 refine T.region ?_
 refine TL.op1 (OpR.pure rfl) rfl ?_
 refine TL.op1 (OpR.pure rfl) rfl ?_
 refine TL.op1 (OpR.pure rfl) rfl ?_
 obtain ⟨x30, hx30, q23⟩ := bnd_some q23
 refine TL.op1 (OpR.call0 fn48 (ih hx30) rfl) rfl ?_
 refine TL.op1 (OpR.pure rfl) rfl ?_
 refine TL.op1 (OpR.pure rfl) rfl ?_
 refine TL.op1 (OpR.pure rfl) rfl ?_
 refine TL.op1 (OpR.pure rfl) rfl ?_
 refine TL.op1 (OpR.pure rfl) rfl ?_
 refine TL.nil ?_
 show T X _ _ _
 refine T.seq ?_
 obtain ⟨t31, ht31, q23⟩ := bnd_some q23
 refine T.cutC (fun S' => S' = ⟨[(95, .val (.int .i64 s19.2.1)), (94, .val (.int .i64 (a0.length : Int))), (93, .sl 1 (List.map eNP a0)), (14, .sl 1 (List.map (eI .i64) x30.1)), (11, .val (.bool t31)), (10, .val y18), (7, .val (.bool false)), (6, .val (.slice none 0 0)), (1, .val (.int .i64 a3)), (0, .nod [.sl 1 (List.map eNP a0), .sl 1 (List.map (eI .i64) a1), .val (.int .i64 a2)])], [.row y18 (List.map (eI .i64) s19.2.2) 1 3], 133⟩) (fun _ h => h) ?_ ?_
 · refine T.region ?_
   refine TL.op1 (OpR.pure rfl) rfl ?_
   refine TL.op1 (OpR.pure rfl) rfl ?_
   rcases ite_some ht31 with ⟨c32, ht31⟩ | ⟨c32, ht31⟩
   · refine TL.on rfl rfl rfl rfl (c32) ?_
     refine TL.op1 (OpR.pure rfl) rfl ?_
     refine TL.op1 (OpR.pickT rfl (c32) rfl) rfl ?_
     refine TL.op1 (OpR.pure rfl) rfl ?_
     refine TL.nil ?_
     obtain rfl := Option.some.inj ht31
     exact ⟨_, Gst.only [0, 1, 6, 7, 10, 11, 14, 93, 94, 95] rfl, rfl⟩
   refine TL.off rfl rfl rfl rfl (eq_false_of_ne_true c32) rfl rfl ?_
   refine TL.op1 (OpR.pickF rfl (eq_false_of_ne_true c32) rfl) rfl ?_
   refine TL.op1 (OpR.pure rfl) rfl ?_
   refine TL.nil ?_
   obtain rfl := Option.some.inj ht31
   exact ⟨_, Gst.only [0, 1, 6, 7, 10, 11, 14, 93, 94, 95] rfl, rfl⟩
 rintro _ rfl
 show T X _ _ _
 refine T.seq ?_
 refine T.region ?_
 refine TL.op1 (OpR.pure rfl) rfl ?_
 refine TL.op1 (OpR.cast (OpR.pure rfl) (intE (lenM _ _))) rfl ?_
 refine TL.op1 (OpR.pure rfl) rfl ?_
 refine TL.nil ?_
 show T X _ _ _
 obtain ⟨t33, ht33, q23⟩ := bnd_some q23
 refine T.cutC (fun S' => ∃ y34 : Value, S' = ⟨[(95, .val (.int .i64 s19.2.1)), (94, .val (.int .i64 (a0.length : Int))), (93, .sl 1 (List.map eNP a0)), (11, .val (.bool t31)), (10, .val y34), (7, .val (.bool false)), (6, .val (.slice none 0 0)), (1, .val (.int .i64 a3)), (0, .nod [.sl 1 (List.map eNP a0), .sl 1 (List.map (eI .i64) a1), .val (.int .i64 a2)])], [.row y34 (List.map (eI .i64) t33) 1 3], 133⟩) (fun _ h => h) ?_ ?_
 rotate_left
 · rintro _ ⟨y34, rfl⟩
   show T X _ _ _
   refine T.region ?_
   refine TL.op1 (OpR.pure rfl) rfl ?_
   refine TL.op1 (OpR.pure rfl) rfl ?_
   refine TL.nil ?_
   obtain rfl := Option.some.inj q23
   exact ⟨m21, Nat.lt_succ_self _, _, Gst.only [0, 1, 6, 7, 10, 11, 93, 94, 95] rfl, y34, (t31, w64 (s19.2.1 + 1), t33), rfl, i24⟩
 refine T.block ?_
 obtain ⟨n37, n42⟩ := loop_some ht33
 refine T.loop (fun n S' => ∃ S'', Gst S' S'' ∧ ∃ y35 : Value, ∃ s36 : Int × (List Int), S'' = ⟨[(112, .val (.int .i64 s36.1)), (111, .val (.int .i64 (x30.1.length : Int))), (110, .sl 1 (List.map (eI .i64) x30.1)), (95, .val (.int .i64 s19.2.1)), (94, .val (.int .i64 (a0.length : Int))), (93, .sl 1 (List.map eNP a0)), (11, .val (.bool t31)), (10, .val y35), (7, .val (.bool false)), (6, .val (.slice none 0 0)), (1, .val (.int .i64 a3)), (0, .nod [.sl 1 (List.map eNP a0), .sl 1 (List.map (eI .i64) a1), .val (.int .i64 a2)])], [.row y35 (List.map (eI .i64) s36.2) 1 3], 133⟩ ∧ iter (law09_fits.l1 x30) n s36 = some t33) n37 ?_ ?_
 · exact ⟨_, Gst.only [0, 1, 6, 7, 10, 11, 93, 94, 95, 110, 111, 112] rfl, y18, (0, s19.2.2), rfl, n42⟩
 rintro n37 _ ⟨_, g, y35, s36, rfl, i41⟩
 refine T.ghost g ?_
 obtain ⟨m38, q39, rfl, q40, i41⟩ := iter_succ i41
 unfold law09_fits.l1 at q40
 refine T.seq ?_
 refine T.region ?_
 refine TL.op1 (OpR.pure rfl) rfl ?_
 refine TL.nil ?_
 show T X _ _ _
 refine T.seq ?_
 rcases ite_some q40 with ⟨c44, q40⟩ | ⟨c44, q40⟩
 rotate_left
 · refine T.condF rfl (decide_eq_false c44) ?_
   refine T.exit ?_
   obtain rfl := Option.some.inj q40
   obtain rfl : _ = _ := i41
   exact ⟨_, Gst.only [0, 1, 6, 7, 10, 11, 93, 94, 95] rfl, y35, rfl⟩
 refine T.condT rfl (decide_eq_true c44) ?_
 refine T.skip ?_
 show T X _ _ _
 refine T.seq ?_
 refine T.block ?_
 refine T.seq ?_
 refine T.region ?_
 obtain ⟨x45, hx45, q40⟩ := bnd_some q40
 refine TL.op1 (OpR.indexM (eI .i64) hx45 rfl rfl rfl rfl rfl) rfl ?_
 refine TL.op1 (OpR.pure rfl) rfl ?_
 refine TL.op1 (OpR.pure rfl) rfl ?_
 refine TL.nil ?_
 show T X _ _ _
 refine T.region ?_
 refine TL.op1 (OpR.pure rfl) rfl ?_
 refine TL.op1 (OpR.pure rfl) rfl ?_
 refine TL.op1 (OpR.lit rfl rfl rfl rfl rfl rfl rfl) rfl ?_
 obtain ⟨x46, hx46, q40⟩ := bnd_some q40
 refine TL.op (OpR.appendM (m := [x45]) (eI .i64) 0 hx46 rfl rfl rfl rfl rfl rfl rfl rfl rfl (fun _ => rfl)) rfl (fun v47 => ?_)
 refine TL.op1 (OpR.pure rfl) rfl ?_
 refine TL.nil ?_
 show T X _ _ _
 refine T.region ?_
 refine TL.op1 (OpR.pure rfl) rfl ?_
 refine TL.op1 (OpR.pure rfl) rfl ?_
 refine TL.nil ?_
 obtain rfl := Option.some.inj q40
 exact ⟨m38, Nat.lt_succ_self _, _, Gst.only [0, 1, 6, 7, 10, 11, 93, 94, 95, 110, 111, 112] rfl, v47, (w64 (s36.1 + 1), x46), rfl, i41⟩
noncomputable def law09_Fits.l1 (a0 : tree_Tree_int) (s12 : Int × Int) : Option (Lp (Int × Int) Int) :=
  bnd (tree_Tree_int_Height a0) fun x20 =>
  if s12.2 < x20 then
    some (Lp.next (w64 (s12.1 * 3), w64 (s12.2 + 1)))
  else
    some (Lp.done s12.1)
noncomputable def law09_Fits.l2 (a0 : tree_Tree_int) (s31 : Int × Int) : Option (Lp (Int × Int) Int) :=
  bnd (tree_Tree_int_Height a0) fun x39 =>
  if s31.2 < x39 then
    some (Lp.next (w64 (s31.1 * 3), w64 (s31.2 + 1)))
  else
    some (Lp.done s31.1)
noncomputable def law09_Fits (a0 : tree_Tree_int) (a1 : List Int) : Option Bool :=
  bnd (tree_Tree_int_Len a0) fun x1 =>
  if x1 = (a1.length : Int) then
    if (a1.length : Int) = 0 then
      bnd (bnd (tree_Tree_int_Root a0) fun x5 =>
      match x5 with
      | .inl x5 =>
          bnd (tree_Tree_int_Height a0) fun x6 =>
          some (x6 == 0)
      | .inr x5 =>
          some false : Option Bool) fun t4 =>
      some t4
    else
      bnd (tree_Tree_int_Root a0) fun x8 =>
      match x8 with
      | .inl x8 =>
          bnd (tree_Tree_int_Height a0) fun x9 =>
          bnd (law09_fits_nil x9 true) fun x10 =>
          bnd (loop (law09_Fits.l1 a0) (2, 1) : Option Int) fun t11 =>
          bnd (if x10.2 = true then
            bnd (ref09_Same x10.1 a1) fun x24 =>
            if x24 = true then
              bnd (tree_Tree_int_Height a0) fun x26 =>
              if x26 = 1 then
                some true
              else
                some (decide ((a1.length : Int) ≥ t11))
            else
              some false
          else
            some false : Option Bool) fun t22 =>
          some t22
      | .inr x8 =>
          bnd (tree_Tree_int_Height a0) fun x28 =>
          bnd (law09_fits 64 x8.1 x8.2.1 x8.2.2 x28 true) fun x29 =>
          bnd (loop (law09_Fits.l2 a0) (2, 1) : Option Int) fun t30 =>
          bnd (if x29.2 = true then
            bnd (ref09_Same x29.1 a1) fun x43 =>
            if x43 = true then
              bnd (tree_Tree_int_Height a0) fun x45 =>
              if x45 = 1 then
                some true
              else
                some (decide ((a1.length : Int) ≥ t30))
            else
              some false
          else
            some false : Option Bool) fun t41 =>
          some t41
  else
    some false
set_option maxHeartbeats 4000000 in
theorem law09_Fits_c {a0 : tree_Tree_int} {a1 : List Int} {res : Bool} (h0 : law09_Fits a0 a1 = some res) : CallF X 13 [.agg [(eOP a0.fRoot)], .sl 1 (List.map (eI .i64) a1)] [] (fun x => .val (.bool res)) (fun x => []) := by
 unfold law09_Fits at h0
 refine CallF.mkG (X := X) rfl Try.func13 rfl rfl Try.ntmps13 rfl rfl ?_
 refine T.seq ?_
 refine T.region ?_
 refine TL.op1 (OpR.boxImm rfl rfl) rfl ?_
 refine TL.op1 (OpR.pure rfl) rfl ?_
 refine TL.nil ?_
 show T X _ _ _
 refine T.seq ?_
 refine T.seq ?_
 refine T.region ?_
 refine TL.op1 (OpR.pure rfl) rfl ?_
 obtain ⟨x1, hx1, h0⟩ := bnd_some h0
 refine TL.op1 (OpR.call0 fn45 (tree_Tree_int_Len_c hx1) rfl) rfl ?_
 refine TL.op1 (OpR.pure rfl) rfl ?_
 refine TL.op1 (OpR.cast (OpR.pure rfl) (intE (lenM _ _))) rfl ?_
 refine TL.op1 (OpR.pure rfl) rfl ?_
 refine TL.nil ?_
 show T X _ _ _
 rcases ite_some h0 with ⟨c2, h0⟩ | ⟨c2, h0⟩
 rotate_left
 · refine T.condT rfl (not_f (beq_eq_false_iff_ne.2 c2)) ?_
   refine T.seq ?_
   refine T.region ?_
   refine TL.op1 (OpR.pure rfl) rfl ?_
   refine TL.nil ?_
   show T X _ _ _
   refine T.ret ?_
   obtain rfl := Option.some.inj h0
   exact PostG.retP (ks := []) (Gst.only [4] rfl) undef (ResL.cons (ResV.tmp rfl) ResL.nil) rfl rfl rfl rfl
 refine T.condF rfl (not_t (beq_iff_eq.2 c2)) ?_
 refine T.skip ?_
 show T X _ _ _
 refine T.seq ?_
 refine T.seq ?_
 refine T.region ?_
 refine TL.op1 (OpR.pure rfl) rfl ?_
 refine TL.op1 (OpR.cast (OpR.pure rfl) (intE (lenM _ _))) rfl ?_
 refine TL.op1 (OpR.pure rfl) rfl ?_
 refine TL.nil ?_
 show T X _ _ _
 rcases ite_some h0 with ⟨c3, h0⟩ | ⟨c3, h0⟩
 · refine T.condT rfl (beq_iff_eq.2 c3) ?_
   refine T.seq ?_
   obtain ⟨t4, ht4, h0⟩ := bnd_some h0
   refine T.cutC (fun S' => S' = ⟨[(4, .val (.bool t4)), (2, .nod [(eOP a0.fRoot)]), (1, .sl 1 (List.map (eI .i64) a1))], [], 58⟩) (fun _ h => h) ?_ ?_
   rotate_left
   · rintro _ rfl
     show T X _ _ _
     refine T.ret ?_
     obtain rfl := Option.some.inj h0
     exact PostG.retP (ks := []) (Gst.only [4] rfl) undef (ResL.cons (ResV.tmp rfl) ResL.nil) rfl rfl rfl rfl
   refine T.region ?_
   refine TL.op1 (OpR.pure rfl) rfl ?_
   obtain ⟨x5, hx5, ht4⟩ := bnd_some ht4
   rcases x5 with x5 | x5
   rotate_left
   · dsimp only at ht4
     refine TL.op1 (OpR.call0 fn46 (tree_Tree_int_Root_cx2 hx5) rfl) rfl ?_
     refine TL.op1 (OpR.nodNil rfl rfl rfl) rfl ?_
     refine TL.op1 (OpR.pure rfl) rfl ?_
     refine TL.off rfl rfl rfl rfl rfl rfl rfl ?_
     refine TL.off rfl rfl rfl rfl rfl rfl rfl ?_
     refine TL.off rfl rfl rfl rfl rfl rfl rfl ?_
     refine TL.op1 (OpR.pickF rfl rfl rfl) rfl ?_
     refine TL.op1 (OpR.pure rfl) rfl ?_
     refine TL.nil ?_
     obtain rfl := Option.some.inj ht4
     exact ⟨_, Gst.only [1, 2, 4] rfl, rfl⟩
   dsimp only at ht4
   refine TL.op1 (OpR.call0 fn46 (tree_Tree_int_Root_cx1 hx5) rfl) rfl ?_
   refine TL.op1 (OpR.ptrNil rfl rfl rfl) rfl ?_
   refine TL.op1 (OpR.pure rfl) rfl ?_
   refine TL.on rfl rfl rfl rfl rfl ?_
   refine TL.op1 (OpR.pure rfl) rfl ?_
   refine TL.on rfl rfl rfl rfl rfl ?_
   obtain ⟨x6, hx6, ht4⟩ := bnd_some ht4
   refine TL.op1 (OpR.call0 fn47 (tree_Tree_int_Height_c hx6) rfl) rfl ?_
   refine TL.on rfl rfl rfl rfl rfl ?_
   refine TL.op1 (OpR.pure rfl) rfl ?_
   refine TL.op1 (OpR.pickT rfl rfl rfl) rfl ?_
   refine TL.op1 (OpR.pure rfl) rfl ?_
   refine TL.nil ?_
   obtain rfl := Option.some.inj ht4
   exact ⟨_, Gst.only [1, 2, 4] rfl, rfl⟩
 refine T.condF rfl (beq_eq_false_iff_ne.2 c3) ?_
 refine T.skip ?_
 show T X _ _ _
 refine T.seq ?_
 obtain ⟨x8, hx8, h0⟩ := bnd_some h0
 rcases x8 with x8 | x8
 · dsimp only at h0
   obtain ⟨x9, hx9, h0⟩ := bnd_some h0
   obtain ⟨x10, hx10, h0⟩ := bnd_some h0
   refine T.drawQ drawsX [.agg [(eOP a0.fRoot)], .val (.pointer none), .agg [(eOP a0.fRoot)], .val (.int .i64 x9), .tup [.sl 1 (List.map (eI .i64) x10.1), .val (.bool x10.2)], .tup [.sl 1 (List.map (eI .i64) x10.1), .val (.bool x10.2)], .sl 1 (List.map (eI .i64) x10.1), .val (.bool x10.2), .sl 1 (List.map (eI .i64) x10.1), .val (.bool x10.2)] [0, 1, 2, 4, 5, 6, 9, 10, 11, 12, 13, 14, 15, 16, 25, 26, 27, 28, 29, 30, 31, 32] (by decide +kernel) rfl ?_ rfl ?_
   · refine OpsQ.yes (Want.plain rfl) rfl (OpR.pure rfl) ?_
     refine OpsQ.yes (Want.plain rfl) rfl (OpR.call0 fn46 (tree_Tree_int_Root_cx1 hx8) rfl) ?_
     refine OpsQ.yes (Want.plain rfl) rfl (OpR.pure rfl) ?_
     refine OpsQ.yes (Want.plain rfl) rfl (OpR.call0 fn47 (tree_Tree_int_Height_c hx9) rfl) ?_
     refine OpsQ.yes (Want.plain rfl) rfl (OpR.call0 fn48 (law09_fits_nil_c hx10) rfl) ?_
     refine OpsQ.yes (Want.plain rfl) rfl (OpR.pure rfl) ?_
     refine OpsQ.yes (Want.plain rfl) rfl (OpR.pure rfl) ?_
     refine OpsQ.yes (Want.plain rfl) rfl (OpR.pure rfl) ?_
     refine OpsQ.yes (Want.plain rfl) rfl (OpR.pure rfl) ?_
     refine OpsQ.yes (Want.plain rfl) rfl (OpR.pure rfl) ?_
     exact OpsQ.nil
   show T X _ _ _
   refine T.seq ?_
   refine T.region ?_
   refine TL.op1 (OpR.pure rfl) rfl ?_
   refine TL.nil ?_
   show T X _ _ _
   refine T.seq ?_
   refine T.seq ?_
   refine T.region ?_
   refine TL.op1 (OpR.pure rfl) rfl ?_
   refine TL.nil ?_
   show T X _ _ _
   obtain ⟨t11, ht11, h0⟩ := bnd_some h0
   refine T.cutC (fun S' => S' = ⟨[(7, .val (.int .i64 t11)), (6, .val (.bool x10.2)), (5, .sl 1 (List.map (eI .i64) x10.1)), (4, .val (.bool false)), (2, .nod [(eOP a0.fRoot)]), (1, .sl 1 (List.map (eI .i64) a1))], [], 58⟩) (fun _ h => h) ?_ ?_
   · refine T.block ?_
     obtain ⟨n13, n18⟩ := loop_some ht11
     refine T.loop (fun n S' => ∃ S'', Gst S' S'' ∧ ∃ s12 : Int × Int, S'' = ⟨[(8, .val (.int .i64 s12.2)), (7, .val (.int .i64 s12.1)), (6, .val (.bool x10.2)), (5, .sl 1 (List.map (eI .i64) x10.1)), (4, .val (.bool false)), (2, .nod [(eOP a0.fRoot)]), (1, .sl 1 (List.map (eI .i64) a1))], [], 58⟩ ∧ iter (law09_Fits.l1 a0) n s12 = some t11) n13 ?_ ?_
     · exact ⟨_, Gst.only [1, 2, 4, 5, 6, 7, 8] rfl, (2, 1), rfl, n18⟩
     rintro n13 _ ⟨_, g, s12, rfl, i17⟩
     refine T.ghost g ?_
     obtain ⟨m14, q15, rfl, q16, i17⟩ := iter_succ i17
     unfold law09_Fits.l1 at q16
     refine T.seq ?_
     refine T.seq ?_
     refine T.region ?_
     refine TL.op1 (OpR.pure rfl) rfl ?_
     refine TL.op1 (OpR.pure rfl) rfl ?_
     obtain ⟨x20, hx20, q16⟩ := bnd_some q16
     refine TL.op1 (OpR.call0 fn47 (tree_Tree_int_Height_c hx20) rfl) rfl ?_
     refine TL.op1 (OpR.pure rfl) rfl ?_
     refine TL.nil ?_
     show T X _ _ _
     rcases ite_some q16 with ⟨c21, q16⟩ | ⟨c21, q16⟩
     rotate_left
     · refine T.condF rfl (decide_eq_false c21) ?_
       refine T.exit ?_
       obtain rfl := Option.some.inj q16
       obtain rfl : _ = _ := i17
       exact ⟨_, Gst.only [1, 2, 4, 5, 6, 7] rfl, rfl⟩
     refine T.condT rfl (decide_eq_true c21) ?_
     refine T.skip ?_
     show T X _ _ _
     refine T.seq ?_
     refine T.block ?_
     refine T.region ?_
     refine TL.op1 (OpR.pure rfl) rfl ?_
     refine TL.op1 (OpR.pure rfl) rfl ?_
     refine TL.op1 (OpR.pure rfl) rfl ?_
     refine TL.nil ?_
     show T X _ _ _
     refine T.region ?_
     refine TL.op1 (OpR.pure rfl) rfl ?_
     refine TL.op1 (OpR.pure rfl) rfl ?_
     refine TL.op1 (OpR.pure rfl) rfl ?_
     refine TL.nil ?_
     obtain rfl := Option.some.inj q16
     exact ⟨m14, Nat.lt_succ_self _, _, Gst.only [1, 2, 4, 5, 6, 7, 8] rfl, (w64 (s12.1 * 3), w64 (s12.2 + 1)), rfl, i17⟩
   rintro _ rfl
   show T X _ _ _
   refine T.seq ?_
   obtain ⟨t22, ht22, h0⟩ := bnd_some h0
   refine T.cutC (fun S' => S' = ⟨[(4, .val (.bool t22))], [], 58⟩) (fun _ h => h) ?_ ?_
   rotate_left
   · rintro _ rfl
     show T X _ _ _
     refine T.ret ?_
     obtain rfl := Option.some.inj h0
     exact PostG.retP (ks := []) (Gst.only [4] rfl) undef (ResL.cons (ResV.tmp rfl) ResL.nil) rfl rfl rfl rfl
   refine T.region ?_
   refine TL.op1 (OpR.pure rfl) rfl ?_
   refine TL.op1 (OpR.pure rfl) rfl ?_
   rcases ite_some ht22 with ⟨c23, ht22⟩ | ⟨c23, ht22⟩
   rotate_left
   · refine TL.off rfl rfl rfl rfl (eq_false_of_ne_true c23) rfl rfl ?_
     refine TL.off rfl rfl rfl rfl (eq_false_of_ne_true c23) rfl rfl ?_
     refine TL.off rfl rfl rfl rfl (eq_false_of_ne_true c23) rfl rfl ?_
     refine TL.op1 (OpR.pickF rfl (eq_false_of_ne_true c23) rfl) rfl ?_
     refine TL.op1 (OpR.pure rfl) rfl ?_
     refine TL.off rfl rfl rfl rfl rfl rfl rfl ?_
     refine TL.off rfl rfl rfl rfl rfl rfl rfl ?_
     refine TL.off rfl rfl rfl rfl rfl rfl rfl ?_
     refine TL.off rfl rfl rfl rfl rfl rfl rfl ?_
     refine TL.offU rfl rfl rfl rfl rfl rfl ?_
     refine TL.offU rfl rfl rfl rfl rfl rfl ?_
     refine TL.offU rfl rfl rfl rfl rfl rfl ?_
     refine TL.offU rfl rfl rfl rfl rfl rfl ?_
     refine TL.off rfl rfl rfl rfl rfl rfl rfl ?_
     refine TL.op1 (OpR.pickF rfl rfl rfl) rfl ?_
     refine TL.op1 (OpR.pure rfl) rfl ?_
     refine TL.nil ?_
     obtain rfl := Option.some.inj ht22
     exact ⟨_, Gst.only [4] rfl, rfl⟩
   refine TL.on rfl rfl rfl rfl (c23) ?_
   refine TL.op1 (OpR.pure rfl) rfl ?_
   refine TL.on rfl rfl rfl rfl (c23) ?_
   refine TL.op1 (OpR.pure rfl) rfl ?_
   refine TL.on rfl rfl rfl rfl (c23) ?_
   obtain ⟨x24, hx24, ht22⟩ := bnd_some ht22
   refine TL.op1 (OpR.call0 fn15 (ref09_Same_c hx24) rfl) rfl ?_
   refine TL.op1 (OpR.pickT rfl (c23) rfl) rfl ?_
   refine TL.op1 (OpR.pure rfl) rfl ?_
   rcases ite_some ht22 with ⟨c25, ht22⟩ | ⟨c25, ht22⟩
   rotate_left
   · refine TL.off rfl rfl rfl rfl (eq_false_of_ne_true c25) rfl rfl ?_
     refine TL.off rfl rfl rfl rfl (eq_false_of_ne_true c25) rfl rfl ?_
     refine TL.off rfl rfl rfl rfl (eq_false_of_ne_true c25) rfl rfl ?_
     refine TL.off rfl rfl rfl rfl (eq_false_of_ne_true c25) rfl rfl ?_
     refine TL.offU rfl rfl rfl rfl rfl rfl ?_
     refine TL.offU rfl rfl rfl rfl rfl rfl ?_
     refine TL.offU rfl rfl rfl rfl rfl rfl ?_
     refine TL.offU rfl rfl rfl rfl rfl rfl ?_
     refine TL.off rfl rfl rfl rfl (eq_false_of_ne_true c25) rfl rfl ?_
     refine TL.op1 (OpR.pickF rfl (eq_false_of_ne_true c25) rfl) rfl ?_
     refine TL.op1 (OpR.pure rfl) rfl ?_
     refine TL.nil ?_
     obtain rfl := Option.some.inj ht22
     exact ⟨_, Gst.only [4] rfl, rfl⟩
   refine TL.on rfl rfl rfl rfl (c25) ?_
   refine TL.op1 (OpR.pure rfl) rfl ?_
   refine TL.on rfl rfl rfl rfl (c25) ?_
   obtain ⟨x26, hx26, ht22⟩ := bnd_some ht22
   refine TL.op1 (OpR.call0 fn47 (tree_Tree_int_Height_c hx26) rfl) rfl ?_
   refine TL.on rfl rfl rfl rfl (c25) ?_
   refine TL.op1 (OpR.pure rfl) rfl ?_
   refine TL.on rfl rfl rfl rfl (c25) ?_
   refine TL.op1 (OpR.pure rfl) rfl ?_
   rcases ite_some ht22 with ⟨c27, ht22⟩ | ⟨c27, ht22⟩
   · refine TL.off rfl rfl rfl rfl (beq_iff_eq.2 c27) rfl rfl ?_
     refine TL.off rfl rfl rfl rfl (beq_iff_eq.2 c27) rfl rfl ?_
     refine TL.off rfl rfl rfl rfl (beq_iff_eq.2 c27) rfl rfl ?_
     refine TL.off rfl rfl rfl rfl (beq_iff_eq.2 c27) rfl rfl ?_
     refine TL.on rfl rfl rfl rfl (c25) ?_
     refine TL.op1 (OpR.pickT rfl (beq_iff_eq.2 c27) rfl) rfl ?_
     refine TL.op1 (OpR.pickT rfl (c25) rfl) rfl ?_
     refine TL.op1 (OpR.pure rfl) rfl ?_
     refine TL.nil ?_
     obtain rfl := Option.some.inj ht22
     exact ⟨_, Gst.only [4] rfl, rfl⟩
   refine TL.on rfl rfl rfl rfl (beq_eq_false_iff_ne.2 c27) ?_
   refine TL.op1 (OpR.pure rfl) rfl ?_
   refine TL.on rfl rfl rfl rfl (beq_eq_false_iff_ne.2 c27) ?_
   refine TL.op1 (OpR.cast (OpR.pure rfl) (intE (lenM _ _))) rfl ?_
   refine TL.on rfl rfl rfl rfl (beq_eq_false_iff_ne.2 c27) ?_
   refine TL.op1 (OpR.pure rfl) rfl ?_
   refine TL.on rfl rfl rfl rfl (beq_eq_false_iff_ne.2 c27) ?_
   refine TL.op1 (OpR.pure rfl) rfl ?_
   refine TL.on rfl rfl rfl rfl (c25) ?_
   refine TL.op1 (OpR.pickF rfl (beq_eq_false_iff_ne.2 c27) rfl) rfl ?_
   refine TL.op1 (OpR.pickT rfl (c25) rfl) rfl ?_
   refine TL.op1 (OpR.pure rfl) rfl ?_
   refine TL.nil ?_
   obtain rfl := Option.some.inj ht22
   exact ⟨_, Gst.only [4] rfl, rfl⟩
 dsimp only at h0
 obtain ⟨x28, hx28, h0⟩ := bnd_some h0
 obtain ⟨x29, hx29, h0⟩ := bnd_some h0
 refine T.drawQ drawsX [.agg [(eOP a0.fRoot)], .nod [.sl 1 (List.map eNP x8.1), .sl 1 (List.map (eI .i64) x8.2.1), .val (.int .i64 x8.2.2)], .agg [(eOP a0.fRoot)], .val (.int .i64 x28), .tup [.sl 1 (List.map (eI .i64) x29.1), .val (.bool x29.2)], .tup [.sl 1 (List.map (eI .i64) x29.1), .val (.bool x29.2)], .sl 1 (List.map (eI .i64) x29.1), .val (.bool x29.2), .sl 1 (List.map (eI .i64) x29.1), .val (.bool x29.2)] [0, 1, 2, 4, 5, 6, 9, 10, 11, 12, 13, 14, 15, 16, 25, 26, 27, 28, 29, 30, 31, 32] (by decide +kernel) rfl ?_ rfl ?_
 · refine OpsQ.yes (Want.plain rfl) rfl (OpR.pure rfl) ?_
   refine OpsQ.yes (Want.plain rfl) rfl (OpR.call0 fn46 (tree_Tree_int_Root_cx2 hx8) rfl) ?_
   refine OpsQ.yes (Want.plain rfl) rfl (OpR.pure rfl) ?_
   refine OpsQ.yes (Want.plain rfl) rfl (OpR.call0 fn47 (tree_Tree_int_Height_c hx28) rfl) ?_
   refine OpsQ.yes (Want.plain rfl) rfl (OpR.call0 fn48 (law09_fits_c hx29) rfl) ?_
   refine OpsQ.yes (Want.plain rfl) rfl (OpR.pure rfl) ?_
   refine OpsQ.yes (Want.plain rfl) rfl (OpR.pure rfl) ?_
   refine OpsQ.yes (Want.plain rfl) rfl (OpR.pure rfl) ?_
   refine OpsQ.yes (Want.plain rfl) rfl (OpR.pure rfl) ?_
   refine OpsQ.yes (Want.plain rfl) rfl (OpR.pure rfl) ?_
   exact OpsQ.nil
 show T X _ _ _
 refine T.seq ?_
 refine T.region ?_
 refine TL.op1 (OpR.pure rfl) rfl ?_
 refine TL.nil ?_
 show T X _ _ _
 refine T.seq ?_
 refine T.seq ?_
 refine T.region ?_
 refine TL.op1 (OpR.pure rfl) rfl ?_
 refine TL.nil ?_
 show T X _ _ _
 obtain ⟨t30, ht30, h0⟩ := bnd_some h0
 refine T.cutC (fun S' => S' = ⟨[(7, .val (.int .i64 t30)), (6, .val (.bool x29.2)), (5, .sl 1 (List.map (eI .i64) x29.1)), (4, .val (.bool false)), (2, .nod [(eOP a0.fRoot)]), (1, .sl 1 (List.map (eI .i64) a1))], [], 58⟩) (fun _ h => h) ?_ ?_
 · refine T.block ?_
   obtain ⟨n32, n37⟩ := loop_some ht30
   refine T.loop (fun n S' => ∃ S'', Gst S' S'' ∧ ∃ s31 : Int × Int, S'' = ⟨[(8, .val (.int .i64 s31.2)), (7, .val (.int .i64 s31.1)), (6, .val (.bool x29.2)), (5, .sl 1 (List.map (eI .i64) x29.1)), (4, .val (.bool false)), (2, .nod [(eOP a0.fRoot)]), (1, .sl 1 (List.map (eI .i64) a1))], [], 58⟩ ∧ iter (law09_Fits.l2 a0) n s31 = some t30) n32 ?_ ?_
   · exact ⟨_, Gst.only [1, 2, 4, 5, 6, 7, 8] rfl, (2, 1), rfl, n37⟩
   rintro n32 _ ⟨_, g, s31, rfl, i36⟩
   refine T.ghost g ?_
   obtain ⟨m33, q34, rfl, q35, i36⟩ := iter_succ i36
   unfold law09_Fits.l2 at q35
   refine T.seq ?_
   refine T.seq ?_
   refine T.region ?_
   refine TL.op1 (OpR.pure rfl) rfl ?_
   refine TL.op1 (OpR.pure rfl) rfl ?_
   obtain ⟨x39, hx39, q35⟩ := bnd_some q35
   refine TL.op1 (OpR.call0 fn47 (tree_Tree_int_Height_c hx39) rfl) rfl ?_
   refine TL.op1 (OpR.pure rfl) rfl ?_
   refine TL.nil ?_
   show T X _ _ _
   rcases ite_some q35 with ⟨c40, q35⟩ | ⟨c40, q35⟩
   rotate_left
   · refine T.condF rfl (decide_eq_false c40) ?_
     refine T.exit ?_
     obtain rfl := Option.some.inj q35
     obtain rfl : _ = _ := i36
     exact ⟨_, Gst.only [1, 2, 4, 5, 6, 7] rfl, rfl⟩
   refine T.condT rfl (decide_eq_true c40) ?_
   refine T.skip ?_
   show T X _ _ _
   refine T.seq ?_
   refine T.block ?_
   refine T.region ?_
   refine TL.op1 (OpR.pure rfl) rfl ?_
   refine TL.op1 (OpR.pure rfl) rfl ?_
   refine TL.op1 (OpR.pure rfl) rfl ?_
   refine TL.nil ?_
   show T X _ _ _
   refine T.region ?_
   refine TL.op1 (OpR.pure rfl) rfl ?_
   refine TL.op1 (OpR.pure rfl) rfl ?_
   refine TL.op1 (OpR.pure rfl) rfl ?_
   refine TL.nil ?_
   obtain rfl := Option.some.inj q35
   exact ⟨m33, Nat.lt_succ_self _, _, Gst.only [1, 2, 4, 5, 6, 7, 8] rfl, (w64 (s31.1 * 3), w64 (s31.2 + 1)), rfl, i36⟩
 rintro _ rfl
 show T X _ _ _
 refine T.seq ?_
 obtain ⟨t41, ht41, h0⟩ := bnd_some h0
 refine T.cutC (fun S' => S' = ⟨[(4, .val (.bool t41))], [], 58⟩) (fun _ h => h) ?_ ?_
 rotate_left
 · rintro _ rfl
   show T X _ _ _
   refine T.ret ?_
   obtain rfl := Option.some.inj h0
   exact PostG.retP (ks := []) (Gst.only [4] rfl) undef (ResL.cons (ResV.tmp rfl) ResL.nil) rfl rfl rfl rfl
 refine T.region ?_
 refine TL.op1 (OpR.pure rfl) rfl ?_
 refine TL.op1 (OpR.pure rfl) rfl ?_
 rcases ite_some ht41 with ⟨c42, ht41⟩ | ⟨c42, ht41⟩
 rotate_left
 · refine TL.off rfl rfl rfl rfl (eq_false_of_ne_true c42) rfl rfl ?_
   refine TL.off rfl rfl rfl rfl (eq_false_of_ne_true c42) rfl rfl ?_
   refine TL.off rfl rfl rfl rfl (eq_false_of_ne_true c42) rfl rfl ?_
   refine TL.op1 (OpR.pickF rfl (eq_false_of_ne_true c42) rfl) rfl ?_
   refine TL.op1 (OpR.pure rfl) rfl ?_
   refine TL.off rfl rfl rfl rfl rfl rfl rfl ?_
   refine TL.off rfl rfl rfl rfl rfl rfl rfl ?_
   refine TL.off rfl rfl rfl rfl rfl rfl rfl ?_
   refine TL.off rfl rfl rfl rfl rfl rfl rfl ?_
   refine TL.offU rfl rfl rfl rfl rfl rfl ?_
   refine TL.offU rfl rfl rfl rfl rfl rfl ?_
   refine TL.offU rfl rfl rfl rfl rfl rfl ?_
   refine TL.offU rfl rfl rfl rfl rfl rfl ?_
   refine TL.off rfl rfl rfl rfl rfl rfl rfl ?_
   refine TL.op1 (OpR.pickF rfl rfl rfl) rfl ?_
   refine TL.op1 (OpR.pure rfl) rfl ?_
   refine TL.nil ?_
   obtain rfl := Option.some.inj ht41
   exact ⟨_, Gst.only [4] rfl, rfl⟩
 refine TL.on rfl rfl rfl rfl (c42) ?_
 refine TL.op1 (OpR.pure rfl) rfl ?_
 refine TL.on rfl rfl rfl rfl (c42) ?_
 refine TL.op1 (OpR.pure rfl) rfl ?_
 refine TL.on rfl rfl rfl rfl (c42) ?_
 obtain ⟨x43, hx43, ht41⟩ := bnd_some ht41
 refine TL.op1 (OpR.call0 fn15 (ref09_Same_c hx43) rfl) rfl ?_
 refine TL.op1 (OpR.pickT rfl (c42) rfl) rfl ?_
 refine TL.op1 (OpR.pure rfl) rfl ?_
 rcases ite_some ht41 with ⟨c44, ht41⟩ | ⟨c44, ht41⟩
 rotate_left
 · refine TL.off rfl rfl rfl rfl (eq_false_of_ne_true c44) rfl rfl ?_
   refine TL.off rfl rfl rfl rfl (eq_false_of_ne_true c44) rfl rfl ?_
   refine TL.off rfl rfl rfl rfl (eq_false_of_ne_true c44) rfl rfl ?_
   refine TL.off rfl rfl rfl rfl (eq_false_of_ne_true c44) rfl rfl ?_
   refine TL.offU rfl rfl rfl rfl rfl rfl ?_
   refine TL.offU rfl rfl rfl rfl rfl rfl ?_
   refine TL.offU rfl rfl rfl rfl rfl rfl ?_
   refine TL.offU rfl rfl rfl rfl rfl rfl ?_
   refine TL.off rfl rfl rfl rfl (eq_false_of_ne_true c44) rfl rfl ?_
   refine TL.op1 (OpR.pickF rfl (eq_false_of_ne_true c44) rfl) rfl ?_
   refine TL.op1 (OpR.pure rfl) rfl ?_
   refine TL.nil ?_
   obtain rfl := Option.some.inj ht41
   exact ⟨_, Gst.only [4] rfl, rfl⟩
 refine TL.on rfl rfl rfl rfl (c44) ?_
 refine TL.op1 (OpR.pure rfl) rfl ?_
 refine TL.on rfl rfl rfl rfl (c44) ?_
 obtain ⟨x45, hx45, ht41⟩ := bnd_some ht41
 refine TL.op1 (OpR.call0 fn47 (tree_Tree_int_Height_c hx45) rfl) rfl ?_
 refine TL.on rfl rfl rfl rfl (c44) ?_
 refine TL.op1 (OpR.pure rfl) rfl ?_
 refine TL.on rfl rfl rfl rfl (c44) ?_
 refine TL.op1 (OpR.pure rfl) rfl ?_
 rcases ite_some ht41 with ⟨c46, ht41⟩ | ⟨c46, ht41⟩
 · refine TL.off rfl rfl rfl rfl (beq_iff_eq.2 c46) rfl rfl ?_
   refine TL.off rfl rfl rfl rfl (beq_iff_eq.2 c46) rfl rfl ?_
   refine TL.off rfl rfl rfl rfl (beq_iff_eq.2 c46) rfl rfl ?_
   refine TL.off rfl rfl rfl rfl (beq_iff_eq.2 c46) rfl rfl ?_
   refine TL.on rfl rfl rfl rfl (c44) ?_
   refine TL.op1 (OpR.pickT rfl (beq_iff_eq.2 c46) rfl) rfl ?_
   refine TL.op1 (OpR.pickT rfl (c44) rfl) rfl ?_
   refine TL.op1 (OpR.pure rfl) rfl ?_
   refine TL.nil ?_
   obtain rfl := Option.some.inj ht41
   exact ⟨_, Gst.only [4] rfl, rfl⟩
 refine TL.on rfl rfl rfl rfl (beq_eq_false_iff_ne.2 c46) ?_
 refine TL.op1 (OpR.pure rfl) rfl ?_
 refine TL.on rfl rfl rfl rfl (beq_eq_false_iff_ne.2 c46) ?_
 refine TL.op1 (OpR.cast (OpR.pure rfl) (intE (lenM _ _))) rfl ?_
 refine TL.on rfl rfl rfl rfl (beq_eq_false_iff_ne.2 c46) ?_
 refine TL.op1 (OpR.pure rfl) rfl ?_
 refine TL.on rfl rfl rfl rfl (beq_eq_false_iff_ne.2 c46) ?_
 refine TL.op1 (OpR.pure rfl) rfl ?_
 refine TL.on rfl rfl rfl rfl (c44) ?_
 refine TL.op1 (OpR.pickF rfl (beq_eq_false_iff_ne.2 c46) rfl) rfl ?_
 refine TL.op1 (OpR.pickT rfl (c44) rfl) rfl ?_
 refine TL.op1 (OpR.pure rfl) rfl ?_
 refine TL.nil ?_
 obtain rfl := Option.some.inj ht41
 exact ⟨_, Gst.only [4] rfl, rfl⟩
end Go.Proofs.Ytkmdfaodbiknlaa.S
