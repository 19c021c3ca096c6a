/- Printed by a program of this session's own (gen.py): Lean functions for Go functions, and the proofs that the Go code comes to their answers. -/
import Derived.Test.YtkjcogmngoogcaaG7xa
import Derived.Test.YtkjcogmngoogcaaG8xa
import Derived.Test.YtkjcogmngoogcaaG1xa
import Derived.Test.YtkjcogmngoogcaaG5xa
set_option linter.unusedVariables false
set_option linter.unusedSimpArgs false
set_option maxRecDepth 20000
namespace Go.Proofs.Ytkjcogmngoogcaa.S
open Go Go.Sm
attribute [local irreducible] T TL OpR CallT iter loop
noncomputable def ref06_Read (a0 : List UInt8) : Option ((List UInt8) × Int) :=
  bnd (ref05_One a0 0) fun x1 =>
  if (x1.1.fFields.length : Int) = 0 then
    some ([], 0)
  else
    bnd (idx x1.1.fFields 0) fun x5 =>
    bnd (ref05_Text a0 x5.fBytes) fun x6 =>
    some (x6, x5.fKind)
set_option maxHeartbeats 4000000 in
theorem ref06_Read_c {a0 : List UInt8} {res : (List UInt8) × Int} (h0 : ref06_Read a0 = some res) : CallF X 22 [.val (.string (bs a0))] [] (fun x => .tup [.val (.string (bs res.1)), .val (.int .i64 res.2)]) (fun x => []) := by
 unfold ref06_Read at h0
 refine CallF.mkG (X := X) Try.func22 rfl rfl Try.ntmps22 rfl rfl ?_
 refine T.seq ?_
 refine T.region ?_
 refine TL.op1 (OpR.pure rfl) rfl ?_
 refine TL.op1 (OpR.pure rfl) rfl ?_
 refine TL.nil ?_
 show T X _ _ _
 refine T.seq ?_
 refine T.region ?_
 refine TL.op1 (OpR.pure rfl) rfl ?_
 obtain ⟨x1, hx1, h0⟩ := bnd_some h0
 refine TL.op1 (OpR.call0 fn61 (ref05_One_c hx1) rfl) rfl ?_
 refine TL.op1 (OpR.pure rfl) rfl ?_
 refine TL.op1 (OpR.pure rfl) rfl ?_
 refine TL.op1 (OpR.pure rfl) rfl ?_
 refine TL.op (OpR.alloc rfl rfl (fun _ => rfl)) rfl (fun p2 => ?_)
 refine TL.op0 (OpR.store 0 rfl rfl rfl rfl rfl rfl rfl rfl) ?_
 refine TL.op1 (OpR.pure rfl) rfl ?_
 refine TL.nil ?_
 show T X _ _ _
 refine T.seq ?_
 refine T.seq ?_
 refine T.region ?_
 refine TL.op1 (OpR.pure rfl) rfl ?_
 refine TL.op1 (OpR.loadPtr 0 rfl rfl rfl rfl) rfl ?_
 refine TL.op1 (OpR.cast (OpR.pure rfl) (intE (lenM _ _))) rfl ?_
 refine TL.op1 (OpR.pure rfl) rfl ?_
 refine TL.nil ?_
 show T X _ _ _
 rcases ite_some h0 with ⟨c3, h0⟩ | ⟨c3, h0⟩
 · refine T.condT rfl (beq_iff_eq.2 c3) ?_
   refine T.seq ?_
   refine T.region ?_
   refine TL.op1 (OpR.pure rfl) rfl ?_
   refine TL.op1 (OpR.pure rfl) rfl ?_
   refine TL.nil ?_
   show T X _ _ _
   refine T.ret ?_
   obtain rfl := Option.some.inj h0
   exact PostG.retP (ks := []) (Gst.trans (Gst.only [2, 3] rfl) (Gst.pick [] rfl rfl)) undef (ResL.cons (ResV.tmp rfl) (ResL.cons (ResV.tmp rfl) ResL.nil)) rfl rfl rfl rfl
 refine T.condF rfl (beq_eq_false_iff_ne.2 c3) ?_
 refine T.skip ?_
 show T X _ _ _
 refine T.seq ?_
 obtain ⟨x5, hx5, h0⟩ := bnd_some h0
 obtain ⟨x6, hx6, h0⟩ := bnd_some h0
 refine T.drawQ drawsX [.val (.string (bs a0)), .val (.pointer (some ⟨(blk p2), 0, none⟩)), .sl 4 (List.map e_ref05_Field x1.1.fFields), .nod [.val (.int .i64 x5.fRaw.fAt), .val (.int .i64 x5.fRaw.fN), .val (.int .i64 x5.fKind), .sl 1 (List.map (eI .i64) x5.fBytes)], .nod [.sl 1 (List.map (eI .i64) x5.fBytes)], .sl 1 (List.map (eI .i64) x5.fBytes), .val (.string (bs x6)), .val (.pointer (some ⟨(blk p2), 0, none⟩)), .sl 4 (List.map e_ref05_Field x1.1.fFields), .nod [.val (.int .i64 x5.fRaw.fAt), .val (.int .i64 x5.fRaw.fN), .val (.int .i64 x5.fKind), .sl 1 (List.map (eI .i64) x5.fBytes)], .nod [.val (.int .i64 x5.fKind), .sl 1 (List.map (eI .i64) x5.fBytes)], .val (.int .i64 x5.fKind), .val (.string (bs x6)), .val (.int .i64 x5.fKind)] [0, 2, 3, 4, 5, 6, 7, 8, 9, 10, 11, 12, 13, 14, 15, 16, 17, 18, 19, 20, 21, 22, 23, 24, 25, 26] (by decide +kernel) rfl ?_ rfl ?_
 rotate_left
 · show T X _ _ _
   refine T.ret ?_
   obtain rfl := Option.some.inj h0
   exact PostG.retP (ks := []) (Gst.trans (Gst.only [2, 3] rfl) (Gst.pick [] rfl rfl)) undef (ResL.cons (ResV.tmp rfl) (ResL.cons (ResV.tmp rfl) ResL.nil)) rfl rfl rfl rfl
 refine OpsQ.yes (Want.plain rfl) rfl (OpR.pure rfl) ?_
 refine OpsQ.yes (Want.plain rfl) rfl (OpR.pure rfl) ?_
 refine OpsQ.yes (Want.plain rfl) rfl (OpR.loadPtr 0 rfl rfl rfl rfl) ?_
 refine OpsQ.yes (Want.plain rfl) rfl (OpR.indexM e_ref05_Field hx5 rfl rfl rfl rfl rfl) ?_
 refine OpsQ.yes (Want.plain rfl) rfl (OpR.pure rfl) ?_
 refine OpsQ.yes (Want.plain rfl) rfl (OpR.pure rfl) ?_
 refine OpsQ.yes (Want.plain rfl) rfl (OpR.call0 fn50 (ref05_Text_c hx6) rfl) ?_
 refine OpsQ.yes (Want.plain rfl) rfl (OpR.pure rfl) ?_
 refine OpsQ.yes (Want.plain rfl) rfl (OpR.loadPtr 0 rfl rfl rfl rfl) ?_
 refine OpsQ.yes (Want.plain rfl) rfl (OpR.indexM e_ref05_Field hx5 rfl rfl rfl rfl rfl) ?_
 refine OpsQ.yes (Want.plain rfl) rfl (OpR.pure rfl) ?_
 refine OpsQ.yes (Want.plain rfl) rfl (OpR.pure rfl) ?_
 refine OpsQ.yes (Want.plain rfl) rfl (OpR.pure rfl) ?_
 refine OpsQ.yes (Want.plain rfl) rfl (OpR.pure rfl) ?_
 exact OpsQ.nil
noncomputable def law06_QuoteReads (a0 : List UInt8) : Option Bool :=
  bnd (law06_cut a0 400) fun x1 =>
  bnd (quote_Read x1) fun x2 =>
  bnd (ref06_Read x1) fun x3 =>
  bnd (if x2.1 = x3.1 then
    if x2.2 = x3.2 then
      bnd (law06_awake) fun x7 =>
      some x7
    else
      some false
  else
    some false : Option Bool) fun t4 =>
  some t4
set_option maxHeartbeats 4000000 in
theorem law06_QuoteReads_c {a0 : List UInt8} {res : Bool} (h0 : law06_QuoteReads a0 = some res) : CallF X 4 [.val (.string (bs a0))] [] (fun x => .val (.bool res)) (fun x => []) := by
 unfold law06_QuoteReads at h0
 refine CallF.mkG (X := X) Try.func4 rfl rfl Try.ntmps4 rfl rfl ?_
 refine T.seq ?_
 refine T.region ?_
 refine TL.op1 (OpR.pure rfl) rfl ?_
 refine TL.nil ?_
 show T X _ _ _
 refine T.seq ?_
 refine T.region ?_
 refine TL.op1 (OpR.pure rfl) rfl ?_
 obtain ⟨x1, hx1, h0⟩ := bnd_some h0
 refine TL.op1 (OpR.call0 fn14 (law06_cut_c hx1) rfl) rfl ?_
 refine TL.op1 (OpR.pure rfl) rfl ?_
 refine TL.nil ?_
 show T X _ _ _
 refine T.seq ?_
 refine T.region ?_
 refine TL.op1 (OpR.pure rfl) rfl ?_
 refine TL.op1 (OpR.toBytesM rfl rfl rfl rfl rfl rfl rfl) rfl ?_
 obtain ⟨x2, hx2, h0⟩ := bnd_some h0
 refine TL.op1 (OpR.call0 fn21 (quote_Read_c hx2) rfl) rfl ?_
 refine TL.op1 (OpR.pure rfl) rfl ?_
 refine TL.op1 (OpR.pure rfl) rfl ?_
 refine TL.op1 (OpR.pure rfl) rfl ?_
 refine TL.op1 (OpR.pure rfl) rfl ?_
 refine TL.op1 (OpR.pure rfl) rfl ?_
 refine TL.nil ?_
 show T X _ _ _
 refine T.seq ?_
 refine T.region ?_
 refine TL.op1 (OpR.pure rfl) rfl ?_
 obtain ⟨x3, hx3, h0⟩ := bnd_some h0
 refine TL.op1 (OpR.call0 fn22 (ref06_Read_c hx3) rfl) rfl ?_
 refine TL.op1 (OpR.pure rfl) rfl ?_
 refine TL.op1 (OpR.pure rfl) rfl ?_
 refine TL.op1 (OpR.pure rfl) rfl ?_
 refine TL.op1 (OpR.pure rfl) rfl ?_
 refine TL.op1 (OpR.pure rfl) rfl ?_
 refine TL.nil ?_
 show T X _ _ _
 refine T.seq ?_
 obtain ⟨t4, ht4, h0⟩ := bnd_some h0
 refine T.cutC (fun S' => S' = ⟨[(2, .val (.bool t4))], [], 32⟩) (fun _ h => h) ?_ ?_
 rotate_left
 · rintro _ rfl
   show T X _ _ _
   refine T.ret ?_
   obtain rfl := Option.some.inj h0
   exact PostG.retP (ks := []) (Gst.only [2] rfl) undef (ResL.cons (ResV.tmp rfl) ResL.nil) rfl rfl rfl rfl
 refine T.region ?_
 refine TL.op1 (OpR.pure rfl) rfl ?_
 refine TL.op1 (OpR.toStr (bs := x2.1) rfl rfl rfl rfl rfl rfl rfl) rfl ?_
 refine TL.op1 (OpR.pure rfl) rfl ?_
 refine TL.op1 (OpR.cast (OpR.pure rfl) (boolE (strEq _ _))) rfl ?_
 refine TL.op1 (OpR.pure rfl) rfl ?_
 rcases ite_some ht4 with ⟨c5, ht4⟩ | ⟨c5, ht4⟩
 rotate_left
 · refine TL.off rfl rfl rfl rfl (beq_eq_false_iff_ne.2 c5) rfl rfl ?_
   refine TL.off rfl rfl rfl rfl (beq_eq_false_iff_ne.2 c5) rfl rfl ?_
   refine TL.off rfl rfl rfl rfl (beq_eq_false_iff_ne.2 c5) rfl rfl ?_
   refine TL.op1 (OpR.pickF rfl (beq_eq_false_iff_ne.2 c5) rfl) rfl ?_
   refine TL.op1 (OpR.pure rfl) rfl ?_
   refine TL.off rfl rfl rfl rfl rfl rfl rfl ?_
   refine TL.op1 (OpR.pickF rfl rfl rfl) rfl ?_
   refine TL.op1 (OpR.pure rfl) rfl ?_
   refine TL.nil ?_
   obtain rfl := Option.some.inj ht4
   exact ⟨_, Gst.only [2] rfl, rfl⟩
 refine TL.on rfl rfl rfl rfl (beq_iff_eq.2 c5) ?_
 refine TL.op1 (OpR.pure rfl) rfl ?_
 refine TL.on rfl rfl rfl rfl (beq_iff_eq.2 c5) ?_
 refine TL.op1 (OpR.pure rfl) rfl ?_
 refine TL.on rfl rfl rfl rfl (beq_iff_eq.2 c5) ?_
 refine TL.op1 (OpR.pure rfl) rfl ?_
 refine TL.op1 (OpR.pickT rfl (beq_iff_eq.2 c5) rfl) rfl ?_
 refine TL.op1 (OpR.pure rfl) rfl ?_
 rcases ite_some ht4 with ⟨c6, ht4⟩ | ⟨c6, ht4⟩
 rotate_left
 · refine TL.off rfl rfl rfl rfl (beq_eq_false_iff_ne.2 c6) rfl rfl ?_
   refine TL.op1 (OpR.pickF rfl (beq_eq_false_iff_ne.2 c6) rfl) rfl ?_
   refine TL.op1 (OpR.pure rfl) rfl ?_
   refine TL.nil ?_
   obtain rfl := Option.some.inj ht4
   exact ⟨_, Gst.only [2] rfl, rfl⟩
 refine TL.on rfl rfl rfl rfl (beq_iff_eq.2 c6) ?_
 obtain ⟨x7, hx7, ht4⟩ := bnd_some ht4
 refine TL.op1 (OpR.call0 fn20 (law06_awake_c hx7) rfl) rfl ?_
 refine TL.op1 (OpR.pickT rfl (beq_iff_eq.2 c6) rfl) rfl ?_
 refine TL.op1 (OpR.pure rfl) rfl ?_
 refine TL.nil ?_
 obtain rfl := Option.some.inj ht4
 exact ⟨_, Gst.only [2] rfl, rfl⟩
end Go.Proofs.Ytkjcogmngoogcaa.S
