/- Printed by a program of this session's own (gen.py): Lean functions for Go functions, and the proofs that the Go code comes to their answers. -/
import Derived.Test.YtlginjmkmfodmaaG8xa
import Derived.Test.YtlginjmkmfodmaaG9xa
import Derived.Test.YtlginjmkmfodmaaG5xa
set_option linter.unusedVariables false
set_option linter.unusedSimpArgs false
namespace Go.Proofs.Ytlginjmkmfodmaa.S
open Go Go.Sm
attribute [local irreducible] T TL OpR CallT iter loop
noncomputable def ref03_New (a0 : List UInt8) : Option (Int ⊕ (Int × (List UInt8))) :=
  if (a0.length : Int) > 4096 then
    some (Sum.inl 8)
  else
    some (Sum.inr (0, a0))
set_option maxHeartbeats 4000000 in
theorem ref03_New_c {a0 : List UInt8} {res : Int ⊕ (Int × (List UInt8))} (h0 : ref03_New a0 = some res) : CallF X 21 [.val (.string (bs a0))] [] (fun x => (match res with | .inl res => .tup [.val (.pointer none), .val (.int .i64 res)] | .inr res => .tup [.val (.pointer (some ⟨(blk (vn x 0)), 0, none⟩)), .val (.int .i64 res.1)])) (fun x => (match res with | .inl res => [] | .inr res => [.var (blk (vn x 0)) [.val (.string (bs res.2))] 58])) := by
 unfold ref03_New at h0
 refine CallF.mkG (X := X) Try.func21 rfl rfl Try.ntmps21 rfl rfl ?_
 refine T.seq ?_
 refine T.region ?_
 refine TL.op1 (OpR.pure rfl) rfl ?_
 refine TL.op1 (OpR.pure rfl) rfl ?_
 refine TL.nil ?_
 show T X _ _ _
 refine T.seq ?_
 refine T.seq ?_
 refine T.region ?_
 refine TL.op1 (OpR.pure rfl) rfl ?_
 refine TL.op1 (OpR.cast (OpR.pure rfl) (intE (lenS _))) rfl ?_
 refine TL.op1 (OpR.pure rfl) rfl ?_
 refine TL.nil ?_
 show T X _ _ _
 rcases ite_some h0 with ⟨c1, h0⟩ | ⟨c1, h0⟩
 · refine T.condT rfl (decide_eq_true c1) ?_
   refine T.seq ?_
   refine T.region ?_
   refine TL.op1 (OpR.pure rfl) rfl ?_
   refine TL.op1 (OpR.pure rfl) rfl ?_
   refine TL.nil ?_
   show T X _ _ _
   refine T.ret ?_
   obtain rfl := Option.some.inj h0
   exact PostG.retP (ks := []) (Gst.only [2, 3] rfl) undef (ResL.cons (ResV.tmp rfl) (ResL.cons (ResV.tmp rfl) ResL.nil)) rfl rfl rfl rfl
 refine T.condF rfl (decide_eq_false c1) ?_
 refine T.skip ?_
 show T X _ _ _
 refine T.seq ?_
 refine T.region ?_
 refine TL.op1 (OpR.pure rfl) rfl ?_
 refine TL.op1 (OpR.build rfl rfl rfl rfl rfl) rfl ?_
 refine TL.op (OpR.boxVar rfl rfl (fun _ => rfl)) rfl (fun p2 => ?_)
 refine TL.op1 (OpR.pure rfl) rfl ?_
 refine TL.op1 (OpR.pure rfl) rfl ?_
 refine TL.nil ?_
 show T X _ _ _
 refine T.ret ?_
 obtain rfl := Option.some.inj h0
 exact PostG.retP (ks := [0]) (Gst.only [2, 3] rfl) (.tuple #[p2]) (ResL.cons (ResV.tmp rfl) (ResL.cons (ResV.tmp rfl) ResL.nil)) rfl rfl rfl rfl
theorem ref03_New_cx1 {a0 : List UInt8} {res : Int} (h0 : ref03_New a0 = some (Sum.inl res)) : CallF X 21 [.val (.string (bs a0))] [] (fun x => .tup [.val (.pointer none), .val (.int .i64 res)]) (fun x => []) := ref03_New_c h0
theorem ref03_New_cx2 {a0 : List UInt8} {res : Int × (List UInt8)} (h0 : ref03_New a0 = some (Sum.inr res)) : CallF X 21 [.val (.string (bs a0))] [] (fun x => .tup [.val (.pointer (some ⟨(blk (vn x 0)), 0, none⟩)), .val (.int .i64 res.1)]) (fun x => [.var (blk (vn x 0)) [.val (.string (bs res.2))] 58]) := ref03_New_c h0
noncomputable def ref03_Place.l1 (a0 : List UInt8) (a1 : List UInt8) (s3 : Int) : Option (Lp Int (Ex Unit Int)) :=
  if s3 ≤ (w64 ((a0.length : Int) - (a1.length : Int))) then
    bnd (cut a0 s3 (w64 (s3 + (a1.length : Int)))) fun x12 =>
    if x12 = a1 then
      some (Lp.done (Ex.ret s3))
    else
      some (Lp.next (w64 (s3 + 1)))
  else
    some (Lp.done (Ex.brk ()))
noncomputable def ref03_Place (a0 : List UInt8) (a1 : List UInt8) : Option Int :=
  bnd (loop (ref03_Place.l1 a0 a1) 0 : Option (Ex Unit Int)) fun t1 => match t1 with
    | .brk u2 =>
      some (-1)
    | .ret u2 => some u2
set_option maxHeartbeats 4000000 in
theorem ref03_Place_c {a0 : List UInt8} {a1 : List UInt8} {res : Int} (h0 : ref03_Place a0 a1 = some res) : CallF X 57 [.val (.string (bs a0)), .val (.string (bs a1))] [] (fun x => .val (.int .i64 res)) (fun x => []) := by
 unfold ref03_Place at h0
 refine CallF.mkG (X := X) Try.func57 rfl rfl Try.ntmps57 rfl rfl ?_
 refine T.seq ?_
 refine T.region ?_
 refine TL.op1 (OpR.pure rfl) rfl ?_
 refine TL.nil ?_
 show T X _ _ _
 refine T.seq ?_
 refine T.seq ?_
 refine T.region ?_
 refine TL.op1 (OpR.pure rfl) rfl ?_
 refine TL.nil ?_
 show T X _ _ _
 obtain ⟨t1, ht1, h0⟩ := bnd_some h0
 refine T.cutC (fun S' => ∃ u2, t1 = Ex.brk u2 ∧ S' = ⟨[(4, .val (.int .i64 0))], [], 25⟩) (fun _ h => h) ?_ ?_
 rotate_left
 · rintro _ ⟨u2, rfl, rfl⟩
   show T X _ _ _
   refine T.seq ?_
   refine T.region ?_
   refine TL.op1 (OpR.pure rfl) rfl ?_
   refine TL.nil ?_
   show T X _ _ _
   refine T.ret ?_
   obtain rfl := Option.some.inj h0
   exact PostG.retP (ks := []) (Gst.only [4] rfl) undef (ResL.cons (ResV.tmp rfl) ResL.nil) rfl rfl rfl rfl
 refine T.block ?_
 obtain ⟨n4, n9⟩ := loop_some ht1
 refine T.loop (fun n S' => ∃ S'', Gst S' S'' ∧ ∃ s3 : Int, S'' = ⟨[(5, .val (.int .i64 s3)), (4, .val (.int .i64 0)), (1, .val (.string (bs a1))), (0, .val (.string (bs a0)))], [], 25⟩ ∧ iter (ref03_Place.l1 a0 a1) n s3 = some t1) n4 ?_ ?_
 · exact ⟨_, Gst.only [0, 1, 4, 5] rfl, 0, rfl, n9⟩
 rintro n4 _ ⟨_, g, s3, rfl, i8⟩
 refine T.ghost g ?_
 obtain ⟨m5, q6, rfl, q7, i8⟩ := iter_succ i8
 unfold ref03_Place.l1 at q7
 refine T.seq ?_
 refine T.seq ?_
 refine T.region ?_
 refine TL.op1 (OpR.pure rfl) rfl ?_
 refine TL.op1 (OpR.pure rfl) rfl ?_
 refine TL.op1 (OpR.cast (OpR.pure rfl) (intE (lenS _))) rfl ?_
 refine TL.op1 (OpR.pure rfl) rfl ?_
 refine TL.op1 (OpR.cast (OpR.pure rfl) (intE (lenS _))) rfl ?_
 refine TL.op1 (OpR.pure rfl) rfl ?_
 refine TL.op1 (OpR.pure rfl) rfl ?_
 refine TL.nil ?_
 show T X _ _ _
 rcases ite_some q7 with ⟨c11, q7⟩ | ⟨c11, q7⟩
 rotate_left
 · refine T.condF rfl (decide_eq_false c11) ?_
   refine T.exit ?_
   obtain rfl := Option.some.inj q7
   obtain rfl : _ = _ := i8
   exact ⟨_, Gst.only [4] rfl, _, rfl, rfl⟩
 refine T.condT rfl (decide_eq_true c11) ?_
 refine T.skip ?_
 show T X _ _ _
 refine T.seq ?_
 refine T.block ?_
 refine T.seq ?_
 refine T.region ?_
 refine TL.op1 (OpR.pure rfl) rfl ?_
 refine TL.op1 (OpR.pure rfl) rfl ?_
 refine TL.op1 (OpR.pure rfl) rfl ?_
 refine TL.op1 (OpR.pure rfl) rfl ?_
 refine TL.op1 (OpR.cast (OpR.pure rfl) (intE (lenS _))) rfl ?_
 refine TL.op1 (OpR.pure rfl) rfl ?_
 obtain ⟨x12, hx12, q7⟩ := bnd_some q7
 refine TL.op1 (OpR.sliceS hx12 rfl rfl rfl (BdM.some rfl) (BdM.some rfl)) rfl ?_
 refine TL.op1 (OpR.pure rfl) rfl ?_
 refine TL.op1 (OpR.cast (OpR.pure rfl) (boolE (strEq _ _))) rfl ?_
 refine TL.nil ?_
 show T X _ _ _
 rcases ite_some q7 with ⟨c13, q7⟩ | ⟨c13, q7⟩
 rotate_left
 · refine T.condF rfl (beq_eq_false_iff_ne.2 c13) ?_
   refine T.skip ?_
   show T X _ _ _
   refine T.region ?_
   refine TL.op1 (OpR.pure rfl) rfl ?_
   refine TL.op1 (OpR.pure rfl) rfl ?_
   refine TL.op1 (OpR.pure rfl) rfl ?_
   refine TL.nil ?_
   obtain rfl := Option.some.inj q7
   exact ⟨m5, Nat.lt_succ_self _, _, Gst.only [0, 1, 4, 5] rfl, w64 (s3 + 1), rfl, i8⟩
 refine T.condT rfl (beq_iff_eq.2 c13) ?_
 refine T.seq ?_
 refine T.region ?_
 refine TL.op1 (OpR.pure rfl) rfl ?_
 refine TL.op1 (OpR.pure rfl) rfl ?_
 refine TL.nil ?_
 show T X _ _ _
 refine T.ret ?_
 obtain rfl := Option.some.inj q7
 obtain rfl : _ = _ := i8
 obtain rfl := Option.some.inj h0
 exact PostG.retP (ks := []) (Gst.only [4] rfl) undef (ResL.cons (ResV.tmp rfl) ResL.nil) rfl rfl rfl rfl
noncomputable def ref03_Arena_Add (a0 : List UInt8) (a1 : List UInt8) : Option (ref03_Span × Int × (List UInt8)) :=
  if a0 = [] then
    some ((⟨0, 0⟩ : ref03_Span), 0, a1)
  else
    if (a0.length : Int) > (w64 (16384 - (a1.length : Int))) then
      some ((⟨0, 0⟩ : ref03_Span), 6, a1)
    else
      bnd (catS a1 a0) fun x5 =>
      some ((⟨(a1.length : Int), (a0.length : Int)⟩ : ref03_Span), 0, x5)
set_option maxHeartbeats 4000000 in
theorem ref03_Arena_Add_c {a0 : List UInt8} {a1 : List UInt8} {b0 : Nat} {res : ref03_Span × Int × (List UInt8)} (h0 : ref03_Arena_Add a0 a1 = some res) : CallF X 41 [.val (.pointer (some ⟨b0, 0, none⟩)), .val (.string (bs a0))] [.var b0 [.val (.string (bs a1))] 58] (fun x => .tup [.agg [.val (.int .i64 res.1.fAt), .val (.int .i64 res.1.fN)], .val (.int .i64 res.2.1)]) (fun x => [.var b0 [.val (.string (bs res.2.2))] 58]) := by
 unfold ref03_Arena_Add at h0
 refine CallF.mkG (X := X) Try.func41 rfl rfl Try.ntmps41 rfl rfl ?_
 refine T.seq ?_
 refine T.region ?_
 refine TL.op (OpR.alloc rfl rfl (fun _ => rfl)) rfl (fun p1 => ?_)
 refine TL.op1 (OpR.pure rfl) rfl ?_
 refine TL.nil ?_
 show T X _ _ _
 refine T.seq ?_
 refine T.seq ?_
 refine T.region ?_
 refine TL.op1 (OpR.pure rfl) rfl ?_
 refine TL.op1 (OpR.cast (OpR.pure rfl) (boolE (strEq _ _))) rfl ?_
 refine TL.nil ?_
 show T X _ _ _
 rcases ite_some h0 with ⟨c2, h0⟩ | ⟨c2, h0⟩
 · refine T.condT rfl (beq_iff_eq.2 c2) ?_
   refine T.seq ?_
   refine T.region ?_
   refine TL.op1 (OpR.build rfl rfl rfl rfl rfl) rfl ?_
   refine TL.op0 (OpR.store 1 rfl rfl rfl rfl rfl rfl rfl rfl) ?_
   refine TL.op1 (OpR.pure rfl) rfl ?_
   refine TL.nil ?_
   show T X _ _ _
   refine T.ret ?_
   obtain rfl := Option.some.inj h0
   exact PostG.retP (ks := [0]) (Gst.only [4, 5] rfl) undef (ResL.cons (ResV.var 1 rfl rfl rfl rfl) (ResL.cons (ResV.tmp rfl) ResL.nil)) rfl rfl rfl rfl
 refine T.condF rfl (beq_eq_false_iff_ne.2 c2) ?_
 refine T.skip ?_
 show T X _ _ _
 refine T.seq ?_
 refine T.seq ?_
 refine T.region ?_
 refine TL.op1 (OpR.pure rfl) rfl ?_
 refine TL.op1 (OpR.cast (OpR.pure rfl) (intE (lenS _))) rfl ?_
 refine TL.op1 (OpR.pure rfl) rfl ?_
 refine TL.op1 (OpR.pure rfl) rfl ?_
 refine TL.op1 (OpR.pure rfl) rfl ?_
 refine TL.op1 (OpR.loadPtr 0 rfl rfl rfl rfl) rfl ?_
 refine TL.op1 (OpR.cast (OpR.pure rfl) (intE (lenS _))) rfl ?_
 refine TL.op1 (OpR.pure rfl) rfl ?_
 refine TL.op1 (OpR.pure rfl) rfl ?_
 refine TL.nil ?_
 show T X _ _ _
 rcases ite_some h0 with ⟨c3, h0⟩ | ⟨c3, h0⟩
 · refine T.condT rfl (decide_eq_true c3) ?_
   refine T.seq ?_
   refine T.region ?_
   refine TL.op1 (OpR.build rfl rfl rfl rfl rfl) rfl ?_
   refine TL.op0 (OpR.store 1 rfl rfl rfl rfl rfl rfl rfl rfl) ?_
   refine TL.op1 (OpR.pure rfl) rfl ?_
   refine TL.nil ?_
   show T X _ _ _
   refine T.ret ?_
   obtain rfl := Option.some.inj h0
   exact PostG.retP (ks := [0]) (Gst.only [4, 5] rfl) undef (ResL.cons (ResV.var 1 rfl rfl rfl rfl) (ResL.cons (ResV.tmp rfl) ResL.nil)) rfl rfl rfl rfl
 refine T.condF rfl (decide_eq_false c3) ?_
 refine T.skip ?_
 show T X _ _ _
 refine T.seq ?_
 refine T.region ?_
 refine TL.op1 (OpR.pure rfl) rfl ?_
 refine TL.op1 (OpR.pure rfl) rfl ?_
 refine TL.op1 (OpR.pure rfl) rfl ?_
 refine TL.op1 (OpR.loadPtr 0 rfl rfl rfl rfl) rfl ?_
 refine TL.op1 (OpR.cast (OpR.pure rfl) (intE (lenS _))) rfl ?_
 refine TL.op1 (OpR.pure rfl) rfl ?_
 refine TL.op1 (OpR.cast (OpR.pure rfl) (intE (lenS _))) rfl ?_
 refine TL.op1 (OpR.build rfl rfl rfl rfl rfl) rfl ?_
 refine TL.op (OpR.alloc rfl rfl (fun _ => rfl)) rfl (fun p4 => ?_)
 refine TL.op0 (OpR.store 2 rfl rfl rfl rfl rfl rfl rfl rfl) ?_
 refine TL.nil ?_
 show T X _ _ _
 refine T.seq ?_
 refine T.region ?_
 refine TL.op1 (OpR.pure rfl) rfl ?_
 refine TL.op1 (OpR.pure rfl) rfl ?_
 refine TL.op1 (OpR.pure rfl) rfl ?_
 refine TL.op1 (OpR.pure rfl) rfl ?_
 refine TL.op1 (OpR.loadPtr 0 rfl rfl rfl rfl) rfl ?_
 refine TL.op1 (OpR.pure rfl) rfl ?_
 obtain ⟨x5, hx5, h0⟩ := bnd_some h0
 refine TL.op1 (OpR.concatM hx5 rfl rfl) rfl ?_
 refine TL.op1 (OpR.pure rfl) rfl ?_
 refine TL.op1 (OpR.pure rfl) rfl ?_
 refine TL.op0 (OpR.store 0 rfl rfl rfl rfl rfl rfl rfl rfl) ?_
 refine TL.nil ?_
 show T X _ _ _
 refine T.seq ?_
 refine T.region ?_
 refine TL.op1 (OpR.loadPtr 2 rfl rfl rfl rfl) rfl ?_
 refine TL.op0 (OpR.store 1 rfl rfl rfl rfl rfl rfl rfl rfl) ?_
 refine TL.op1 (OpR.pure rfl) rfl ?_
 refine TL.nil ?_
 show T X _ _ _
 refine T.ret ?_
 obtain rfl := Option.some.inj h0
 exact PostG.retP (ks := [0]) (Gst.trans (Gst.only [4, 5] rfl) (Gst.pick [0, 1] rfl rfl)) undef (ResL.cons (ResV.var 1 rfl rfl rfl rfl) (ResL.cons (ResV.tmp rfl) ResL.nil)) rfl rfl rfl rfl
noncomputable def ref03_Arena_Keep (a0 : List UInt8) (a1 : List UInt8) : Option (ref03_Span × Int × (List UInt8)) :=
  bnd (ref03_Place a1 a0) fun x2 =>
  bnd (if a0 = [] then
    some true
  else
    some (decide (x2 < 0)) : Option Bool) fun t3 =>
  if t3 = true then
    bnd (ref03_Arena_Add a0 a1) fun x6 =>
    some (x6.1, x6.2.1, x6.2.2)
  else
    some ((⟨x2, (a0.length : Int)⟩ : ref03_Span), 0, a1)
set_option maxHeartbeats 4000000 in
theorem ref03_Arena_Keep_c {a0 : List UInt8} {a1 : List UInt8} {b0 : Nat} {res : ref03_Span × Int × (List UInt8)} (h0 : ref03_Arena_Keep a0 a1 = some res) : CallF X 40 [.val (.pointer (some ⟨b0, 0, none⟩)), .val (.string (bs a0))] [.var b0 [.val (.string (bs a1))] 58] (fun x => .tup [.agg [.val (.int .i64 res.1.fAt), .val (.int .i64 res.1.fN)], .val (.int .i64 res.2.1)]) (fun x => [.var b0 [.val (.string (bs res.2.2))] 58]) := by
 unfold ref03_Arena_Keep at h0
 refine CallF.mkG (X := X) Try.func40 rfl rfl Try.ntmps40 rfl rfl ?_
 refine T.seq ?_
 refine T.region ?_
 refine TL.op (OpR.alloc rfl rfl (fun _ => rfl)) rfl (fun p1 => ?_)
 refine TL.op1 (OpR.pure rfl) rfl ?_
 refine TL.nil ?_
 show T X _ _ _
 refine T.seq ?_
 refine T.region ?_
 refine TL.op1 (OpR.pure rfl) rfl ?_
 refine TL.op1 (OpR.pure rfl) rfl ?_
 refine TL.op1 (OpR.pure rfl) rfl ?_
 refine TL.op1 (OpR.loadPtr 0 rfl rfl rfl rfl) rfl ?_
 refine TL.op1 (OpR.pure rfl) rfl ?_
 obtain ⟨x2, hx2, h0⟩ := bnd_some h0
 refine TL.op1 (OpR.call0 fn57 (ref03_Place_c hx2) rfl) rfl ?_
 refine TL.op1 (OpR.pure rfl) rfl ?_
 refine TL.nil ?_
 show T X _ _ _
 refine T.seq ?_
 refine T.seq ?_
 obtain ⟨t3, ht3, h0⟩ := bnd_some h0
 refine T.cutC (fun S' => S' = ⟨[(18, .val (.bool t3)), (6, .val (.int .i64 x2)), (5, .val (.int .i64 0)), (4, .val (.pointer (some ⟨(blk p1), 0, none⟩))), (1, .val (.string (bs a0))), (0, .val (.pointer (some ⟨b0, 0, none⟩)))], [.var b0 [.val (.string (bs a1))] 58, .var (blk p1) [.val (.int .i64 0), .val (.int .i64 0)] 62], 28⟩) (fun _ h => h) ?_ ?_
 · refine T.region ?_
   refine TL.op1 (OpR.pure rfl) rfl ?_
   refine TL.op1 (OpR.cast (OpR.pure rfl) (boolE (strEq _ _))) rfl ?_
   refine TL.op1 (OpR.pure rfl) rfl ?_
   rcases ite_some ht3 with ⟨c4, ht3⟩ | ⟨c4, ht3⟩
   · refine TL.off rfl rfl rfl rfl (beq_iff_eq.2 c4) rfl rfl ?_
     refine TL.off rfl rfl rfl rfl (beq_iff_eq.2 c4) rfl rfl ?_
     refine TL.op1 (OpR.pickT rfl (beq_iff_eq.2 c4) rfl) rfl ?_
     refine TL.nil ?_
     obtain rfl := Option.some.inj ht3
     exact ⟨_, Gst.only [0, 1, 4, 5, 6, 18] rfl, rfl⟩
   refine TL.on rfl rfl rfl rfl (beq_eq_false_iff_ne.2 c4) ?_
   refine TL.op1 (OpR.pure rfl) rfl ?_
   refine TL.on rfl rfl rfl rfl (beq_eq_false_iff_ne.2 c4) ?_
   refine TL.op1 (OpR.pure rfl) rfl ?_
   refine TL.op1 (OpR.pickF rfl (beq_eq_false_iff_ne.2 c4) rfl) rfl ?_
   refine TL.nil ?_
   obtain rfl := Option.some.inj ht3
   exact ⟨_, Gst.only [0, 1, 4, 5, 6, 18] rfl, rfl⟩
 rintro _ rfl
 show T X _ _ _
 rcases ite_some h0 with ⟨c5, h0⟩ | ⟨c5, h0⟩
 rotate_left
 · refine T.condF rfl (eq_false_of_ne_true c5) ?_
   refine T.skip ?_
   show T X _ _ _
   refine T.seq ?_
   refine T.region ?_
   refine TL.op1 (OpR.pure rfl) rfl ?_
   refine TL.op1 (OpR.pure rfl) rfl ?_
   refine TL.op1 (OpR.cast (OpR.pure rfl) (intE (lenS _))) rfl ?_
   refine TL.op1 (OpR.build rfl rfl rfl rfl rfl) rfl ?_
   refine TL.op0 (OpR.store 1 rfl rfl rfl rfl rfl rfl rfl rfl) ?_
   refine TL.op1 (OpR.pure rfl) rfl ?_
   refine TL.nil ?_
   show T X _ _ _
   refine T.ret ?_
   obtain rfl := Option.some.inj h0
   exact PostG.retP (ks := [0]) (Gst.only [4, 5] rfl) undef (ResL.cons (ResV.var 1 rfl rfl rfl rfl) (ResL.cons (ResV.tmp rfl) ResL.nil)) rfl rfl rfl rfl
 refine T.condT rfl (c5) ?_
 refine T.seq ?_
 refine T.region ?_
 refine TL.op1 (OpR.pure rfl) rfl ?_
 refine TL.op1 (OpR.pure rfl) rfl ?_
 obtain ⟨x6, hx6, h0⟩ := bnd_some h0
 refine TL.op1 (OpR.call [0] fn41 (ref03_Arena_Add_c hx6) rfl rfl rfl (fun _ => rfl)) rfl ?_
 refine TL.op1 (OpR.pure rfl) rfl ?_
 refine TL.op1 (OpR.pure rfl) rfl ?_
 refine TL.op0 (OpR.store 1 rfl rfl rfl rfl rfl rfl rfl rfl) ?_
 refine TL.op1 (OpR.pure rfl) rfl ?_
 refine TL.nil ?_
 show T X _ _ _
 refine T.ret ?_
 obtain rfl := Option.some.inj h0
 exact PostG.retP (ks := [0]) (Gst.only [4, 5] rfl) undef (ResL.cons (ResV.var 1 rfl rfl rfl rfl) (ResL.cons (ResV.tmp rfl) ResL.nil)) rfl rfl rfl rfl
noncomputable def law03_put (a0 : List UInt8) (a1 : Bool) (a2 : List UInt8) : Option (Bool × (List UInt8)) :=
  if a1 = true then
    bnd (arena_Arena_Keep_2 a0) fun x2 =>
    bnd (ref03_Arena_Keep a0 a2) fun x4 =>
    bnd (bnd (law03_ours x2.1) fun x8 =>
    if x8 = x4.1 then
      some (x2.2 == x4.2.1)
    else
      some false : Option Bool) fun t6 =>
    some (t6, x4.2.2)
  else
    bnd (arena_Arena_Add_2 a0) fun x10 =>
    bnd (ref03_Arena_Add a0 a2) fun x12 =>
    bnd (bnd (law03_ours x10.1) fun x16 =>
    if x16 = x12.1 then
      some (x10.2 == x12.2.1)
    else
      some false : Option Bool) fun t14 =>
    some (t14, x12.2.2)
set_option maxHeartbeats 4000000 in
theorem law03_put_c {a0 : List UInt8} {a1 : Bool} {a2 : List UInt8} {b0 : Nat} {res : Bool × (List UInt8)} (h0 : law03_put a0 a1 a2 = some res) : CallF X 22 [.val (.pointer none), .val (.pointer (some ⟨b0, 0, none⟩)), .val (.string (bs a0)), .val (.bool a1)] [.var b0 [.val (.string (bs a2))] 58] (fun x => .val (.bool res.1)) (fun x => [.var b0 [.val (.string (bs res.2))] 58]) := by
 unfold law03_put at h0
 refine CallF.mkG (X := X) Try.func22 rfl rfl Try.ntmps22 rfl rfl ?_
 refine T.seq ?_
 refine T.region ?_
 refine TL.op1 (OpR.pure rfl) rfl ?_
 refine TL.nil ?_
 show T X _ _ _
 refine T.seq ?_
 refine T.seq ?_
 refine T.region ?_
 refine TL.op1 (OpR.pure rfl) rfl ?_
 refine TL.nil ?_
 show T X _ _ _
 rcases ite_some h0 with ⟨c1, h0⟩ | ⟨c1, h0⟩
 · refine T.condT rfl (c1) ?_
   refine T.seq ?_
   refine T.region ?_
   refine TL.op1 (OpR.pure rfl) rfl ?_
   refine TL.op1 (OpR.pure rfl) rfl ?_
   refine TL.op1 (OpR.toBytesM rfl rfl rfl rfl rfl rfl rfl) rfl ?_
   obtain ⟨x2, hx2, h0⟩ := bnd_some h0
   refine TL.op1 (OpR.call0 fn29 (arena_Arena_Keep_2_c hx2) rfl) rfl ?_
   refine TL.op1 (OpR.pure rfl) rfl ?_
   refine TL.op1 (OpR.pure rfl) rfl ?_
   refine TL.op1 (OpR.pure rfl) rfl ?_
   refine TL.op (OpR.alloc rfl rfl (fun _ => rfl)) rfl (fun p3 => ?_)
   refine TL.op0 (OpR.store 1 rfl rfl rfl rfl rfl rfl rfl rfl) ?_
   refine TL.op1 (OpR.pure rfl) rfl ?_
   refine TL.nil ?_
   show T X _ _ _
   refine T.seq ?_
   refine T.region ?_
   refine TL.op1 (OpR.pure rfl) rfl ?_
   refine TL.op1 (OpR.pure rfl) rfl ?_
   obtain ⟨x4, hx4, h0⟩ := bnd_some h0
   refine TL.op1 (OpR.call [0] fn40 (ref03_Arena_Keep_c hx4) rfl rfl rfl (fun _ => rfl)) rfl ?_
   refine TL.op1 (OpR.pure rfl) rfl ?_
   refine TL.op1 (OpR.pure rfl) rfl ?_
   refine TL.op1 (OpR.pure rfl) rfl ?_
   refine TL.op (OpR.alloc rfl rfl (fun _ => rfl)) rfl (fun p5 => ?_)
   refine TL.op0 (OpR.store 2 rfl rfl rfl rfl rfl rfl rfl rfl) ?_
   refine TL.op1 (OpR.pure rfl) rfl ?_
   refine TL.nil ?_
   show T X _ _ _
   refine T.seq ?_
   obtain ⟨t6, ht6, h0⟩ := bnd_some h0
   refine T.cutC (fun S' => S' = ⟨[(8, .val (.bool t6)), (2, .val (.string (bs a0))), (1, .val (.pointer (some ⟨b0, 0, none⟩))), (0, .val (.pointer none))], [.var b0 [.val (.string (bs x4.2.2))] 58], 62⟩) (fun _ h => h) ?_ ?_
   rotate_left
   · rintro _ rfl
     show T X _ _ _
     refine T.ret ?_
     obtain rfl := Option.some.inj h0
     exact PostG.retP (ks := [0]) (Gst.only [8] rfl) undef (ResL.cons (ResV.tmp rfl) ResL.nil) rfl rfl rfl rfl
   obtain ⟨x8, hx8, ht6⟩ := bnd_some ht6
   rcases ite_some ht6 with ⟨c9, ht6⟩ | ⟨c9, ht6⟩
   rotate_left
   · refine T.drawQ drawsX [.agg [.val (.int .i64 x2.1.fAt), .val (.int .i64 x2.1.fN)], .agg [.val (.int .i64 x8.fAt), .val (.int .i64 x8.fN)], .agg [.val (.int .i64 x4.1.fAt), .val (.int .i64 x4.1.fN)], .val (.bool (x8 == x4.1)), .val (.bool (x8 == x4.1)), .tup [], .tup [], .tup [], .val (.bool false), .val (.bool false)] [0, 1, 2, 3, 8, 9, 10, 11, 12, 17, 18, 19, 20, 21, 22, 23, 24, 25, 26, 27, 28, 29, 30, 31, 32, 33, 34, 35, 36, 37, 38, 39] (by decide +kernel) rfl ?_ rfl ?_
     rotate_left
     · obtain rfl := Option.some.inj ht6
       exact ⟨_, Gst.trans (Gst.only [0, 1, 2, 8] rfl) (Gst.pick [0] rfl rfl), rfl⟩
     refine OpsQ.yes (Want.plain rfl) rfl (OpR.loadPtr 1 rfl rfl rfl rfl) ?_
     refine OpsQ.yes (Want.plain rfl) rfl (OpR.call0 fn28 (law03_ours_c hx8) rfl) ?_
     refine OpsQ.yes (Want.plain rfl) rfl (OpR.loadPtr 2 rfl rfl rfl rfl) ?_
     refine OpsQ.yes (Want.plain rfl) rfl (OpR.cast (OpR.eqStruct rfl rfl rfl rfl rfl (by kernel_rfl) (by kernel_rfl)) (boolE (beq_ref03_Span x8 x4.1))) ?_
     refine OpsQ.yes (Want.plain rfl) rfl (OpR.pure rfl) ?_
     refine OpsQ.no (Want.bool rfl rfl rfl rfl (by rw [(beq_eq_false_iff_ne.2 c9)]; rfl)) rfl ?_
     refine OpsQ.no (Want.bool rfl rfl rfl rfl (by rw [(beq_eq_false_iff_ne.2 c9)]; rfl)) rfl ?_
     refine OpsQ.no (Want.bool rfl rfl rfl rfl (by rw [(beq_eq_false_iff_ne.2 c9)]; rfl)) rfl ?_
     refine OpsQ.yes (Want.plain rfl) rfl (OpR.pickF rfl (beq_eq_false_iff_ne.2 c9) rfl) ?_
     refine OpsQ.yes (Want.plain rfl) rfl (OpR.pure rfl) ?_
     exact OpsQ.nil
   refine T.drawQ drawsX [.agg [.val (.int .i64 x2.1.fAt), .val (.int .i64 x2.1.fN)], .agg [.val (.int .i64 x8.fAt), .val (.int .i64 x8.fN)], .agg [.val (.int .i64 x4.1.fAt), .val (.int .i64 x4.1.fN)], .val (.bool (x8 == x4.1)), .val (.bool (x8 == x4.1)), .val (.int .i64 x2.2), .val (.int .i64 x4.2.1), .val (.bool (x2.2 == x4.2.1)), .val (.bool (x2.2 == x4.2.1)), .val (.bool (x2.2 == x4.2.1))] [0, 1, 2, 3, 8, 9, 10, 11, 12, 17, 18, 19, 20, 21, 22, 23, 24, 25, 26, 27, 28, 29, 30, 31, 32, 33, 34, 35, 36, 37, 38, 39] (by decide +kernel) rfl ?_ rfl ?_
   rotate_left
   · obtain rfl := Option.some.inj ht6
     exact ⟨_, Gst.trans (Gst.only [0, 1, 2, 8] rfl) (Gst.pick [0] rfl rfl), rfl⟩
   refine OpsQ.yes (Want.plain rfl) rfl (OpR.loadPtr 1 rfl rfl rfl rfl) ?_
   refine OpsQ.yes (Want.plain rfl) rfl (OpR.call0 fn28 (law03_ours_c hx8) rfl) ?_
   refine OpsQ.yes (Want.plain rfl) rfl (OpR.loadPtr 2 rfl rfl rfl rfl) ?_
   refine OpsQ.yes (Want.plain rfl) rfl (OpR.cast (OpR.eqStruct rfl rfl rfl rfl rfl (by kernel_rfl) (by kernel_rfl)) (boolE (beq_ref03_Span x8 x4.1))) ?_
   refine OpsQ.yes (Want.plain rfl) rfl (OpR.pure rfl) ?_
   refine OpsQ.yes (Want.bool rfl rfl rfl rfl (by rw [(beq_iff_eq.2 c9)]; rfl)) rfl (OpR.pure rfl) ?_
   refine OpsQ.yes (Want.bool rfl rfl rfl rfl (by rw [(beq_iff_eq.2 c9)]; rfl)) rfl (OpR.pure rfl) ?_
   refine OpsQ.yes (Want.bool rfl rfl rfl rfl (by rw [(beq_iff_eq.2 c9)]; rfl)) rfl (OpR.pure rfl) ?_
   refine OpsQ.yes (Want.plain rfl) rfl (OpR.pickT rfl (beq_iff_eq.2 c9) rfl) ?_
   refine OpsQ.yes (Want.plain rfl) rfl (OpR.pure rfl) ?_
   exact OpsQ.nil
 refine T.condF rfl (eq_false_of_ne_true c1) ?_
 refine T.skip ?_
 show T X _ _ _
 refine T.seq ?_
 refine T.region ?_
 refine TL.op1 (OpR.pure rfl) rfl ?_
 refine TL.op1 (OpR.pure rfl) rfl ?_
 refine TL.op1 (OpR.toBytesM rfl rfl rfl rfl rfl rfl rfl) rfl ?_
 obtain ⟨x10, hx10, h0⟩ := bnd_some h0
 refine TL.op1 (OpR.call0 fn17 (arena_Arena_Add_2_c hx10) rfl) rfl ?_
 refine TL.op1 (OpR.pure rfl) rfl ?_
 refine TL.op1 (OpR.pure rfl) rfl ?_
 refine TL.op1 (OpR.pure rfl) rfl ?_
 refine TL.op (OpR.alloc rfl rfl (fun _ => rfl)) rfl (fun p11 => ?_)
 refine TL.op0 (OpR.store 1 rfl rfl rfl rfl rfl rfl rfl rfl) ?_
 refine TL.op1 (OpR.pure rfl) rfl ?_
 refine TL.nil ?_
 show T X _ _ _
 refine T.seq ?_
 refine T.region ?_
 refine TL.op1 (OpR.pure rfl) rfl ?_
 refine TL.op1 (OpR.pure rfl) rfl ?_
 obtain ⟨x12, hx12, h0⟩ := bnd_some h0
 refine TL.op1 (OpR.call [0] fn41 (ref03_Arena_Add_c hx12) rfl rfl rfl (fun _ => rfl)) rfl ?_
 refine TL.op1 (OpR.pure rfl) rfl ?_
 refine TL.op1 (OpR.pure rfl) rfl ?_
 refine TL.op1 (OpR.pure rfl) rfl ?_
 refine TL.op (OpR.alloc rfl rfl (fun _ => rfl)) rfl (fun p13 => ?_)
 refine TL.op0 (OpR.store 2 rfl rfl rfl rfl rfl rfl rfl rfl) ?_
 refine TL.op1 (OpR.pure rfl) rfl ?_
 refine TL.nil ?_
 show T X _ _ _
 refine T.seq ?_
 obtain ⟨t14, ht14, h0⟩ := bnd_some h0
 refine T.cutC (fun S' => S' = ⟨[(8, .val (.bool t14))], [.var b0 [.val (.string (bs x12.2.2))] 58], 62⟩) (fun _ h => h) ?_ ?_
 rotate_left
 · rintro _ rfl
   show T X _ _ _
   refine T.ret ?_
   obtain rfl := Option.some.inj h0
   exact PostG.retP (ks := [0]) (Gst.only [8] rfl) undef (ResL.cons (ResV.tmp rfl) ResL.nil) rfl rfl rfl rfl
 obtain ⟨x16, hx16, ht14⟩ := bnd_some ht14
 rcases ite_some ht14 with ⟨c17, ht14⟩ | ⟨c17, ht14⟩
 rotate_left
 · refine T.drawQ drawsX [.agg [.val (.int .i64 x10.1.fAt), .val (.int .i64 x10.1.fN)], .agg [.val (.int .i64 x16.fAt), .val (.int .i64 x16.fN)], .agg [.val (.int .i64 x12.1.fAt), .val (.int .i64 x12.1.fN)], .val (.bool (x16 == x12.1)), .val (.bool (x16 == x12.1)), .tup [], .tup [], .tup [], .val (.bool false), .val (.bool false)] [0, 1, 2, 3, 8, 13, 14, 15, 16, 17, 40, 41, 42, 43, 44, 45, 46, 47, 48, 49, 50, 51, 52, 53, 54, 55, 56, 57, 58, 59, 60, 61] (by decide +kernel) rfl ?_ rfl ?_
   rotate_left
   · obtain rfl := Option.some.inj ht14
     exact ⟨_, Gst.trans (Gst.only [8] rfl) (Gst.pick [0] rfl rfl), rfl⟩
   refine OpsQ.yes (Want.plain rfl) rfl (OpR.loadPtr 1 rfl rfl rfl rfl) ?_
   refine OpsQ.yes (Want.plain rfl) rfl (OpR.call0 fn28 (law03_ours_c hx16) rfl) ?_
   refine OpsQ.yes (Want.plain rfl) rfl (OpR.loadPtr 2 rfl rfl rfl rfl) ?_
   refine OpsQ.yes (Want.plain rfl) rfl (OpR.cast (OpR.eqStruct rfl rfl rfl rfl rfl (by kernel_rfl) (by kernel_rfl)) (boolE (beq_ref03_Span x16 x12.1))) ?_
   refine OpsQ.yes (Want.plain rfl) rfl (OpR.pure rfl) ?_
   refine OpsQ.no (Want.bool rfl rfl rfl rfl (by rw [(beq_eq_false_iff_ne.2 c17)]; rfl)) rfl ?_
   refine OpsQ.no (Want.bool rfl rfl rfl rfl (by rw [(beq_eq_false_iff_ne.2 c17)]; rfl)) rfl ?_
   refine OpsQ.no (Want.bool rfl rfl rfl rfl (by rw [(beq_eq_false_iff_ne.2 c17)]; rfl)) rfl ?_
   refine OpsQ.yes (Want.plain rfl) rfl (OpR.pickF rfl (beq_eq_false_iff_ne.2 c17) rfl) ?_
   refine OpsQ.yes (Want.plain rfl) rfl (OpR.pure rfl) ?_
   exact OpsQ.nil
 refine T.drawQ drawsX [.agg [.val (.int .i64 x10.1.fAt), .val (.int .i64 x10.1.fN)], .agg [.val (.int .i64 x16.fAt), .val (.int .i64 x16.fN)], .agg [.val (.int .i64 x12.1.fAt), .val (.int .i64 x12.1.fN)], .val (.bool (x16 == x12.1)), .val (.bool (x16 == x12.1)), .val (.int .i64 x10.2), .val (.int .i64 x12.2.1), .val (.bool (x10.2 == x12.2.1)), .val (.bool (x10.2 == x12.2.1)), .val (.bool (x10.2 == x12.2.1))] [0, 1, 2, 3, 8, 13, 14, 15, 16, 17, 40, 41, 42, 43, 44, 45, 46, 47, 48, 49, 50, 51, 52, 53, 54, 55, 56, 57, 58, 59, 60, 61] (by decide +kernel) rfl ?_ rfl ?_
 rotate_left
 · obtain rfl := Option.some.inj ht14
   exact ⟨_, Gst.trans (Gst.only [8] rfl) (Gst.pick [0] rfl rfl), rfl⟩
 refine OpsQ.yes (Want.plain rfl) rfl (OpR.loadPtr 1 rfl rfl rfl rfl) ?_
 refine OpsQ.yes (Want.plain rfl) rfl (OpR.call0 fn28 (law03_ours_c hx16) rfl) ?_
 refine OpsQ.yes (Want.plain rfl) rfl (OpR.loadPtr 2 rfl rfl rfl rfl) ?_
 refine OpsQ.yes (Want.plain rfl) rfl (OpR.cast (OpR.eqStruct rfl rfl rfl rfl rfl (by kernel_rfl) (by kernel_rfl)) (boolE (beq_ref03_Span x16 x12.1))) ?_
 refine OpsQ.yes (Want.plain rfl) rfl (OpR.pure rfl) ?_
 refine OpsQ.yes (Want.bool rfl rfl rfl rfl (by rw [(beq_iff_eq.2 c17)]; rfl)) rfl (OpR.pure rfl) ?_
 refine OpsQ.yes (Want.bool rfl rfl rfl rfl (by rw [(beq_iff_eq.2 c17)]; rfl)) rfl (OpR.pure rfl) ?_
 refine OpsQ.yes (Want.bool rfl rfl rfl rfl (by rw [(beq_iff_eq.2 c17)]; rfl)) rfl (OpR.pure rfl) ?_
 refine OpsQ.yes (Want.plain rfl) rfl (OpR.pickT rfl (beq_iff_eq.2 c17) rfl) ?_
 refine OpsQ.yes (Want.plain rfl) rfl (OpR.pure rfl) ?_
 exact OpsQ.nil
noncomputable def ref03_Arena_Right (a0 : ref03_Span) (a1 : List UInt8) : Option Bool :=
  bnd (if a0.fAt ≥ 0 then
    if a0.fN ≥ 0 then
      if a0.fAt ≤ (a1.length : Int) then
        some (decide (a0.fN ≤ (w64 ((a1.length : Int) - a0.fAt))))
      else
        some false
    else
      some false
  else
    some false : Option Bool) fun t1 =>
  some t1
set_option maxHeartbeats 4000000 in
theorem ref03_Arena_Right_c {a0 : ref03_Span} {a1 : List UInt8} {b0 : Nat} {res : Bool} (h0 : ref03_Arena_Right a0 a1 = some res) : CallF X 27 [.val (.pointer (some ⟨b0, 0, none⟩)), .agg [.val (.int .i64 a0.fAt), .val (.int .i64 a0.fN)]] [.var b0 [.val (.string (bs a1))] 58] (fun x => .val (.bool res)) (fun x => [.var b0 [.val (.string (bs a1))] 58]) := by
 unfold ref03_Arena_Right at h0
 refine CallF.mkG (X := X) Try.func27 rfl rfl Try.ntmps27 rfl rfl ?_
 refine T.seq ?_
 refine T.region ?_
 refine TL.op1 (OpR.boxImm rfl rfl) rfl ?_
 refine TL.op1 (OpR.pure rfl) rfl ?_
 refine TL.nil ?_
 show T X _ _ _
 refine T.seq ?_
 obtain ⟨t1, ht1, h0⟩ := bnd_some h0
 refine T.cutC (fun S' => S' = ⟨[(4, .val (.bool t1))], [.var b0 [.val (.string (bs a1))] 58], 36⟩) (fun _ h => h) ?_ ?_
 rotate_left
 · rintro _ rfl
   show T X _ _ _
   refine T.ret ?_
   obtain rfl := Option.some.inj h0
   exact PostG.retP (ks := [0]) (Gst.only [4] rfl) undef (ResL.cons (ResV.tmp rfl) ResL.nil) rfl rfl rfl rfl
 rcases ite_some ht1 with ⟨c3, ht1⟩ | ⟨c3, ht1⟩
 rotate_left
 · refine T.drawQ drawsX [.nod [.val (.int .i64 a0.fAt), .val (.int .i64 a0.fN)], .val (.int .i64 a0.fAt), .val (.bool (decide (a0.fAt ≥ 0))), .val (.bool (decide (a0.fAt ≥ 0))), .tup [], .tup [], .tup [], .val (.bool false), .val (.bool false), .tup [], .tup [], .tup [], .tup [], .tup [], .tup [], .tup [], .tup [], .val (.bool false), .val (.bool false), .tup [], .tup [], .tup [], .tup [], .tup [], .tup [], .tup [], .tup [], .tup [], .tup [], .tup [], .val (.bool false), .val (.bool false)] [0, 1, 3, 4, 5, 6, 7, 8, 9, 10, 11, 12, 13, 14, 15, 16, 17, 18, 19, 20, 21, 22, 23, 24, 25, 26, 27, 28, 29, 30, 31, 32, 33, 34, 35] (by decide +kernel) rfl ?_ rfl ?_
   rotate_left
   · obtain rfl := Option.some.inj ht1
     exact ⟨_, Gst.only [4] rfl, rfl⟩
   refine OpsQ.yes (Want.plain rfl) rfl (OpR.pure rfl) ?_
   refine OpsQ.yes (Want.plain rfl) rfl (OpR.pure rfl) ?_
   refine OpsQ.yes (Want.plain rfl) rfl (OpR.pure rfl) ?_
   refine OpsQ.yes (Want.plain rfl) rfl (OpR.pure rfl) ?_
   refine OpsQ.no (Want.bool rfl rfl rfl rfl (by rw [(decide_eq_false c3)]; rfl)) rfl ?_
   refine OpsQ.no (Want.bool rfl rfl rfl rfl (by rw [(decide_eq_false c3)]; rfl)) rfl ?_
   refine OpsQ.no (Want.bool rfl rfl rfl rfl (by rw [(decide_eq_false c3)]; rfl)) rfl ?_
   refine OpsQ.yes (Want.plain rfl) rfl (OpR.pickF rfl (decide_eq_false c3) rfl) ?_
   refine OpsQ.yes (Want.plain rfl) rfl (OpR.pure rfl) ?_
   refine OpsQ.no (Want.bool rfl rfl rfl rfl rfl) rfl ?_
   refine OpsQ.no (Want.bool rfl rfl rfl rfl rfl) rfl ?_
   refine OpsQ.no (Want.bool rfl rfl rfl rfl rfl) rfl ?_
   refine OpsQ.no (Want.bool rfl rfl rfl rfl rfl) rfl ?_
   refine OpsQ.no (Want.bool rfl rfl rfl rfl rfl) rfl ?_
   refine OpsQ.no (Want.bool rfl rfl rfl rfl rfl) rfl ?_
   refine OpsQ.no (Want.bool rfl rfl rfl rfl rfl) rfl ?_
   refine OpsQ.no (Want.bool rfl rfl rfl rfl rfl) rfl ?_
   refine OpsQ.yes (Want.plain rfl) rfl (OpR.pickF rfl rfl rfl) ?_
   refine OpsQ.yes (Want.plain rfl) rfl (OpR.pure rfl) ?_
   refine OpsQ.no (Want.bool rfl rfl rfl rfl rfl) rfl ?_
   refine OpsQ.no (Want.bool rfl rfl rfl rfl rfl) rfl ?_
   refine OpsQ.no (Want.bool rfl rfl rfl rfl rfl) rfl ?_
   refine OpsQ.no (Want.bool rfl rfl rfl rfl rfl) rfl ?_
   refine OpsQ.no (Want.bool rfl rfl rfl rfl rfl) rfl ?_
   refine OpsQ.no (Want.bool rfl rfl rfl rfl rfl) rfl ?_
   refine OpsQ.no (Want.bool rfl rfl rfl rfl rfl) rfl ?_
   refine OpsQ.no (Want.bool rfl rfl rfl rfl rfl) rfl ?_
   refine OpsQ.no (Want.bool rfl rfl rfl rfl rfl) rfl ?_
   refine OpsQ.no (Want.bool rfl rfl rfl rfl rfl) rfl ?_
   refine OpsQ.no (Want.bool rfl rfl rfl rfl rfl) rfl ?_
   refine OpsQ.yes (Want.plain rfl) rfl (OpR.pickF rfl rfl rfl) ?_
   refine OpsQ.yes (Want.plain rfl) rfl (OpR.pure rfl) ?_
   exact OpsQ.nil
 rcases ite_some ht1 with ⟨c4, ht1⟩ | ⟨c4, ht1⟩
 rotate_left
 · refine T.drawQ drawsX [.nod [.val (.int .i64 a0.fAt), .val (.int .i64 a0.fN)], .val (.int .i64 a0.fAt), .val (.bool (decide (a0.fAt ≥ 0))), .val (.bool (decide (a0.fAt ≥ 0))), .nod [.val (.int .i64 a0.fN)], .val (.int .i64 a0.fN), .val (.bool (decide (a0.fN ≥ 0))), .val (.bool (decide (a0.fN ≥ 0))), .val (.bool (decide (a0.fN ≥ 0))), .tup [], .tup [], .tup [], .tup [], .tup [], .tup [], .tup [], .tup [], .val (.bool false), .val (.bool false), .tup [], .tup [], .tup [], .tup [], .tup [], .tup [], .tup [], .tup [], .tup [], .tup [], .tup [], .val (.bool false), .val (.bool false)] [0, 1, 3, 4, 5, 6, 7, 8, 9, 10, 11, 12, 13, 14, 15, 16, 17, 18, 19, 20, 21, 22, 23, 24, 25, 26, 27, 28, 29, 30, 31, 32, 33, 34, 35] (by decide +kernel) rfl ?_ rfl ?_
   rotate_left
   · obtain rfl := Option.some.inj ht1
     exact ⟨_, Gst.only [4] rfl, rfl⟩
   refine OpsQ.yes (Want.plain rfl) rfl (OpR.pure rfl) ?_
   refine OpsQ.yes (Want.plain rfl) rfl (OpR.pure rfl) ?_
   refine OpsQ.yes (Want.plain rfl) rfl (OpR.pure rfl) ?_
   refine OpsQ.yes (Want.plain rfl) rfl (OpR.pure rfl) ?_
   refine OpsQ.yes (Want.bool rfl rfl rfl rfl (by rw [(decide_eq_true c3)]; rfl)) rfl (OpR.pure rfl) ?_
   refine OpsQ.yes (Want.bool rfl rfl rfl rfl (by rw [(decide_eq_true c3)]; rfl)) rfl (OpR.pure rfl) ?_
   refine OpsQ.yes (Want.bool rfl rfl rfl rfl (by rw [(decide_eq_true c3)]; rfl)) rfl (OpR.pure rfl) ?_
   refine OpsQ.yes (Want.plain rfl) rfl (OpR.pickT rfl (decide_eq_true c3) rfl) ?_
   refine OpsQ.yes (Want.plain rfl) rfl (OpR.pure rfl) ?_
   refine OpsQ.no (Want.bool rfl rfl rfl rfl (by rw [(decide_eq_false c4)]; rfl)) rfl ?_
   refine OpsQ.no (Want.bool rfl rfl rfl rfl (by rw [(decide_eq_false c4)]; rfl)) rfl ?_
   refine OpsQ.no (Want.bool rfl rfl rfl rfl (by rw [(decide_eq_false c4)]; rfl)) rfl ?_
   refine OpsQ.no (Want.bool rfl rfl rfl rfl (by rw [(decide_eq_false c4)]; rfl)) rfl ?_
   refine OpsQ.no (Want.bool rfl rfl rfl rfl (by rw [(decide_eq_false c4)]; rfl)) rfl ?_
   refine OpsQ.no (Want.bool rfl rfl rfl rfl (by rw [(decide_eq_false c4)]; rfl)) rfl ?_
   refine OpsQ.no (Want.bool rfl rfl rfl rfl (by rw [(decide_eq_false c4)]; rfl)) rfl ?_
   refine OpsQ.no (Want.bool rfl rfl rfl rfl (by rw [(decide_eq_false c4)]; rfl)) rfl ?_
   refine OpsQ.yes (Want.plain rfl) rfl (OpR.pickF rfl (decide_eq_false c4) rfl) ?_
   refine OpsQ.yes (Want.plain rfl) rfl (OpR.pure rfl) ?_
   refine OpsQ.no (Want.bool rfl rfl rfl rfl rfl) rfl ?_
   refine OpsQ.no (Want.bool rfl rfl rfl rfl rfl) rfl ?_
   refine OpsQ.no (Want.bool rfl rfl rfl rfl rfl) rfl ?_
   refine OpsQ.no (Want.bool rfl rfl rfl rfl rfl) rfl ?_
   refine OpsQ.no (Want.bool rfl rfl rfl rfl rfl) rfl ?_
   refine OpsQ.no (Want.bool rfl rfl rfl rfl rfl) rfl ?_
   refine OpsQ.no (Want.bool rfl rfl rfl rfl rfl) rfl ?_
   refine OpsQ.no (Want.bool rfl rfl rfl rfl rfl) rfl ?_
   refine OpsQ.no (Want.bool rfl rfl rfl rfl rfl) rfl ?_
   refine OpsQ.no (Want.bool rfl rfl rfl rfl rfl) rfl ?_
   refine OpsQ.no (Want.bool rfl rfl rfl rfl rfl) rfl ?_
   refine OpsQ.yes (Want.plain rfl) rfl (OpR.pickF rfl rfl rfl) ?_
   refine OpsQ.yes (Want.plain rfl) rfl (OpR.pure rfl) ?_
   exact OpsQ.nil
 rcases ite_some ht1 with ⟨c5, ht1⟩ | ⟨c5, ht1⟩
 rotate_left
 · refine T.drawQ drawsX [.nod [.val (.int .i64 a0.fAt), .val (.int .i64 a0.fN)], .val (.int .i64 a0.fAt), .val (.bool (decide (a0.fAt ≥ 0))), .val (.bool (decide (a0.fAt ≥ 0))), .nod [.val (.int .i64 a0.fN)], .val (.int .i64 a0.fN), .val (.bool (decide (a0.fN ≥ 0))), .val (.bool (decide (a0.fN ≥ 0))), .val (.bool (decide (a0.fN ≥ 0))), .nod [.val (.int .i64 a0.fAt), .val (.int .i64 a0.fN)], .val (.int .i64 a0.fAt), .val (.pointer (some ⟨b0, 0, none⟩)), .val (.pointer (some ⟨b0, 0, none⟩)), .val (.pointer (some ⟨b0, 0, none⟩)), .val (.string (bs a1)), .val (.int .i64 (a1.length : Int)), .val (.bool (decide (a0.fAt ≤ (a1.length : Int)))), .val (.bool (decide (a0.fAt ≤ (a1.length : Int)))), .val (.bool (decide (a0.fAt ≤ (a1.length : Int)))), .tup [], .tup [], .tup [], .tup [], .tup [], .tup [], .tup [], .tup [], .tup [], .tup [], .tup [], .val (.bool false), .val (.bool false)] [0, 1, 3, 4, 5, 6, 7, 8, 9, 10, 11, 12, 13, 14, 15, 16, 17, 18, 19, 20, 21, 22, 23, 24, 25, 26, 27, 28, 29, 30, 31, 32, 33, 34, 35] (by decide +kernel) rfl ?_ rfl ?_
   rotate_left
   · obtain rfl := Option.some.inj ht1
     exact ⟨_, Gst.only [4] rfl, rfl⟩
   refine OpsQ.yes (Want.plain rfl) rfl (OpR.pure rfl) ?_
   refine OpsQ.yes (Want.plain rfl) rfl (OpR.pure rfl) ?_
   refine OpsQ.yes (Want.plain rfl) rfl (OpR.pure rfl) ?_
   refine OpsQ.yes (Want.plain rfl) rfl (OpR.pure rfl) ?_
   refine OpsQ.yes (Want.bool rfl rfl rfl rfl (by rw [(decide_eq_true c3)]; rfl)) rfl (OpR.pure rfl) ?_
   refine OpsQ.yes (Want.bool rfl rfl rfl rfl (by rw [(decide_eq_true c3)]; rfl)) rfl (OpR.pure rfl) ?_
   refine OpsQ.yes (Want.bool rfl rfl rfl rfl (by rw [(decide_eq_true c3)]; rfl)) rfl (OpR.pure rfl) ?_
   refine OpsQ.yes (Want.plain rfl) rfl (OpR.pickT rfl (decide_eq_true c3) rfl) ?_
   refine OpsQ.yes (Want.plain rfl) rfl (OpR.pure rfl) ?_
   refine OpsQ.yes (Want.bool rfl rfl rfl rfl (by rw [(decide_eq_true c4)]; rfl)) rfl (OpR.pure rfl) ?_
   refine OpsQ.yes (Want.bool rfl rfl rfl rfl (by rw [(decide_eq_true c4)]; rfl)) rfl (OpR.pure rfl) ?_
   refine OpsQ.yes (Want.bool rfl rfl rfl rfl (by rw [(decide_eq_true c4)]; rfl)) rfl (OpR.pure rfl) ?_
   refine OpsQ.yes (Want.bool rfl rfl rfl rfl (by rw [(decide_eq_true c4)]; rfl)) rfl (OpR.pure rfl) ?_
   refine OpsQ.yes (Want.bool rfl rfl rfl rfl (by rw [(decide_eq_true c4)]; rfl)) rfl (OpR.pure rfl) ?_
   refine OpsQ.yes (Want.bool rfl rfl rfl rfl (by rw [(decide_eq_true c4)]; rfl)) rfl (OpR.loadPtr 0 rfl rfl rfl rfl) ?_
   refine OpsQ.yes (Want.bool rfl rfl rfl rfl (by rw [(decide_eq_true c4)]; rfl)) rfl (OpR.cast (OpR.pure rfl) (intE (lenS _))) ?_
   refine OpsQ.yes (Want.bool rfl rfl rfl rfl (by rw [(decide_eq_true c4)]; rfl)) rfl (OpR.pure rfl) ?_
   refine OpsQ.yes (Want.plain rfl) rfl (OpR.pickT rfl (decide_eq_true c4) rfl) ?_
   refine OpsQ.yes (Want.plain rfl) rfl (OpR.pure rfl) ?_
   refine OpsQ.no (Want.bool rfl rfl rfl rfl (by rw [(decide_eq_false c5)]; rfl)) rfl ?_
   refine OpsQ.no (Want.bool rfl rfl rfl rfl (by rw [(decide_eq_false c5)]; rfl)) rfl ?_
   refine OpsQ.no (Want.bool rfl rfl rfl rfl (by rw [(decide_eq_false c5)]; rfl)) rfl ?_
   refine OpsQ.no (Want.bool rfl rfl rfl rfl (by rw [(decide_eq_false c5)]; rfl)) rfl ?_
   refine OpsQ.no (Want.bool rfl rfl rfl rfl (by rw [(decide_eq_false c5)]; rfl)) rfl ?_
   refine OpsQ.no (Want.bool rfl rfl rfl rfl (by rw [(decide_eq_false c5)]; rfl)) rfl ?_
   refine OpsQ.no (Want.bool rfl rfl rfl rfl (by rw [(decide_eq_false c5)]; rfl)) rfl ?_
   refine OpsQ.no (Want.bool rfl rfl rfl rfl (by rw [(decide_eq_false c5)]; rfl)) rfl ?_
   refine OpsQ.no (Want.bool rfl rfl rfl rfl (by rw [(decide_eq_false c5)]; rfl)) rfl ?_
   refine OpsQ.no (Want.bool rfl rfl rfl rfl (by rw [(decide_eq_false c5)]; rfl)) rfl ?_
   refine OpsQ.no (Want.bool rfl rfl rfl rfl (by rw [(decide_eq_false c5)]; rfl)) rfl ?_
   refine OpsQ.yes (Want.plain rfl) rfl (OpR.pickF rfl (decide_eq_false c5) rfl) ?_
   refine OpsQ.yes (Want.plain rfl) rfl (OpR.pure rfl) ?_
   exact OpsQ.nil
 refine T.drawQ drawsX [.nod [.val (.int .i64 a0.fAt), .val (.int .i64 a0.fN)], .val (.int .i64 a0.fAt), .val (.bool (decide (a0.fAt ≥ 0))), .val (.bool (decide (a0.fAt ≥ 0))), .nod [.val (.int .i64 a0.fN)], .val (.int .i64 a0.fN), .val (.bool (decide (a0.fN ≥ 0))), .val (.bool (decide (a0.fN ≥ 0))), .val (.bool (decide (a0.fN ≥ 0))), .nod [.val (.int .i64 a0.fAt), .val (.int .i64 a0.fN)], .val (.int .i64 a0.fAt), .val (.pointer (some ⟨b0, 0, none⟩)), .val (.pointer (some ⟨b0, 0, none⟩)), .val (.pointer (some ⟨b0, 0, none⟩)), .val (.string (bs a1)), .val (.int .i64 (a1.length : Int)), .val (.bool (decide (a0.fAt ≤ (a1.length : Int)))), .val (.bool (decide (a0.fAt ≤ (a1.length : Int)))), .val (.bool (decide (a0.fAt ≤ (a1.length : Int)))), .nod [.val (.int .i64 a0.fN)], .val (.int .i64 a0.fN), .val (.pointer (some ⟨b0, 0, none⟩)), .val (.pointer (some ⟨b0, 0, none⟩)), .val (.pointer (some ⟨b0, 0, none⟩)), .val (.string (bs a1)), .val (.int .i64 (a1.length : Int)), .nod [.val (.int .i64 a0.fAt), .val (.int .i64 a0.fN)], .val (.int .i64 a0.fAt), .val (.int .i64 (w64 ((a1.length : Int) - a0.fAt))), .val (.bool (decide (a0.fN ≤ (w64 ((a1.length : Int) - a0.fAt))))), .val (.bool (decide (a0.fN ≤ (w64 ((a1.length : Int) - a0.fAt))))), .val (.bool (decide (a0.fN ≤ (w64 ((a1.length : Int) - a0.fAt)))))] [0, 1, 3, 4, 5, 6, 7, 8, 9, 10, 11, 12, 13, 14, 15, 16, 17, 18, 19, 20, 21, 22, 23, 24, 25, 26, 27, 28, 29, 30, 31, 32, 33, 34, 35] (by decide +kernel) rfl ?_ rfl ?_
 rotate_left
 · obtain rfl := Option.some.inj ht1
   exact ⟨_, Gst.only [4] rfl, rfl⟩
 refine OpsQ.yes (Want.plain rfl) rfl (OpR.pure rfl) ?_
 refine OpsQ.yes (Want.plain rfl) rfl (OpR.pure rfl) ?_
 refine OpsQ.yes (Want.plain rfl) rfl (OpR.pure rfl) ?_
 refine OpsQ.yes (Want.plain rfl) rfl (OpR.pure rfl) ?_
 refine OpsQ.yes (Want.bool rfl rfl rfl rfl (by rw [(decide_eq_true c3)]; rfl)) rfl (OpR.pure rfl) ?_
 refine OpsQ.yes (Want.bool rfl rfl rfl rfl (by rw [(decide_eq_true c3)]; rfl)) rfl (OpR.pure rfl) ?_
 refine OpsQ.yes (Want.bool rfl rfl rfl rfl (by rw [(decide_eq_true c3)]; rfl)) rfl (OpR.pure rfl) ?_
 refine OpsQ.yes (Want.plain rfl) rfl (OpR.pickT rfl (decide_eq_true c3) rfl) ?_
 refine OpsQ.yes (Want.plain rfl) rfl (OpR.pure rfl) ?_
 refine OpsQ.yes (Want.bool rfl rfl rfl rfl (by rw [(decide_eq_true c4)]; rfl)) rfl (OpR.pure rfl) ?_
 refine OpsQ.yes (Want.bool rfl rfl rfl rfl (by rw [(decide_eq_true c4)]; rfl)) rfl (OpR.pure rfl) ?_
 refine OpsQ.yes (Want.bool rfl rfl rfl rfl (by rw [(decide_eq_true c4)]; rfl)) rfl (OpR.pure rfl) ?_
 refine OpsQ.yes (Want.bool rfl rfl rfl rfl (by rw [(decide_eq_true c4)]; rfl)) rfl (OpR.pure rfl) ?_
 refine OpsQ.yes (Want.bool rfl rfl rfl rfl (by rw [(decide_eq_true c4)]; rfl)) rfl (OpR.pure rfl) ?_
 refine OpsQ.yes (Want.bool rfl rfl rfl rfl (by rw [(decide_eq_true c4)]; rfl)) rfl (OpR.loadPtr 0 rfl rfl rfl rfl) ?_
 refine OpsQ.yes (Want.bool rfl rfl rfl rfl (by rw [(decide_eq_true c4)]; rfl)) rfl (OpR.cast (OpR.pure rfl) (intE (lenS _))) ?_
 refine OpsQ.yes (Want.bool rfl rfl rfl rfl (by rw [(decide_eq_true c4)]; rfl)) rfl (OpR.pure rfl) ?_
 refine OpsQ.yes (Want.plain rfl) rfl (OpR.pickT rfl (decide_eq_true c4) rfl) ?_
 refine OpsQ.yes (Want.plain rfl) rfl (OpR.pure rfl) ?_
 refine OpsQ.yes (Want.bool rfl rfl rfl rfl (by rw [(decide_eq_true c5)]; rfl)) rfl (OpR.pure rfl) ?_
 refine OpsQ.yes (Want.bool rfl rfl rfl rfl (by rw [(decide_eq_true c5)]; rfl)) rfl (OpR.pure rfl) ?_
 refine OpsQ.yes (Want.bool rfl rfl rfl rfl (by rw [(decide_eq_true c5)]; rfl)) rfl (OpR.pure rfl) ?_
 refine OpsQ.yes (Want.bool rfl rfl rfl rfl (by rw [(decide_eq_true c5)]; rfl)) rfl (OpR.pure rfl) ?_
 refine OpsQ.yes (Want.bool rfl rfl rfl rfl (by rw [(decide_eq_true c5)]; rfl)) rfl (OpR.pure rfl) ?_
 refine OpsQ.yes (Want.bool rfl rfl rfl rfl (by rw [(decide_eq_true c5)]; rfl)) rfl (OpR.loadPtr 0 rfl rfl rfl rfl) ?_
 refine OpsQ.yes (Want.bool rfl rfl rfl rfl (by rw [(decide_eq_true c5)]; rfl)) rfl (OpR.cast (OpR.pure rfl) (intE (lenS _))) ?_
 refine OpsQ.yes (Want.bool rfl rfl rfl rfl (by rw [(decide_eq_true c5)]; rfl)) rfl (OpR.pure rfl) ?_
 refine OpsQ.yes (Want.bool rfl rfl rfl rfl (by rw [(decide_eq_true c5)]; rfl)) rfl (OpR.pure rfl) ?_
 refine OpsQ.yes (Want.bool rfl rfl rfl rfl (by rw [(decide_eq_true c5)]; rfl)) rfl (OpR.pure rfl) ?_
 refine OpsQ.yes (Want.bool rfl rfl rfl rfl (by rw [(decide_eq_true c5)]; rfl)) rfl (OpR.pure rfl) ?_
 refine OpsQ.yes (Want.plain rfl) rfl (OpR.pickT rfl (decide_eq_true c5) rfl) ?_
 refine OpsQ.yes (Want.plain rfl) rfl (OpR.pure rfl) ?_
 exact OpsQ.nil
noncomputable def ref03_Arena_Bytes (a0 : ref03_Span) (a1 : List UInt8) : Option (List UInt8) :=
  bnd (ref03_Arena_Right a0 a1) fun x1 =>
  if x1 = true then
    bnd (cut a1 a0.fAt (w64 (a0.fAt + a0.fN))) fun x4 =>
    some x4
  else
    some []
set_option maxHeartbeats 4000000 in
theorem ref03_Arena_Bytes_c {a0 : ref03_Span} {a1 : List UInt8} {b0 : Nat} {res : (List UInt8)} (h0 : ref03_Arena_Bytes a0 a1 = some res) : CallF X 25 [.val (.pointer (some ⟨b0, 0, none⟩)), .agg [.val (.int .i64 a0.fAt), .val (.int .i64 a0.fN)]] [.var b0 [.val (.string (bs a1))] 58] (fun x => .val (.string (bs res))) (fun x => [.var b0 [.val (.string (bs a1))] 58]) := by
 unfold ref03_Arena_Bytes at h0
 refine CallF.mkG (X := X) Try.func25 rfl rfl Try.ntmps25 rfl rfl ?_
 refine T.seq ?_
 refine T.region ?_
 refine TL.op1 (OpR.boxImm rfl rfl) rfl ?_
 refine TL.op1 (OpR.pure rfl) rfl ?_
 refine TL.nil ?_
 show T X _ _ _
 refine T.seq ?_
 refine T.seq ?_
 refine T.region ?_
 refine TL.op1 (OpR.pure rfl) rfl ?_
 refine TL.op1 (OpR.pure rfl) rfl ?_
 obtain ⟨x1, hx1, h0⟩ := bnd_some h0
 refine TL.op1 (OpR.call [0] fn27 (ref03_Arena_Right_c hx1) rfl rfl rfl (fun _ => rfl)) rfl ?_
 refine TL.op1 (OpR.pure rfl) rfl ?_
 refine TL.nil ?_
 show T X _ _ _
 rcases ite_some h0 with ⟨c2, h0⟩ | ⟨c2, h0⟩
 rotate_left
 · refine T.condT rfl (not_f (eq_false_of_ne_true c2)) ?_
   refine T.seq ?_
   refine T.region ?_
   refine TL.op1 (OpR.pure rfl) rfl ?_
   refine TL.nil ?_
   show T X _ _ _
   refine T.ret ?_
   obtain rfl := Option.some.inj h0
   exact PostG.retP (ks := [0]) (Gst.only [4] rfl) undef (ResL.cons (ResV.tmp rfl) ResL.nil) rfl rfl rfl rfl
 refine T.condF rfl (not_t (c2)) ?_
 refine T.skip ?_
 show T X _ _ _
 refine T.seq ?_
 obtain ⟨x4, hx4, h0⟩ := bnd_some h0
 refine T.drawQ drawsX [.val (.pointer (some ⟨b0, 0, none⟩)), .val (.pointer (some ⟨b0, 0, none⟩)), .val (.pointer (some ⟨b0, 0, none⟩)), .val (.string (bs a1)), .nod [.val (.int .i64 a0.fAt), .val (.int .i64 a0.fN)], .val (.int .i64 a0.fAt), .nod [.val (.int .i64 a0.fAt), .val (.int .i64 a0.fN)], .val (.int .i64 a0.fAt), .nod [.val (.int .i64 a0.fN)], .val (.int .i64 a0.fN), .val (.int .i64 (w64 (a0.fAt + a0.fN))), .val (.string (bs x4)), .val (.string (bs x4))] [0, 1, 3, 4, 5, 6, 7, 8, 9, 10, 11, 12, 13, 14, 15, 16, 17, 18, 19, 20] (by decide +kernel) rfl ?_ rfl ?_
 rotate_left
 · show T X _ _ _
   refine T.ret ?_
   obtain rfl := Option.some.inj h0
   exact PostG.retP (ks := [0]) (Gst.only [4] rfl) undef (ResL.cons (ResV.tmp rfl) ResL.nil) rfl rfl rfl rfl
 refine OpsQ.yes (Want.plain rfl) rfl (OpR.pure rfl) ?_
 refine OpsQ.yes (Want.plain rfl) rfl (OpR.pure rfl) ?_
 refine OpsQ.yes (Want.plain rfl) rfl (OpR.pure rfl) ?_
 refine OpsQ.yes (Want.plain rfl) rfl (OpR.loadPtr 0 rfl rfl rfl rfl) ?_
 refine OpsQ.yes (Want.plain rfl) rfl (OpR.pure rfl) ?_
 refine OpsQ.yes (Want.plain rfl) rfl (OpR.pure rfl) ?_
 refine OpsQ.yes (Want.plain rfl) rfl (OpR.pure rfl) ?_
 refine OpsQ.yes (Want.plain rfl) rfl (OpR.pure rfl) ?_
 refine OpsQ.yes (Want.plain rfl) rfl (OpR.pure rfl) ?_
 refine OpsQ.yes (Want.plain rfl) rfl (OpR.pure rfl) ?_
 refine OpsQ.yes (Want.plain rfl) rfl (OpR.pure rfl) ?_
 refine OpsQ.yes (Want.plain rfl) rfl (OpR.sliceS hx4 rfl rfl rfl (BdM.some rfl) (BdM.some rfl)) ?_
 refine OpsQ.yes (Want.plain rfl) rfl (OpR.pure rfl) ?_
 exact OpsQ.nil
noncomputable def law03_put_2 (a0 : List UInt8) (a1 : Bool) (a2 : List UInt8) (a3 : List UInt8) : Option (Bool × (List UInt8) × (List UInt8)) :=
  if a1 = true then
    bnd (arena_Arena_Keep a0 a3) fun x2 =>
    bnd (ref03_Arena_Keep a0 a2) fun x5 =>
    bnd (bnd (law03_ours x2.1) fun x9 =>
    if x9 = x5.1 then
      some (x2.2.1 == x5.2.1)
    else
      some false : Option Bool) fun t7 =>
    some (t7, x5.2.2, x2.2.2)
  else
    bnd (arena_Arena_Add a0 a3) fun x11 =>
    bnd (ref03_Arena_Add a0 a2) fun x14 =>
    bnd (bnd (law03_ours x11.1) fun x18 =>
    if x18 = x14.1 then
      some (x11.2.1 == x14.2.1)
    else
      some false : Option Bool) fun t16 =>
    some (t16, x14.2.2, x11.2.2)
set_option maxHeartbeats 4000000 in
theorem law03_put_2_c {a0 : List UInt8} {a1 : Bool} {a2 : List UInt8} {a3 : List UInt8} {b0 : Nat} {b1 : Nat} {v2 : Value} {res : Bool × (List UInt8) × (List UInt8)} (h0 : law03_put_2 a0 a1 a2 a3 = some res) : CallF X 22 [.val (.pointer (some ⟨b0, 0, none⟩)), .val (.pointer (some ⟨b1, 0, none⟩)), .val (.string (bs a0)), .val (.bool a1)] [.var b0 [.val v2] 85, .var b1 [.val (.string (bs a2))] 58, .row v2 (List.map byteD a3) 1 5] (fun x => .val (.bool res.1)) (fun x => [.var b0 [.val (vn x 0)] 85, .var b1 [.val (.string (bs res.2.1))] 58, .row (vn x 0) (List.map byteD res.2.2) 1 5]) := by
 unfold law03_put_2 at h0
 refine CallF.mkG (X := X) Try.func22 rfl rfl Try.ntmps22 rfl rfl ?_
 refine T.seq ?_
 refine T.region ?_
 refine TL.op1 (OpR.pure rfl) rfl ?_
 refine TL.nil ?_
 show T X _ _ _
 refine T.seq ?_
 refine T.seq ?_
 refine T.region ?_
 refine TL.op1 (OpR.pure rfl) rfl ?_
 refine TL.nil ?_
 show T X _ _ _
 rcases ite_some h0 with ⟨c1, h0⟩ | ⟨c1, h0⟩
 rotate_left
 · refine T.condF rfl (eq_false_of_ne_true c1) ?_
   refine T.skip ?_
   show T X _ _ _
   refine T.seq ?_
   refine T.region ?_
   refine TL.op1 (OpR.pure rfl) rfl ?_
   refine TL.op1 (OpR.pure rfl) rfl ?_
   refine TL.op1 (OpR.toBytesM rfl rfl rfl rfl rfl rfl rfl) rfl ?_
   obtain ⟨x11, hx11, h0⟩ := bnd_some h0
   refine TL.op (OpR.call [0, 2] fn17 (arena_Arena_Add_c hx11) rfl rfl rfl (fun _ => rfl)) rfl (fun w12 => ?_)
   refine TL.op1 (OpR.pure rfl) rfl ?_
   refine TL.op1 (OpR.pure rfl) rfl ?_
   refine TL.op1 (OpR.pure rfl) rfl ?_
   refine TL.op (OpR.alloc rfl rfl (fun _ => rfl)) rfl (fun p13 => ?_)
   refine TL.op0 (OpR.store 3 rfl rfl rfl rfl rfl rfl rfl rfl) ?_
   refine TL.op1 (OpR.pure rfl) rfl ?_
   refine TL.nil ?_
   show T X _ _ _
   refine T.seq ?_
   refine T.region ?_
   refine TL.op1 (OpR.pure rfl) rfl ?_
   refine TL.op1 (OpR.pure rfl) rfl ?_
   obtain ⟨x14, hx14, h0⟩ := bnd_some h0
   refine TL.op1 (OpR.call [1] fn41 (ref03_Arena_Add_c hx14) rfl rfl rfl (fun _ => rfl)) rfl ?_
   refine TL.op1 (OpR.pure rfl) rfl ?_
   refine TL.op1 (OpR.pure rfl) rfl ?_
   refine TL.op1 (OpR.pure rfl) rfl ?_
   refine TL.op (OpR.alloc rfl rfl (fun _ => rfl)) rfl (fun p15 => ?_)
   refine TL.op0 (OpR.store 4 rfl rfl rfl rfl rfl rfl rfl rfl) ?_
   refine TL.op1 (OpR.pure rfl) rfl ?_
   refine TL.nil ?_
   show T X _ _ _
   refine T.seq ?_
   obtain ⟨t16, ht16, h0⟩ := bnd_some h0
   refine T.cutC (fun S' => S' = ⟨[(8, .val (.bool t16))], [.var b0 [.val (vn w12 0)] 85, .var b1 [.val (.string (bs x14.2.2))] 58, .row (vn w12 0) (List.map byteD x11.2.2) 1 5], 62⟩) (fun _ h => h) ?_ ?_
   rotate_left
   · rintro _ rfl
     show T X _ _ _
     refine T.ret ?_
     obtain rfl := Option.some.inj h0
     exact PostG.retP (ks := [0, 1, 2]) (Gst.only [8] rfl) (.tuple #[(vn w12 0)]) (ResL.cons (ResV.tmp rfl) ResL.nil) rfl rfl rfl rfl
   obtain ⟨x18, hx18, ht16⟩ := bnd_some ht16
   rcases ite_some ht16 with ⟨c19, ht16⟩ | ⟨c19, ht16⟩
   rotate_left
   · refine T.drawQ drawsX [.agg [.val (.int .i64 x11.1.fAt), .val (.int .i64 x11.1.fN)], .agg [.val (.int .i64 x18.fAt), .val (.int .i64 x18.fN)], .agg [.val (.int .i64 x14.1.fAt), .val (.int .i64 x14.1.fN)], .val (.bool (x18 == x14.1)), .val (.bool (x18 == x14.1)), .tup [], .tup [], .tup [], .val (.bool false), .val (.bool false)] [0, 1, 2, 3, 8, 13, 14, 15, 16, 17, 40, 41, 42, 43, 44, 45, 46, 47, 48, 49, 50, 51, 52, 53, 54, 55, 56, 57, 58, 59, 60, 61] (by decide +kernel) rfl ?_ rfl ?_
     rotate_left
     · obtain rfl := Option.some.inj ht16
       exact ⟨_, Gst.trans (Gst.only [8] rfl) (Gst.pick [0, 1, 2] rfl rfl), rfl⟩
     refine OpsQ.yes (Want.plain rfl) rfl (OpR.loadPtr 3 rfl rfl rfl rfl) ?_
     refine OpsQ.yes (Want.plain rfl) rfl (OpR.call0 fn28 (law03_ours_c hx18) rfl) ?_
     refine OpsQ.yes (Want.plain rfl) rfl (OpR.loadPtr 4 rfl rfl rfl rfl) ?_
     refine OpsQ.yes (Want.plain rfl) rfl (OpR.cast (OpR.eqStruct rfl rfl rfl rfl rfl (by kernel_rfl) (by kernel_rfl)) (boolE (beq_ref03_Span x18 x14.1))) ?_
     refine OpsQ.yes (Want.plain rfl) rfl (OpR.pure rfl) ?_
     refine OpsQ.no (Want.bool rfl rfl rfl rfl (by rw [(beq_eq_false_iff_ne.2 c19)]; rfl)) rfl ?_
     refine OpsQ.no (Want.bool rfl rfl rfl rfl (by rw [(beq_eq_false_iff_ne.2 c19)]; rfl)) rfl ?_
     refine OpsQ.no (Want.bool rfl rfl rfl rfl (by rw [(beq_eq_false_iff_ne.2 c19)]; rfl)) rfl ?_
     refine OpsQ.yes (Want.plain rfl) rfl (OpR.pickF rfl (beq_eq_false_iff_ne.2 c19) rfl) ?_
     refine OpsQ.yes (Want.plain rfl) rfl (OpR.pure rfl) ?_
     exact OpsQ.nil
   refine T.drawQ drawsX [.agg [.val (.int .i64 x11.1.fAt), .val (.int .i64 x11.1.fN)], .agg [.val (.int .i64 x18.fAt), .val (.int .i64 x18.fN)], .agg [.val (.int .i64 x14.1.fAt), .val (.int .i64 x14.1.fN)], .val (.bool (x18 == x14.1)), .val (.bool (x18 == x14.1)), .val (.int .i64 x11.2.1), .val (.int .i64 x14.2.1), .val (.bool (x11.2.1 == x14.2.1)), .val (.bool (x11.2.1 == x14.2.1)), .val (.bool (x11.2.1 == x14.2.1))] [0, 1, 2, 3, 8, 13, 14, 15, 16, 17, 40, 41, 42, 43, 44, 45, 46, 47, 48, 49, 50, 51, 52, 53, 54, 55, 56, 57, 58, 59, 60, 61] (by decide +kernel) rfl ?_ rfl ?_
   rotate_left
   · obtain rfl := Option.some.inj ht16
     exact ⟨_, Gst.trans (Gst.only [8] rfl) (Gst.pick [0, 1, 2] rfl rfl), rfl⟩
   refine OpsQ.yes (Want.plain rfl) rfl (OpR.loadPtr 3 rfl rfl rfl rfl) ?_
   refine OpsQ.yes (Want.plain rfl) rfl (OpR.call0 fn28 (law03_ours_c hx18) rfl) ?_
   refine OpsQ.yes (Want.plain rfl) rfl (OpR.loadPtr 4 rfl rfl rfl rfl) ?_
   refine OpsQ.yes (Want.plain rfl) rfl (OpR.cast (OpR.eqStruct rfl rfl rfl rfl rfl (by kernel_rfl) (by kernel_rfl)) (boolE (beq_ref03_Span x18 x14.1))) ?_
   refine OpsQ.yes (Want.plain rfl) rfl (OpR.pure rfl) ?_
   refine OpsQ.yes (Want.bool rfl rfl rfl rfl (by rw [(beq_iff_eq.2 c19)]; rfl)) rfl (OpR.pure rfl) ?_
   refine OpsQ.yes (Want.bool rfl rfl rfl rfl (by rw [(beq_iff_eq.2 c19)]; rfl)) rfl (OpR.pure rfl) ?_
   refine OpsQ.yes (Want.bool rfl rfl rfl rfl (by rw [(beq_iff_eq.2 c19)]; rfl)) rfl (OpR.pure rfl) ?_
   refine OpsQ.yes (Want.plain rfl) rfl (OpR.pickT rfl (beq_iff_eq.2 c19) rfl) ?_
   refine OpsQ.yes (Want.plain rfl) rfl (OpR.pure rfl) ?_
   exact OpsQ.nil
 refine T.condT rfl (c1) ?_
 refine T.seq ?_
 refine T.region ?_
 refine TL.op1 (OpR.pure rfl) rfl ?_
 refine TL.op1 (OpR.pure rfl) rfl ?_
 refine TL.op1 (OpR.toBytesM rfl rfl rfl rfl rfl rfl rfl) rfl ?_
 obtain ⟨x2, hx2, h0⟩ := bnd_some h0
 refine TL.op (OpR.call [0, 2] fn29 (arena_Arena_Keep_c hx2) rfl rfl rfl (fun _ => rfl)) rfl (fun w3 => ?_)
 refine TL.op1 (OpR.pure rfl) rfl ?_
 refine TL.op1 (OpR.pure rfl) rfl ?_
 refine TL.op1 (OpR.pure rfl) rfl ?_
 refine TL.op (OpR.alloc rfl rfl (fun _ => rfl)) rfl (fun p4 => ?_)
 refine TL.op0 (OpR.store 3 rfl rfl rfl rfl rfl rfl rfl rfl) ?_
 refine TL.op1 (OpR.pure rfl) rfl ?_
 refine TL.nil ?_
 show T X _ _ _
 refine T.seq ?_
 refine T.region ?_
 refine TL.op1 (OpR.pure rfl) rfl ?_
 refine TL.op1 (OpR.pure rfl) rfl ?_
 obtain ⟨x5, hx5, h0⟩ := bnd_some h0
 refine TL.op1 (OpR.call [1] fn40 (ref03_Arena_Keep_c hx5) rfl rfl rfl (fun _ => rfl)) rfl ?_
 refine TL.op1 (OpR.pure rfl) rfl ?_
 refine TL.op1 (OpR.pure rfl) rfl ?_
 refine TL.op1 (OpR.pure rfl) rfl ?_
 refine TL.op (OpR.alloc rfl rfl (fun _ => rfl)) rfl (fun p6 => ?_)
 refine TL.op0 (OpR.store 4 rfl rfl rfl rfl rfl rfl rfl rfl) ?_
 refine TL.op1 (OpR.pure rfl) rfl ?_
 refine TL.nil ?_
 show T X _ _ _
 refine T.seq ?_
 obtain ⟨t7, ht7, h0⟩ := bnd_some h0
 refine T.cutC (fun S' => S' = ⟨[(8, .val (.bool t7)), (2, .val (.string (bs a0))), (1, .val (.pointer (some ⟨b1, 0, none⟩))), (0, .val (.pointer (some ⟨b0, 0, none⟩)))], [.var b0 [.val (vn w3 0)] 85, .var b1 [.val (.string (bs x5.2.2))] 58, .row (vn w3 0) (List.map byteD x2.2.2) 1 5], 62⟩) (fun _ h => h) ?_ ?_
 rotate_left
 · rintro _ rfl
   show T X _ _ _
   refine T.ret ?_
   obtain rfl := Option.some.inj h0
   exact PostG.retP (ks := [0, 1, 2]) (Gst.only [8] rfl) (.tuple #[(vn w3 0)]) (ResL.cons (ResV.tmp rfl) ResL.nil) rfl rfl rfl rfl
 obtain ⟨x9, hx9, ht7⟩ := bnd_some ht7
 rcases ite_some ht7 with ⟨c10, ht7⟩ | ⟨c10, ht7⟩
 rotate_left
 · refine T.drawQ drawsX [.agg [.val (.int .i64 x2.1.fAt), .val (.int .i64 x2.1.fN)], .agg [.val (.int .i64 x9.fAt), .val (.int .i64 x9.fN)], .agg [.val (.int .i64 x5.1.fAt), .val (.int .i64 x5.1.fN)], .val (.bool (x9 == x5.1)), .val (.bool (x9 == x5.1)), .tup [], .tup [], .tup [], .val (.bool false), .val (.bool false)] [0, 1, 2, 3, 8, 9, 10, 11, 12, 17, 18, 19, 20, 21, 22, 23, 24, 25, 26, 27, 28, 29, 30, 31, 32, 33, 34, 35, 36, 37, 38, 39] (by decide +kernel) rfl ?_ rfl ?_
   rotate_left
   · obtain rfl := Option.some.inj ht7
     exact ⟨_, Gst.trans (Gst.only [0, 1, 2, 8] rfl) (Gst.pick [0, 1, 2] rfl rfl), rfl⟩
   refine OpsQ.yes (Want.plain rfl) rfl (OpR.loadPtr 3 rfl rfl rfl rfl) ?_
   refine OpsQ.yes (Want.plain rfl) rfl (OpR.call0 fn28 (law03_ours_c hx9) rfl) ?_
   refine OpsQ.yes (Want.plain rfl) rfl (OpR.loadPtr 4 rfl rfl rfl rfl) ?_
   refine OpsQ.yes (Want.plain rfl) rfl (OpR.cast (OpR.eqStruct rfl rfl rfl rfl rfl (by kernel_rfl) (by kernel_rfl)) (boolE (beq_ref03_Span x9 x5.1))) ?_
   refine OpsQ.yes (Want.plain rfl) rfl (OpR.pure rfl) ?_
   refine OpsQ.no (Want.bool rfl rfl rfl rfl (by rw [(beq_eq_false_iff_ne.2 c10)]; rfl)) rfl ?_
   refine OpsQ.no (Want.bool rfl rfl rfl rfl (by rw [(beq_eq_false_iff_ne.2 c10)]; rfl)) rfl ?_
   refine OpsQ.no (Want.bool rfl rfl rfl rfl (by rw [(beq_eq_false_iff_ne.2 c10)]; rfl)) rfl ?_
   refine OpsQ.yes (Want.plain rfl) rfl (OpR.pickF rfl (beq_eq_false_iff_ne.2 c10) rfl) ?_
   refine OpsQ.yes (Want.plain rfl) rfl (OpR.pure rfl) ?_
   exact OpsQ.nil
 refine T.drawQ drawsX [.agg [.val (.int .i64 x2.1.fAt), .val (.int .i64 x2.1.fN)], .agg [.val (.int .i64 x9.fAt), .val (.int .i64 x9.fN)], .agg [.val (.int .i64 x5.1.fAt), .val (.int .i64 x5.1.fN)], .val (.bool (x9 == x5.1)), .val (.bool (x9 == x5.1)), .val (.int .i64 x2.2.1), .val (.int .i64 x5.2.1), .val (.bool (x2.2.1 == x5.2.1)), .val (.bool (x2.2.1 == x5.2.1)), .val (.bool (x2.2.1 == x5.2.1))] [0, 1, 2, 3, 8, 9, 10, 11, 12, 17, 18, 19, 20, 21, 22, 23, 24, 25, 26, 27, 28, 29, 30, 31, 32, 33, 34, 35, 36, 37, 38, 39] (by decide +kernel) rfl ?_ rfl ?_
 rotate_left
 · obtain rfl := Option.some.inj ht7
   exact ⟨_, Gst.trans (Gst.only [0, 1, 2, 8] rfl) (Gst.pick [0, 1, 2] rfl rfl), rfl⟩
 refine OpsQ.yes (Want.plain rfl) rfl (OpR.loadPtr 3 rfl rfl rfl rfl) ?_
 refine OpsQ.yes (Want.plain rfl) rfl (OpR.call0 fn28 (law03_ours_c hx9) rfl) ?_
 refine OpsQ.yes (Want.plain rfl) rfl (OpR.loadPtr 4 rfl rfl rfl rfl) ?_
 refine OpsQ.yes (Want.plain rfl) rfl (OpR.cast (OpR.eqStruct rfl rfl rfl rfl rfl (by kernel_rfl) (by kernel_rfl)) (boolE (beq_ref03_Span x9 x5.1))) ?_
 refine OpsQ.yes (Want.plain rfl) rfl (OpR.pure rfl) ?_
 refine OpsQ.yes (Want.bool rfl rfl rfl rfl (by rw [(beq_iff_eq.2 c10)]; rfl)) rfl (OpR.pure rfl) ?_
 refine OpsQ.yes (Want.bool rfl rfl rfl rfl (by rw [(beq_iff_eq.2 c10)]; rfl)) rfl (OpR.pure rfl) ?_
 refine OpsQ.yes (Want.bool rfl rfl rfl rfl (by rw [(beq_iff_eq.2 c10)]; rfl)) rfl (OpR.pure rfl) ?_
 refine OpsQ.yes (Want.plain rfl) rfl (OpR.pickT rfl (beq_iff_eq.2 c10) rfl) ?_
 refine OpsQ.yes (Want.plain rfl) rfl (OpR.pure rfl) ?_
 exact OpsQ.nil
noncomputable def arena_Arena_Byte_2 (a0 : Int) (a1 : List UInt8) : Option (UInt8 × Bool) :=
  bnd (arena_Arena_part (⟨a0, 1⟩ : arena_Span) a1) fun x1 =>
  match x1 with
  | .inl x1 =>
      bnd (cut a1 x1.1 x1.2) fun x2 =>
      if (x2.length : Int) = 0 then
        some (0, false)
      else
        bnd (idx x2 0) fun x4 =>
        some (x4, true)
  | .inr x1 =>
      if (x1.length : Int) = 0 then
        some (0, false)
      else
        bnd (idx x1 0) fun x6 =>
        some (x6, true)
set_option maxHeartbeats 4000000 in
theorem arena_Arena_Byte_2_c {a0 : Int} {a1 : List UInt8} {b0 : Nat} {v1 : Value} {res : UInt8 × Bool} (h0 : arena_Arena_Byte_2 a0 a1 = some res) : CallF X 24 [.val (.pointer (some ⟨b0, 0, none⟩)), .val (.int .i64 a0)] [.var b0 [.val v1] 85, .row v1 (List.map byteD a1) 1 5] (fun x => .tup [.val (.int .u8 (res.1.toNat : Int)), .val (.bool res.2)]) (fun x => [.var b0 [.val v1] 85, .row v1 (List.map byteD a1) 1 5]) := by
 unfold arena_Arena_Byte_2 at h0
 refine CallF.mkG (X := X) Try.func24 rfl rfl Try.ntmps24 rfl rfl ?_
 refine T.seq ?_
 refine T.region ?_
 refine TL.op1 (OpR.pure rfl) rfl ?_
 refine TL.op1 (OpR.pure rfl) rfl ?_
 refine TL.nil ?_
 show T X _ _ _
 refine T.seq ?_
 refine T.region ?_
 refine TL.op1 (OpR.pure rfl) rfl ?_
 refine TL.op1 (OpR.pure rfl) rfl ?_
 refine TL.op1 (OpR.build rfl rfl rfl rfl rfl) rfl ?_
 obtain ⟨x1, hx1, h0⟩ := bnd_some h0
 rcases x1 with x1 | x1
 rotate_left
 · dsimp only at h0
   refine TL.op1 (OpR.call [0, 1] fn39 (arena_Arena_part_cx2 hx1) rfl rfl rfl (fun _ => rfl)) rfl ?_
   refine TL.op1 (OpR.pure rfl) rfl ?_
   refine TL.nil ?_
   show T X _ _ _
   refine T.seq ?_
   refine T.seq ?_
   refine T.region ?_
   refine TL.op1 (OpR.pure rfl) rfl ?_
   refine TL.op1 (OpR.cast (OpR.pure rfl) (intE (lenM _ _))) rfl ?_
   refine TL.op1 (OpR.pure rfl) rfl ?_
   refine TL.nil ?_
   show T X _ _ _
   rcases ite_some h0 with ⟨c5, h0⟩ | ⟨c5, h0⟩
   · refine T.condT rfl (beq_iff_eq.2 c5) ?_
     refine T.seq ?_
     refine T.region ?_
     refine TL.op1 (OpR.pure rfl) rfl ?_
     refine TL.op1 (OpR.pure rfl) rfl ?_
     refine TL.nil ?_
     show T X _ _ _
     refine T.ret ?_
     obtain rfl := Option.some.inj h0
     exact PostG.retP (ks := [0, 1]) (Gst.only [4, 5] rfl) undef (ResL.cons (ResV.tmp rfl) (ResL.cons (ResV.tmp rfl) ResL.nil)) rfl rfl rfl rfl
   refine T.condF rfl (beq_eq_false_iff_ne.2 c5) ?_
   refine T.skip ?_
   show T X _ _ _
   refine T.seq ?_
   refine T.region ?_
   refine TL.op1 (OpR.pure rfl) rfl ?_
   obtain ⟨x6, hx6, h0⟩ := bnd_some h0
   refine TL.op1 (OpR.indexM byteD hx6 rfl rfl rfl rfl rfl) rfl ?_
   refine TL.op1 (OpR.pure rfl) rfl ?_
   refine TL.op1 (OpR.pure rfl) rfl ?_
   refine TL.op1 (OpR.pure rfl) rfl ?_
   refine TL.nil ?_
   show T X _ _ _
   refine T.ret ?_
   obtain rfl := Option.some.inj h0
   exact PostG.retP (ks := [0, 1]) (Gst.only [4, 5] rfl) undef (ResL.cons (ResV.tmp rfl) (ResL.cons (ResV.tmp rfl) ResL.nil)) rfl rfl rfl rfl
 dsimp only at h0
 refine TL.op1 (OpR.call [0, 1] fn39 (arena_Arena_part_cx1 hx1) rfl rfl rfl (fun _ => rfl)) rfl ?_
 refine TL.op1 (OpR.pure rfl) rfl ?_
 refine TL.nil ?_
 show T X _ _ _
 refine T.seq ?_
 refine T.seq ?_
 refine T.region ?_
 refine TL.op1 (OpR.pure rfl) rfl ?_
 obtain ⟨x2, hx2, h0⟩ := bnd_some h0
 refine TL.op1 (OpR.lenF byteD (Src.viewM byteD 1 hx2 rfl rfl) rfl rfl) rfl ?_
 refine TL.op1 (OpR.pure rfl) rfl ?_
 refine TL.nil ?_
 show T X _ _ _
 rcases ite_some h0 with ⟨c3, h0⟩ | ⟨c3, h0⟩
 · refine T.condT rfl (beq_iff_eq.2 c3) ?_
   refine T.seq ?_
   refine T.region ?_
   refine TL.op1 (OpR.pure rfl) rfl ?_
   refine TL.op1 (OpR.pure rfl) rfl ?_
   refine TL.nil ?_
   show T X _ _ _
   refine T.ret ?_
   obtain rfl := Option.some.inj h0
   exact PostG.retP (ks := [0, 1]) (Gst.only [4, 5] rfl) undef (ResL.cons (ResV.tmp rfl) (ResL.cons (ResV.tmp rfl) ResL.nil)) rfl rfl rfl rfl
 refine T.condF rfl (beq_eq_false_iff_ne.2 c3) ?_
 refine T.skip ?_
 show T X _ _ _
 refine T.seq ?_
 refine T.region ?_
 refine TL.op1 (OpR.pure rfl) rfl ?_
 obtain ⟨x4, hx4, h0⟩ := bnd_some h0
 refine TL.op1 (OpR.viewIndexM (lo := x1.1) (hi := x1.2) (j := 0) byteD 1 hx2 hx4 rfl rfl rfl rfl rfl rfl rfl) rfl ?_
 refine TL.op1 (OpR.rowLoad0M (j := x1.1 + 0) byteD 1 (idx_cut hx2 hx4) rfl rfl rfl rfl) rfl ?_
 refine TL.op1 (OpR.pure rfl) rfl ?_
 refine TL.op1 (OpR.pure rfl) rfl ?_
 refine TL.nil ?_
 show T X _ _ _
 refine T.ret ?_
 obtain rfl := Option.some.inj h0
 exact PostG.retP (ks := [0, 1]) (Gst.only [4, 5] rfl) undef (ResL.cons (ResV.tmp rfl) (ResL.cons (ResV.tmp rfl) ResL.nil)) rfl rfl rfl rfl
end Go.Proofs.Ytlginjmkmfodmaa.S
