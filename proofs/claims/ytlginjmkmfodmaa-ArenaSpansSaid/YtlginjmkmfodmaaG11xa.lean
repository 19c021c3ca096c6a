/- Printed by a program of this session's own (gen.py): Lean functions for Go functions, and the proofs that the Go code comes to their answers. -/
import Derived.Test.YtlginjmkmfodmaaG5xa
import Derived.Test.YtlginjmkmfodmaaG9xa
set_option linter.unusedVariables false
set_option linter.unusedSimpArgs false
namespace Go.Proofs.Ytlginjmkmfodmaa.S
open Go Go.Sm
attribute [local irreducible] T TL OpR CallT iter loop
noncomputable def arena_Join (a0 : arena_Span) (a1 : arena_Span) : Option (arena_Span × Bool) :=
  bnd (if a0.fN < 0 then
    some true
  else
    if a1.fN < 0 then
      some true
    else
      some (!(a1 == (⟨w64 (a0.fAt + a0.fN), a1.fN⟩ : arena_Span))) : Option Bool) fun t2 =>
  if t2 = true then
    some ((⟨0, 0⟩ : arena_Span), false)
  else
    some ((⟨a0.fAt, w64 (a0.fN + a1.fN)⟩ : arena_Span), true)
set_option maxHeartbeats 4000000 in
theorem arena_Join_c {a0 : arena_Span} {a1 : arena_Span} {res : arena_Span × Bool} (h0 : arena_Join a0 a1 = some res) : CallF X 30 [.agg [.val (.int .i64 a0.fAt), .val (.int .i64 a0.fN)], .agg [.val (.int .i64 a1.fAt), .val (.int .i64 a1.fN)]] [] (fun x => .tup [.agg [.val (.int .i64 res.1.fAt), .val (.int .i64 res.1.fN)], .val (.bool res.2)]) (fun x => []) := by
 unfold arena_Join at h0
 refine CallF.mkG (X := X) Try.func30 rfl rfl Try.ntmps30 rfl rfl ?_
 refine T.seq ?_
 refine T.region ?_
 refine TL.op1 (OpR.boxImm rfl rfl) rfl ?_
 refine TL.op1 (OpR.boxImm rfl rfl) rfl ?_
 refine TL.op (OpR.alloc rfl rfl (fun _ => rfl)) rfl (fun p1 => ?_)
 refine TL.op1 (OpR.pure rfl) rfl ?_
 refine TL.nil ?_
 show T X _ _ _
 refine T.seq ?_
 refine T.seq ?_
 obtain ⟨t2, ht2, h0⟩ := bnd_some h0
 refine T.cutC (fun S' => S' = ⟨[(25, .val (.bool t2)), (5, .val (.bool false)), (4, .val (.pointer (some ⟨(blk p1), 0, none⟩))), (3, .nod [.val (.int .i64 a1.fAt), .val (.int .i64 a1.fN)]), (2, .nod [.val (.int .i64 a0.fAt), .val (.int .i64 a0.fN)])], [.var (blk p1) [.val (.int .i64 0), .val (.int .i64 0)] 44], 35⟩) (fun _ h => h) ?_ ?_
 rotate_left
 · rintro _ rfl
   show T X _ _ _
   rcases ite_some h0 with ⟨c5, h0⟩ | ⟨c5, h0⟩
   · refine T.condT rfl (c5) ?_
     refine T.seq ?_
     refine T.region ?_
     refine TL.op1 (OpR.build rfl rfl rfl rfl rfl) rfl ?_
     refine TL.op0 (OpR.store 0 rfl rfl rfl rfl rfl rfl rfl rfl) ?_
     refine TL.op1 (OpR.pure rfl) rfl ?_
     refine TL.nil ?_
     show T X _ _ _
     refine T.ret ?_
     obtain rfl := Option.some.inj h0
     exact PostG.retP (ks := []) (Gst.only [4, 5] rfl) undef (ResL.cons (ResV.var 0 rfl rfl rfl rfl) (ResL.cons (ResV.tmp rfl) ResL.nil)) rfl rfl rfl rfl
   refine T.condF rfl (eq_false_of_ne_true c5) ?_
   refine T.skip ?_
   show T X _ _ _
   refine T.seq ?_
   refine T.region ?_
   refine TL.op1 (OpR.pure rfl) rfl ?_
   refine TL.op1 (OpR.pure rfl) rfl ?_
   refine TL.op1 (OpR.pure rfl) rfl ?_
   refine TL.op1 (OpR.pure rfl) rfl ?_
   refine TL.op1 (OpR.pure rfl) rfl ?_
   refine TL.op1 (OpR.pure rfl) rfl ?_
   refine TL.op1 (OpR.pure rfl) rfl ?_
   refine TL.op1 (OpR.build rfl rfl rfl rfl rfl) rfl ?_
   refine TL.op0 (OpR.store 0 rfl rfl rfl rfl rfl rfl rfl rfl) ?_
   refine TL.op1 (OpR.pure rfl) rfl ?_
   refine TL.nil ?_
   show T X _ _ _
   refine T.ret ?_
   obtain rfl := Option.some.inj h0
   exact PostG.retP (ks := []) (Gst.only [4, 5] rfl) undef (ResL.cons (ResV.var 0 rfl rfl rfl rfl) (ResL.cons (ResV.tmp rfl) ResL.nil)) rfl rfl rfl rfl
 refine T.region ?_
 refine TL.op1 (OpR.pure rfl) rfl ?_
 refine TL.op1 (OpR.pure rfl) rfl ?_
 refine TL.op1 (OpR.pure rfl) rfl ?_
 refine TL.op1 (OpR.pure rfl) rfl ?_
 rcases ite_some ht2 with ⟨c3, ht2⟩ | ⟨c3, ht2⟩
 · refine TL.off rfl rfl rfl rfl (decide_eq_true c3) rfl rfl ?_
   refine TL.off rfl rfl rfl rfl (decide_eq_true c3) rfl rfl ?_
   refine TL.off rfl rfl rfl rfl (decide_eq_true c3) rfl rfl ?_
   refine TL.op1 (OpR.pickT rfl (decide_eq_true c3) rfl) rfl ?_
   refine TL.op1 (OpR.pure rfl) rfl ?_
   refine TL.off rfl rfl rfl rfl rfl rfl rfl ?_
   refine TL.off rfl rfl rfl rfl rfl rfl rfl ?_
   refine TL.off rfl rfl rfl rfl rfl rfl rfl ?_
   refine TL.off rfl rfl rfl rfl rfl rfl rfl ?_
   refine TL.off rfl rfl rfl rfl rfl rfl rfl ?_
   refine TL.off rfl rfl rfl rfl rfl rfl rfl ?_
   refine TL.off rfl rfl rfl rfl rfl rfl rfl ?_
   refine TL.off rfl rfl rfl rfl rfl rfl rfl ?_
   refine TL.off rfl rfl rfl rfl rfl rfl rfl ?_
   refine TL.off rfl rfl rfl rfl rfl rfl rfl ?_
   refine TL.op1 (OpR.pickT rfl rfl rfl) rfl ?_
   refine TL.nil ?_
   obtain rfl := Option.some.inj ht2
   exact ⟨_, Gst.only [2, 3, 4, 5, 25] rfl, rfl⟩
 refine TL.on rfl rfl rfl rfl (decide_eq_false c3) ?_
 refine TL.op1 (OpR.pure rfl) rfl ?_
 refine TL.on rfl rfl rfl rfl (decide_eq_false c3) ?_
 refine TL.op1 (OpR.pure rfl) rfl ?_
 refine TL.on rfl rfl rfl rfl (decide_eq_false c3) ?_
 refine TL.op1 (OpR.pure rfl) rfl ?_
 refine TL.op1 (OpR.pickF rfl (decide_eq_false c3) rfl) rfl ?_
 refine TL.op1 (OpR.pure rfl) rfl ?_
 rcases ite_some ht2 with ⟨c4, ht2⟩ | ⟨c4, ht2⟩
 · refine TL.off rfl rfl rfl rfl (decide_eq_true c4) rfl rfl ?_
   refine TL.off rfl rfl rfl rfl (decide_eq_true c4) rfl rfl ?_
   refine TL.off rfl rfl rfl rfl (decide_eq_true c4) rfl rfl ?_
   refine TL.off rfl rfl rfl rfl (decide_eq_true c4) rfl rfl ?_
   refine TL.off rfl rfl rfl rfl (decide_eq_true c4) rfl rfl ?_
   refine TL.off rfl rfl rfl rfl (decide_eq_true c4) rfl rfl ?_
   refine TL.off rfl rfl rfl rfl (decide_eq_true c4) rfl rfl ?_
   refine TL.off rfl rfl rfl rfl (decide_eq_true c4) rfl rfl ?_
   refine TL.off rfl rfl rfl rfl (decide_eq_true c4) rfl rfl ?_
   refine TL.off rfl rfl rfl rfl (decide_eq_true c4) rfl rfl ?_
   refine TL.op1 (OpR.pickT rfl (decide_eq_true c4) rfl) rfl ?_
   refine TL.nil ?_
   obtain rfl := Option.some.inj ht2
   exact ⟨_, Gst.only [2, 3, 4, 5, 25] rfl, rfl⟩
 refine TL.on rfl rfl rfl rfl (decide_eq_false c4) ?_
 refine TL.op1 (OpR.pure rfl) rfl ?_
 refine TL.on rfl rfl rfl rfl (decide_eq_false c4) ?_
 refine TL.op1 (OpR.pure rfl) rfl ?_
 refine TL.on rfl rfl rfl rfl (decide_eq_false c4) ?_
 refine TL.op1 (OpR.pure rfl) rfl ?_
 refine TL.on rfl rfl rfl rfl (decide_eq_false c4) ?_
 refine TL.op1 (OpR.pure rfl) rfl ?_
 refine TL.on rfl rfl rfl rfl (decide_eq_false c4) ?_
 refine TL.op1 (OpR.pure rfl) rfl ?_
 refine TL.on rfl rfl rfl rfl (decide_eq_false c4) ?_
 refine TL.op1 (OpR.pure rfl) rfl ?_
 refine TL.on rfl rfl rfl rfl (decide_eq_false c4) ?_
 refine TL.op1 (OpR.pure rfl) rfl ?_
 refine TL.on rfl rfl rfl rfl (decide_eq_false c4) ?_
 refine TL.op1 (OpR.pure rfl) rfl ?_
 refine TL.on rfl rfl rfl rfl (decide_eq_false c4) ?_
 refine TL.op1 (OpR.build rfl rfl rfl rfl rfl) rfl ?_
 refine TL.on rfl rfl rfl rfl (decide_eq_false c4) ?_
 refine TL.op1 (OpR.cast (OpR.neStruct rfl rfl rfl rfl rfl (by kernel_rfl) (by kernel_rfl)) (boolE (congrArg (fun b => !b) (beq_arena_Span a1 (⟨w64 (a0.fAt + a0.fN), a1.fN⟩ : arena_Span))))) rfl ?_
 refine TL.op1 (OpR.pickF rfl (decide_eq_false c4) rfl) rfl ?_
 refine TL.nil ?_
 obtain rfl := Option.some.inj ht2
 exact ⟨_, Gst.only [2, 3, 4, 5, 25] rfl, rfl⟩
noncomputable def ref03_Join (a0 : ref03_Span) (a1 : ref03_Span) : Option (ref03_Span × Bool) :=
  bnd (if a0.fN < 0 then
    some true
  else
    if a1.fN < 0 then
      some true
    else
      some (!(a1.fAt == (w64 (a0.fAt + a0.fN)))) : Option Bool) fun t2 =>
  if t2 = true then
    some ((⟨0, 0⟩ : ref03_Span), false)
  else
    some ((⟨a0.fAt, w64 (a0.fN + a1.fN)⟩ : ref03_Span), true)
set_option maxHeartbeats 4000000 in
theorem ref03_Join_c {a0 : ref03_Span} {a1 : ref03_Span} {res : ref03_Span × Bool} (h0 : ref03_Join a0 a1 = some res) : CallF X 31 [.agg [.val (.int .i64 a0.fAt), .val (.int .i64 a0.fN)], .agg [.val (.int .i64 a1.fAt), .val (.int .i64 a1.fN)]] [] (fun x => .tup [.agg [.val (.int .i64 res.1.fAt), .val (.int .i64 res.1.fN)], .val (.bool res.2)]) (fun x => []) := by
 unfold ref03_Join at h0
 refine CallF.mkG (X := X) Try.func31 rfl rfl Try.ntmps31 rfl rfl ?_
 refine T.seq ?_
 refine T.region ?_
 refine TL.op1 (OpR.boxImm rfl rfl) rfl ?_
 refine TL.op1 (OpR.boxImm rfl rfl) rfl ?_
 refine TL.op (OpR.alloc rfl rfl (fun _ => rfl)) rfl (fun p1 => ?_)
 refine TL.op1 (OpR.pure rfl) rfl ?_
 refine TL.nil ?_
 show T X _ _ _
 refine T.seq ?_
 refine T.seq ?_
 obtain ⟨t2, ht2, h0⟩ := bnd_some h0
 refine T.cutC (fun S' => S' = ⟨[(23, .val (.bool t2)), (5, .val (.bool false)), (4, .val (.pointer (some ⟨(blk p1), 0, none⟩))), (3, .nod [.val (.int .i64 a1.fAt), .val (.int .i64 a1.fN)]), (2, .nod [.val (.int .i64 a0.fAt), .val (.int .i64 a0.fN)])], [.var (blk p1) [.val (.int .i64 0), .val (.int .i64 0)] 62], 33⟩) (fun _ h => h) ?_ ?_
 rotate_left
 · rintro _ rfl
   show T X _ _ _
   rcases ite_some h0 with ⟨c5, h0⟩ | ⟨c5, h0⟩
   · refine T.condT rfl (c5) ?_
     refine T.seq ?_
     refine T.region ?_
     refine TL.op1 (OpR.build rfl rfl rfl rfl rfl) rfl ?_
     refine TL.op0 (OpR.store 0 rfl rfl rfl rfl rfl rfl rfl rfl) ?_
     refine TL.op1 (OpR.pure rfl) rfl ?_
     refine TL.nil ?_
     show T X _ _ _
     refine T.ret ?_
     obtain rfl := Option.some.inj h0
     exact PostG.retP (ks := []) (Gst.only [4, 5] rfl) undef (ResL.cons (ResV.var 0 rfl rfl rfl rfl) (ResL.cons (ResV.tmp rfl) ResL.nil)) rfl rfl rfl rfl
   refine T.condF rfl (eq_false_of_ne_true c5) ?_
   refine T.skip ?_
   show T X _ _ _
   refine T.seq ?_
   refine T.region ?_
   refine TL.op1 (OpR.pure rfl) rfl ?_
   refine TL.op1 (OpR.pure rfl) rfl ?_
   refine TL.op1 (OpR.pure rfl) rfl ?_
   refine TL.op1 (OpR.pure rfl) rfl ?_
   refine TL.op1 (OpR.pure rfl) rfl ?_
   refine TL.op1 (OpR.pure rfl) rfl ?_
   refine TL.op1 (OpR.pure rfl) rfl ?_
   refine TL.op1 (OpR.build rfl rfl rfl rfl rfl) rfl ?_
   refine TL.op0 (OpR.store 0 rfl rfl rfl rfl rfl rfl rfl rfl) ?_
   refine TL.op1 (OpR.pure rfl) rfl ?_
   refine TL.nil ?_
   show T X _ _ _
   refine T.ret ?_
   obtain rfl := Option.some.inj h0
   exact PostG.retP (ks := []) (Gst.only [4, 5] rfl) undef (ResL.cons (ResV.var 0 rfl rfl rfl rfl) (ResL.cons (ResV.tmp rfl) ResL.nil)) rfl rfl rfl rfl
 refine T.region ?_
 refine TL.op1 (OpR.pure rfl) rfl ?_
 refine TL.op1 (OpR.pure rfl) rfl ?_
 refine TL.op1 (OpR.pure rfl) rfl ?_
 refine TL.op1 (OpR.pure rfl) rfl ?_
 rcases ite_some ht2 with ⟨c3, ht2⟩ | ⟨c3, ht2⟩
 · refine TL.off rfl rfl rfl rfl (decide_eq_true c3) rfl rfl ?_
   refine TL.off rfl rfl rfl rfl (decide_eq_true c3) rfl rfl ?_
   refine TL.off rfl rfl rfl rfl (decide_eq_true c3) rfl rfl ?_
   refine TL.op1 (OpR.pickT rfl (decide_eq_true c3) rfl) rfl ?_
   refine TL.op1 (OpR.pure rfl) rfl ?_
   refine TL.off rfl rfl rfl rfl rfl rfl rfl ?_
   refine TL.off rfl rfl rfl rfl rfl rfl rfl ?_
   refine TL.off rfl rfl rfl rfl rfl rfl rfl ?_
   refine TL.off rfl rfl rfl rfl rfl rfl rfl ?_
   refine TL.off rfl rfl rfl rfl rfl rfl rfl ?_
   refine TL.off rfl rfl rfl rfl rfl rfl rfl ?_
   refine TL.off rfl rfl rfl rfl rfl rfl rfl ?_
   refine TL.off rfl rfl rfl rfl rfl rfl rfl ?_
   refine TL.op1 (OpR.pickT rfl rfl rfl) rfl ?_
   refine TL.nil ?_
   obtain rfl := Option.some.inj ht2
   exact ⟨_, Gst.only [2, 3, 4, 5, 23] rfl, rfl⟩
 refine TL.on rfl rfl rfl rfl (decide_eq_false c3) ?_
 refine TL.op1 (OpR.pure rfl) rfl ?_
 refine TL.on rfl rfl rfl rfl (decide_eq_false c3) ?_
 refine TL.op1 (OpR.pure rfl) rfl ?_
 refine TL.on rfl rfl rfl rfl (decide_eq_false c3) ?_
 refine TL.op1 (OpR.pure rfl) rfl ?_
 refine TL.op1 (OpR.pickF rfl (decide_eq_false c3) rfl) rfl ?_
 refine TL.op1 (OpR.pure rfl) rfl ?_
 rcases ite_some ht2 with ⟨c4, ht2⟩ | ⟨c4, ht2⟩
 · refine TL.off rfl rfl rfl rfl (decide_eq_true c4) rfl rfl ?_
   refine TL.off rfl rfl rfl rfl (decide_eq_true c4) rfl rfl ?_
   refine TL.off rfl rfl rfl rfl (decide_eq_true c4) rfl rfl ?_
   refine TL.off rfl rfl rfl rfl (decide_eq_true c4) rfl rfl ?_
   refine TL.off rfl rfl rfl rfl (decide_eq_true c4) rfl rfl ?_
   refine TL.off rfl rfl rfl rfl (decide_eq_true c4) rfl rfl ?_
   refine TL.off rfl rfl rfl rfl (decide_eq_true c4) rfl rfl ?_
   refine TL.off rfl rfl rfl rfl (decide_eq_true c4) rfl rfl ?_
   refine TL.op1 (OpR.pickT rfl (decide_eq_true c4) rfl) rfl ?_
   refine TL.nil ?_
   obtain rfl := Option.some.inj ht2
   exact ⟨_, Gst.only [2, 3, 4, 5, 23] rfl, rfl⟩
 refine TL.on rfl rfl rfl rfl (decide_eq_false c4) ?_
 refine TL.op1 (OpR.pure rfl) rfl ?_
 refine TL.on rfl rfl rfl rfl (decide_eq_false c4) ?_
 refine TL.op1 (OpR.pure rfl) rfl ?_
 refine TL.on rfl rfl rfl rfl (decide_eq_false c4) ?_
 refine TL.op1 (OpR.pure rfl) rfl ?_
 refine TL.on rfl rfl rfl rfl (decide_eq_false c4) ?_
 refine TL.op1 (OpR.pure rfl) rfl ?_
 refine TL.on rfl rfl rfl rfl (decide_eq_false c4) ?_
 refine TL.op1 (OpR.pure rfl) rfl ?_
 refine TL.on rfl rfl rfl rfl (decide_eq_false c4) ?_
 refine TL.op1 (OpR.pure rfl) rfl ?_
 refine TL.on rfl rfl rfl rfl (decide_eq_false c4) ?_
 refine TL.op1 (OpR.pure rfl) rfl ?_
 refine TL.on rfl rfl rfl rfl (decide_eq_false c4) ?_
 refine TL.op1 (OpR.pure rfl) rfl ?_
 refine TL.op1 (OpR.pickF rfl (decide_eq_false c4) rfl) rfl ?_
 refine TL.nil ?_
 obtain rfl := Option.some.inj ht2
 exact ⟨_, Gst.only [2, 3, 4, 5, 23] rfl, rfl⟩
noncomputable def arena_Sub (a0 : arena_Span) (a1 : Int) (a2 : Int) : Option arena_Span :=
  if a0.fN < 0 then
    some (⟨0, 0⟩ : arena_Span)
  else
    bnd (some (if a0.fN < (if 0 > a1 then 0 else a1) then a0.fN else (if 0 > a1 then 0 else a1))) fun x3 =>
    bnd (some (if a0.fN < (if x3 > a2 then x3 else a2) then a0.fN else (if x3 > a2 then x3 else a2))) fun x4 =>
    some (⟨w64 (a0.fAt + x3), w64 (x4 - x3)⟩ : arena_Span)
set_option maxHeartbeats 4000000 in
theorem arena_Sub_c {a0 : arena_Span} {a1 : Int} {a2 : Int} {res : arena_Span} (h0 : arena_Sub a0 a1 a2 = some res) : CallF X 32 [.agg [.val (.int .i64 a0.fAt), .val (.int .i64 a0.fN)], .val (.int .i64 a1), .val (.int .i64 a2)] [] (fun x => .agg [.val (.int .i64 res.fAt), .val (.int .i64 res.fN)]) (fun x => []) := by
 unfold arena_Sub at h0
 refine CallF.mkG (X := X) Try.func32 rfl rfl Try.ntmps32 rfl rfl ?_
 refine T.seq ?_
 refine T.region ?_
 refine TL.op1 (OpR.boxImm rfl rfl) rfl ?_
 refine TL.op (OpR.alloc rfl rfl (fun _ => rfl)) rfl (fun p1 => ?_)
 refine TL.nil ?_
 show T X _ _ _
 refine T.seq ?_
 refine T.seq ?_
 refine T.region ?_
 refine TL.op1 (OpR.pure rfl) rfl ?_
 refine TL.op1 (OpR.pure rfl) rfl ?_
 refine TL.op1 (OpR.pure rfl) rfl ?_
 refine TL.nil ?_
 show T X _ _ _
 rcases ite_some h0 with ⟨c2, h0⟩ | ⟨c2, h0⟩
 · refine T.condT rfl (decide_eq_true c2) ?_
   refine T.seq ?_
   refine T.region ?_
   refine TL.op1 (OpR.build rfl rfl rfl rfl rfl) rfl ?_
   refine TL.op0 (OpR.store 0 rfl rfl rfl rfl rfl rfl rfl rfl) ?_
   refine TL.nil ?_
   show T X _ _ _
   refine T.ret ?_
   obtain rfl := Option.some.inj h0
   exact PostG.retP (ks := []) (Gst.only [6] rfl) undef (ResL.cons (ResV.var 0 rfl rfl rfl rfl) ResL.nil) rfl rfl rfl rfl
 refine T.condF rfl (decide_eq_false c2) ?_
 refine T.skip ?_
 show T X _ _ _
 refine T.seq ?_
 refine T.region ?_
 refine TL.op1 (OpR.pure rfl) rfl ?_
 refine TL.op1 (OpR.pure rfl) rfl ?_
 refine TL.op1 (OpR.pure rfl) rfl ?_
 refine TL.op1 (OpR.pure rfl) rfl ?_
 obtain ⟨x3, hx3, h0⟩ := bnd_some h0
 refine TL.op1 (OpR.cast (OpR.pure rfl) (intE (Option.some.inj hx3))) rfl ?_
 refine TL.op1 (OpR.pure rfl) rfl ?_
 refine TL.nil ?_
 show T X _ _ _
 refine T.seq ?_
 refine T.region ?_
 refine TL.op1 (OpR.pure rfl) rfl ?_
 refine TL.op1 (OpR.pure rfl) rfl ?_
 refine TL.op1 (OpR.pure rfl) rfl ?_
 refine TL.op1 (OpR.pure rfl) rfl ?_
 refine TL.op1 (OpR.pure rfl) rfl ?_
 obtain ⟨x4, hx4, h0⟩ := bnd_some h0
 refine TL.op1 (OpR.cast (OpR.pure rfl) (intE (Option.some.inj hx4))) rfl ?_
 refine TL.op1 (OpR.pure rfl) rfl ?_
 refine TL.nil ?_
 show T X _ _ _
 refine T.seq ?_
 refine T.region ?_
 refine TL.op1 (OpR.pure rfl) rfl ?_
 refine TL.op1 (OpR.pure rfl) rfl ?_
 refine TL.op1 (OpR.pure rfl) rfl ?_
 refine TL.op1 (OpR.pure rfl) rfl ?_
 refine TL.op1 (OpR.pure rfl) rfl ?_
 refine TL.op1 (OpR.pure rfl) rfl ?_
 refine TL.op1 (OpR.pure rfl) rfl ?_
 refine TL.op1 (OpR.build rfl rfl rfl rfl rfl) rfl ?_
 refine TL.op0 (OpR.store 0 rfl rfl rfl rfl rfl rfl rfl rfl) ?_
 refine TL.nil ?_
 show T X _ _ _
 refine T.ret ?_
 obtain rfl := Option.some.inj h0
 exact PostG.retP (ks := []) (Gst.only [6] rfl) undef (ResL.cons (ResV.var 0 rfl rfl rfl rfl) ResL.nil) rfl rfl rfl rfl
noncomputable def ref03_held (a0 : Int) (a1 : Int) (a2 : Int) : Option Int :=
  if a0 < a1 then
    some a1
  else
    if a0 > a2 then
      some a2
    else
      some a0
set_option maxHeartbeats 4000000 in
theorem ref03_held_c {a0 : Int} {a1 : Int} {a2 : Int} {res : Int} (h0 : ref03_held a0 a1 a2 = some res) : CallF X 43 [.val (.int .i64 a0), .val (.int .i64 a1), .val (.int .i64 a2)] [] (fun x => .val (.int .i64 res)) (fun x => []) := by
 unfold ref03_held at h0
 refine CallF.mkG (X := X) Try.func43 rfl rfl Try.ntmps43 rfl rfl ?_
 refine T.seq ?_
 refine T.region ?_
 refine TL.op1 (OpR.pure rfl) rfl ?_
 refine TL.nil ?_
 show T X _ _ _
 refine T.seq ?_
 refine T.seq ?_
 refine T.region ?_
 refine TL.op1 (OpR.pure rfl) rfl ?_
 refine TL.op1 (OpR.pure rfl) rfl ?_
 refine TL.op1 (OpR.pure rfl) rfl ?_
 refine TL.nil ?_
 show T X _ _ _
 rcases ite_some h0 with ⟨c1, h0⟩ | ⟨c1, h0⟩
 · refine T.condT rfl (decide_eq_true c1) ?_
   refine T.seq ?_
   refine T.region ?_
   refine TL.op1 (OpR.pure rfl) rfl ?_
   refine TL.op1 (OpR.pure rfl) rfl ?_
   refine TL.nil ?_
   show T X _ _ _
   refine T.ret ?_
   obtain rfl := Option.some.inj h0
   exact PostG.retP (ks := []) (Gst.only [6] rfl) undef (ResL.cons (ResV.tmp rfl) ResL.nil) rfl rfl rfl rfl
 refine T.condF rfl (decide_eq_false c1) ?_
 refine T.skip ?_
 show T X _ _ _
 refine T.seq ?_
 refine T.seq ?_
 refine T.region ?_
 refine TL.op1 (OpR.pure rfl) rfl ?_
 refine TL.op1 (OpR.pure rfl) rfl ?_
 refine TL.op1 (OpR.pure rfl) rfl ?_
 refine TL.nil ?_
 show T X _ _ _
 rcases ite_some h0 with ⟨c2, h0⟩ | ⟨c2, h0⟩
 · refine T.condT rfl (decide_eq_true c2) ?_
   refine T.seq ?_
   refine T.region ?_
   refine TL.op1 (OpR.pure rfl) rfl ?_
   refine TL.op1 (OpR.pure rfl) rfl ?_
   refine TL.nil ?_
   show T X _ _ _
   refine T.ret ?_
   obtain rfl := Option.some.inj h0
   exact PostG.retP (ks := []) (Gst.only [6] rfl) undef (ResL.cons (ResV.tmp rfl) ResL.nil) rfl rfl rfl rfl
 refine T.condF rfl (decide_eq_false c2) ?_
 refine T.skip ?_
 show T X _ _ _
 refine T.seq ?_
 refine T.region ?_
 refine TL.op1 (OpR.pure rfl) rfl ?_
 refine TL.op1 (OpR.pure rfl) rfl ?_
 refine TL.nil ?_
 show T X _ _ _
 refine T.ret ?_
 obtain rfl := Option.some.inj h0
 exact PostG.retP (ks := []) (Gst.only [6] rfl) undef (ResL.cons (ResV.tmp rfl) ResL.nil) rfl rfl rfl rfl
noncomputable def ref03_Sub (a0 : ref03_Span) (a1 : Int) (a2 : Int) : Option ref03_Span :=
  if a0.fN < 0 then
    some (⟨0, 0⟩ : ref03_Span)
  else
    bnd (ref03_held a1 0 a0.fN) fun x3 =>
    bnd (ref03_held a2 x3 a0.fN) fun x4 =>
    some (⟨w64 (a0.fAt + x3), w64 (x4 - x3)⟩ : ref03_Span)
set_option maxHeartbeats 4000000 in
theorem ref03_Sub_c {a0 : ref03_Span} {a1 : Int} {a2 : Int} {res : ref03_Span} (h0 : ref03_Sub a0 a1 a2 = some res) : CallF X 33 [.agg [.val (.int .i64 a0.fAt), .val (.int .i64 a0.fN)], .val (.int .i64 a1), .val (.int .i64 a2)] [] (fun x => .agg [.val (.int .i64 res.fAt), .val (.int .i64 res.fN)]) (fun x => []) := by
 unfold ref03_Sub at h0
 refine CallF.mkG (X := X) Try.func33 rfl rfl Try.ntmps33 rfl rfl ?_
 refine T.seq ?_
 refine T.region ?_
 refine TL.op1 (OpR.boxImm rfl rfl) rfl ?_
 refine TL.op (OpR.alloc rfl rfl (fun _ => rfl)) rfl (fun p1 => ?_)
 refine TL.nil ?_
 show T X _ _ _
 refine T.seq ?_
 refine T.seq ?_
 refine T.region ?_
 refine TL.op1 (OpR.pure rfl) rfl ?_
 refine TL.op1 (OpR.pure rfl) rfl ?_
 refine TL.op1 (OpR.pure rfl) rfl ?_
 refine TL.nil ?_
 show T X _ _ _
 rcases ite_some h0 with ⟨c2, h0⟩ | ⟨c2, h0⟩
 · refine T.condT rfl (decide_eq_true c2) ?_
   refine T.seq ?_
   refine T.region ?_
   refine TL.op1 (OpR.build rfl rfl rfl rfl rfl) rfl ?_
   refine TL.op0 (OpR.store 0 rfl rfl rfl rfl rfl rfl rfl rfl) ?_
   refine TL.nil ?_
   show T X _ _ _
   refine T.ret ?_
   obtain rfl := Option.some.inj h0
   exact PostG.retP (ks := []) (Gst.only [6] rfl) undef (ResL.cons (ResV.var 0 rfl rfl rfl rfl) ResL.nil) rfl rfl rfl rfl
 refine T.condF rfl (decide_eq_false c2) ?_
 refine T.skip ?_
 show T X _ _ _
 refine T.seq ?_
 refine T.region ?_
 refine TL.op1 (OpR.pure rfl) rfl ?_
 refine TL.op1 (OpR.pure rfl) rfl ?_
 refine TL.op1 (OpR.pure rfl) rfl ?_
 obtain ⟨x3, hx3, h0⟩ := bnd_some h0
 refine TL.op1 (OpR.call0 fn43 (ref03_held_c hx3) rfl) rfl ?_
 refine TL.op1 (OpR.pure rfl) rfl ?_
 refine TL.nil ?_
 show T X _ _ _
 refine T.seq ?_
 refine T.region ?_
 refine TL.op1 (OpR.pure rfl) rfl ?_
 refine TL.op1 (OpR.pure rfl) rfl ?_
 refine TL.op1 (OpR.pure rfl) rfl ?_
 refine TL.op1 (OpR.pure rfl) rfl ?_
 obtain ⟨x4, hx4, h0⟩ := bnd_some h0
 refine TL.op1 (OpR.call0 fn43 (ref03_held_c hx4) rfl) rfl ?_
 refine TL.op1 (OpR.pure rfl) rfl ?_
 refine TL.nil ?_
 show T X _ _ _
 refine T.seq ?_
 refine T.region ?_
 refine TL.op1 (OpR.pure rfl) rfl ?_
 refine TL.op1 (OpR.pure rfl) rfl ?_
 refine TL.op1 (OpR.pure rfl) rfl ?_
 refine TL.op1 (OpR.pure rfl) rfl ?_
 refine TL.op1 (OpR.pure rfl) rfl ?_
 refine TL.op1 (OpR.pure rfl) rfl ?_
 refine TL.op1 (OpR.pure rfl) rfl ?_
 refine TL.op1 (OpR.build rfl rfl rfl rfl rfl) rfl ?_
 refine TL.op0 (OpR.store 0 rfl rfl rfl rfl rfl rfl rfl rfl) ?_
 refine TL.nil ?_
 show T X _ _ _
 refine T.ret ?_
 obtain rfl := Option.some.inj h0
 exact PostG.retP (ks := []) (Gst.only [6] rfl) undef (ResL.cons (ResV.var 0 rfl rfl rfl rfl) ResL.nil) rfl rfl rfl rfl
noncomputable def law03_ArenaSpans.l1 (a0 : arena_Span) (a1 : arena_Span) (s5 : Int) : Option (Lp Int (Ex Unit Bool)) :=
  if s5 < 4 then
    bnd (bnd (idx ([a0.fAt, a0.fN, a1.fAt, a1.fN] : List Int) s5) fun x15 =>
    if x15 < (-1099511627776) then
      some true
    else
      some (decide (x15 > 1099511627776)) : Option Bool) fun t14 =>
    if t14 = true then
      bnd (law03_awake) fun x18 =>
      some (Lp.done (Ex.ret x18))
    else
      some (Lp.next (w64 (s5 + 1)))
  else
    some (Lp.done (Ex.brk ()))
noncomputable def law03_ArenaSpans (a0 : arena_Span) (a1 : arena_Span) (a2 : Int × Int) : Option Bool :=
  bnd (loop (law03_ArenaSpans.l1 a0 a1) 0 : Option (Ex Unit Bool)) fun t3 => match t3 with
    | .brk u4 =>
      bnd (arena_Join a0 a1) fun x19 =>
      bnd (law03_ours a0) fun x22 =>
      bnd (law03_ours a1) fun x23 =>
      bnd (ref03_Join x22 x23) fun x24 =>
      bnd (bnd (arena_Sub a0 a2.1 a2.2) fun x27 =>
      bnd (law03_ours x27) fun x28 =>
      bnd (law03_ours a0) fun x29 =>
      bnd (ref03_Sub x29 a2.1 a2.2) fun x30 =>
      if x28 = x30 then
        bnd (law03_ours x19.1) fun x32 =>
        if x32 = x24.1 then
          if (x19.2 == x24.2) = true then
            bnd (law03_awake) fun x35 =>
            some x35
          else
            some false
        else
          some false
      else
        some false : Option Bool) fun t25 =>
      some t25
    | .ret u4 => some u4
set_option maxHeartbeats 4000000 in
theorem law03_ArenaSpans_c {a0 : arena_Span} {a1 : arena_Span} {a2 : Int × Int} {res : Bool} (h0 : law03_ArenaSpans a0 a1 a2 = some res) : CallF X 8 [.agg [.val (.int .i64 a0.fAt), .val (.int .i64 a0.fN)], .agg [.val (.int .i64 a1.fAt), .val (.int .i64 a1.fN)], .agg [.val (.int .i64 a2.1), .val (.int .i64 a2.2)]] [] (fun x => .val (.bool res)) (fun x => []) := by
 unfold law03_ArenaSpans at h0
 refine CallF.mkG (X := X) Try.func8 rfl rfl Try.ntmps8 rfl rfl ?_
 refine T.seq ?_
 refine T.region ?_
 refine TL.op1 (OpR.boxImm rfl rfl) rfl ?_
 refine TL.op1 (OpR.boxImm rfl rfl) rfl ?_
 refine TL.op1 (OpR.boxImm rfl rfl) rfl ?_
 refine TL.op1 (OpR.pure rfl) rfl ?_
 refine TL.nil ?_
 show T X _ _ _
 refine T.seq ?_
 refine T.drawQ drawsX [.nod [.val (.int .i64 a2.1), .val (.int .i64 a2.2)], .val (.int .i64 a2.1), .nod [.val (.int .i64 a2.2)], .val (.int .i64 a2.2), .val (.int .i64 a2.1), .val (.int .i64 a2.2)] [0, 1, 2, 3, 4, 5, 6, 7, 8, 15, 16, 17, 18] (by decide +kernel) rfl ?_ rfl ?_
 · refine OpsQ.yes (Want.plain rfl) rfl (OpR.indexNod rfl rfl rfl rfl rfl ⟨by decide, by decide⟩ rfl) ?_
   refine OpsQ.yes (Want.plain rfl) rfl (OpR.pure rfl) ?_
   refine OpsQ.yes (Want.plain rfl) rfl (OpR.indexNod rfl rfl rfl rfl rfl ⟨by decide, by decide⟩ rfl) ?_
   refine OpsQ.yes (Want.plain rfl) rfl (OpR.pure rfl) ?_
   refine OpsQ.yes (Want.plain rfl) rfl (OpR.pure rfl) ?_
   refine OpsQ.yes (Want.plain rfl) rfl (OpR.pure rfl) ?_
   exact OpsQ.nil
 show T X _ _ _
 refine T.seq ?_
 refine T.region ?_
 refine TL.op1 (OpR.pure rfl) rfl ?_
 refine TL.op1 (OpR.pure rfl) rfl ?_
 refine TL.op1 (OpR.pure rfl) rfl ?_
 refine TL.op1 (OpR.pure rfl) rfl ?_
 refine TL.op1 (OpR.pure rfl) rfl ?_
 refine TL.op1 (OpR.pure rfl) rfl ?_
 refine TL.op1 (OpR.pure rfl) rfl ?_
 refine TL.op1 (OpR.pure rfl) rfl ?_
 refine TL.op1 (OpR.buildArr rfl rfl rfl rfl rfl rfl) rfl ?_
 refine TL.op (OpR.alloc rfl rfl (fun _ => rfl)) rfl (fun p2 => ?_)
 refine TL.op0 (OpR.store 0 rfl rfl rfl rfl rfl rfl rfl rfl) ?_
 refine TL.nil ?_
 show T X _ _ _
 refine T.seq ?_
 refine T.seq ?_
 refine T.region ?_
 refine TL.op1 (OpR.pure rfl) rfl ?_
 refine TL.nil ?_
 show T X _ _ _
 obtain ⟨t3, ht3, h0⟩ := bnd_some h0
 refine T.cutC (fun S' => ∃ u4, t3 = Ex.brk u4 ∧ S' = ⟨[(8, .val (.int .i64 a2.2)), (7, .val (.int .i64 a2.1)), (6, .val (.bool false)), (4, .nod [.val (.int .i64 a1.fAt), .val (.int .i64 a1.fN)]), (3, .nod [.val (.int .i64 a0.fAt), .val (.int .i64 a0.fN)])], [], 82⟩) (fun _ h => h) ?_ ?_
 · refine T.block ?_
   obtain ⟨n6, n11⟩ := loop_some ht3
   refine T.loop (fun n S' => ∃ S'', Gst S' S'' ∧ ∃ s5 : Int, S'' = ⟨[(10, .val (.int .i64 s5)), (9, .val (.pointer (some ⟨(blk p2), 0, none⟩))), (8, .val (.int .i64 a2.2)), (7, .val (.int .i64 a2.1)), (6, .val (.bool false)), (4, .nod [.val (.int .i64 a1.fAt), .val (.int .i64 a1.fN)]), (3, .nod [.val (.int .i64 a0.fAt), .val (.int .i64 a0.fN)])], [.var (blk p2) [.val (.int .i64 a0.fAt), .val (.int .i64 a0.fN), .val (.int .i64 a1.fAt), .val (.int .i64 a1.fN)] 69], 82⟩ ∧ iter (law03_ArenaSpans.l1 a0 a1) n s5 = some t3) n6 ?_ ?_
   · exact ⟨_, Gst.only [3, 4, 6, 7, 8, 9, 10] rfl, 0, rfl, n11⟩
   rintro n6 _ ⟨_, g, s5, rfl, i10⟩
   refine T.ghost g ?_
   obtain ⟨m7, q8, rfl, q9, i10⟩ := iter_succ i10
   unfold law03_ArenaSpans.l1 at q9
   refine T.seq ?_
   refine T.seq ?_
   refine T.region ?_
   refine TL.op1 (OpR.pure rfl) rfl ?_
   refine TL.op1 (OpR.pure rfl) rfl ?_
   refine TL.nil ?_
   show T X _ _ _
   rcases ite_some q9 with ⟨c13, q9⟩ | ⟨c13, q9⟩
   rotate_left
   · refine T.condF rfl (decide_eq_false c13) ?_
     refine T.exit ?_
     obtain rfl := Option.some.inj q9
     obtain rfl : _ = _ := i10
     exact ⟨_, Gst.trans (Gst.only [3, 4, 6, 7, 8] rfl) (Gst.pick [] rfl rfl), _, rfl, rfl⟩
   refine T.condT rfl (decide_eq_true c13) ?_
   refine T.skip ?_
   show T X _ _ _
   refine T.seq ?_
   refine T.block ?_
   refine T.seq ?_
   obtain ⟨t14, ht14, q9⟩ := bnd_some q9
   refine T.cutC (fun S' => S' = ⟨[(41, .val (.bool t14)), (10, .val (.int .i64 s5)), (9, .val (.pointer (some ⟨(blk p2), 0, none⟩))), (8, .val (.int .i64 a2.2)), (7, .val (.int .i64 a2.1)), (6, .val (.bool false)), (4, .nod [.val (.int .i64 a1.fAt), .val (.int .i64 a1.fN)]), (3, .nod [.val (.int .i64 a0.fAt), .val (.int .i64 a0.fN)])], [.var (blk p2) [.val (.int .i64 a0.fAt), .val (.int .i64 a0.fN), .val (.int .i64 a1.fAt), .val (.int .i64 a1.fN)] 69], 82⟩) (fun _ h => h) ?_ ?_
   rotate_left
   · rintro _ rfl
     show T X _ _ _
     rcases ite_some q9 with ⟨c17, q9⟩ | ⟨c17, q9⟩
     rotate_left
     · refine T.condF rfl (eq_false_of_ne_true c17) ?_
       refine T.skip ?_
       show T X _ _ _
       refine T.region ?_
       refine TL.op1 (OpR.pure rfl) rfl ?_
       refine TL.op1 (OpR.pure rfl) rfl ?_
       refine TL.op1 (OpR.pure rfl) rfl ?_
       refine TL.nil ?_
       obtain rfl := Option.some.inj q9
       exact ⟨m7, Nat.lt_succ_self _, _, Gst.only [3, 4, 6, 7, 8, 9, 10] rfl, w64 (s5 + 1), rfl, i10⟩
     refine T.condT rfl (c17) ?_
     refine T.seq ?_
     refine T.region ?_
     obtain ⟨x18, hx18, q9⟩ := bnd_some q9
     refine TL.op1 (OpR.call0 fn20 (law03_awake_c hx18) rfl) rfl ?_
     refine TL.op1 (OpR.pure rfl) rfl ?_
     refine TL.nil ?_
     show T X _ _ _
     refine T.ret ?_
     obtain rfl := Option.some.inj q9
     obtain rfl : _ = _ := i10
     obtain rfl := Option.some.inj h0
     exact PostG.retP (ks := []) (Gst.trans (Gst.only [6] rfl) (Gst.pick [] rfl rfl)) undef (ResL.cons (ResV.tmp rfl) ResL.nil) rfl rfl rfl rfl
   refine T.region ?_
   refine TL.op1 (OpR.pure rfl) rfl ?_
   obtain ⟨x15, hx15, ht14⟩ := bnd_some ht14
   refine TL.op1 (OpR.indexVarM (l := ([a0.fAt, a0.fN, a1.fAt, a1.fN] : List Int)) hx15 rfl rfl rfl rfl rfl rfl rfl) rfl ?_
   refine TL.op1 (OpR.arrLoadM (off := 0) (sz := 1) (j := s5) (rest := []) (eI .i64) 0 hx15 rfl rfl rfl (fun _ => rfl) rfl rfl) rfl ?_
   refine TL.op1 (OpR.pure rfl) rfl ?_
   refine TL.op1 (OpR.pure rfl) rfl ?_
   rcases ite_some ht14 with ⟨c16, ht14⟩ | ⟨c16, ht14⟩
   · refine TL.off rfl rfl rfl rfl (decide_eq_true c16) rfl rfl ?_
     refine TL.off rfl rfl rfl rfl (decide_eq_true c16) rfl rfl ?_
     refine TL.off rfl rfl rfl rfl (decide_eq_true c16) rfl rfl ?_
     refine TL.off rfl rfl rfl rfl (decide_eq_true c16) rfl rfl ?_
     refine TL.op1 (OpR.pickT rfl (decide_eq_true c16) rfl) rfl ?_
     refine TL.nil ?_
     obtain rfl := Option.some.inj ht14
     exact ⟨_, Gst.only [3, 4, 6, 7, 8, 9, 10, 41] rfl, rfl⟩
   refine TL.on rfl rfl rfl rfl (decide_eq_false c16) ?_
   refine TL.op1 (OpR.pure rfl) rfl ?_
   refine TL.on rfl rfl rfl rfl (decide_eq_false c16) ?_
   refine TL.op1 (OpR.indexVarM (l := ([a0.fAt, a0.fN, a1.fAt, a1.fN] : List Int)) hx15 rfl rfl rfl rfl rfl rfl rfl) rfl ?_
   refine TL.on rfl rfl rfl rfl (decide_eq_false c16) ?_
   refine TL.op1 (OpR.arrLoadM (off := 0) (sz := 1) (j := s5) (rest := []) (eI .i64) 0 hx15 rfl rfl rfl (fun _ => rfl) rfl rfl) rfl ?_
   refine TL.on rfl rfl rfl rfl (decide_eq_false c16) ?_
   refine TL.op1 (OpR.pure rfl) rfl ?_
   refine TL.op1 (OpR.pickF rfl (decide_eq_false c16) rfl) rfl ?_
   refine TL.nil ?_
   obtain rfl := Option.some.inj ht14
   exact ⟨_, Gst.only [3, 4, 6, 7, 8, 9, 10, 41] rfl, rfl⟩
 rintro _ ⟨u4, rfl, rfl⟩
 show T X _ _ _
 refine T.seq ?_
 refine T.region ?_
 refine TL.op1 (OpR.pure rfl) rfl ?_
 refine TL.op1 (OpR.pure rfl) rfl ?_
 obtain ⟨x19, hx19, h0⟩ := bnd_some h0
 refine TL.op1 (OpR.call0 fn30 (arena_Join_c hx19) rfl) rfl ?_
 refine TL.op1 (OpR.pure rfl) rfl ?_
 refine TL.op1 (OpR.pure rfl) rfl ?_
 refine TL.op1 (OpR.pure rfl) rfl ?_
 refine TL.op (OpR.alloc rfl rfl (fun _ => rfl)) rfl (fun p20 => ?_)
 refine TL.op0 (OpR.store 0 rfl rfl rfl rfl rfl rfl rfl rfl) ?_
 refine TL.op1 (OpR.pure rfl) rfl ?_
 refine TL.nil ?_
 show T X _ _ _
 refine T.seq ?_
 obtain ⟨x22, hx22, h0⟩ := bnd_some h0
 obtain ⟨x23, hx23, h0⟩ := bnd_some h0
 obtain ⟨x24, hx24, h0⟩ := bnd_some h0
 refine T.drawS drawsX (fun env21 => [.agg [.val (.int .i64 a0.fAt), .val (.int .i64 a0.fN)], .agg [.val (.int .i64 x22.fAt), .val (.int .i64 x22.fN)], .agg [.val (.int .i64 a1.fAt), .val (.int .i64 a1.fN)], .agg [.val (.int .i64 x23.fAt), .val (.int .i64 x23.fN)], .tup [.agg [.val (.int .i64 x24.1.fAt), .val (.int .i64 x24.1.fN)], .val (.bool x24.2)], .tup [.agg [.val (.int .i64 x24.1.fAt), .val (.int .i64 x24.1.fN)], .val (.bool x24.2)], .agg [.val (.int .i64 x24.1.fAt), .val (.int .i64 x24.1.fN)], .val (.bool x24.2), .val (.pointer (some ⟨(blk (env21 8)), 0, none⟩)), .dead, .val (.bool x24.2)]) (fun D env21 => [.var (blk p20) [.val (.int .i64 x19.1.fAt), .val (.int .i64 x19.1.fN)] 44] ++ bif D 8 then [(bif D 9 then .var (blk (env21 8)) [.val (.int .i64 x24.1.fAt), .val (.int .i64 x24.1.fN)] 62 else .var (blk (env21 8)) [.val (.int .i64 0), .val (.int .i64 0)] 62)] else []) [0, 1, 0, 7, 15, 31, 63, 63, 0, 383, 1023] [3, 4, 6, 7, 8, 11, 12, 13, 14, 43, 44, 45, 46, 47, 48, 49, 50, 51, 52, 53, 54, 55, 56] (fun env21 => [.var (blk p20) [.val (.int .i64 x19.1.fAt), .val (.int .i64 x19.1.fN)] 44, .var (blk (env21 8)) [.val (.int .i64 x24.1.fAt), .val (.int .i64 x24.1.fN)] 62]) (by decide +kernel) (by decide +kernel) (fun _ => rfl) (fun _ => rfl) ?_ (fun _ => rfl) (fun _ => rfl) ?_
 · refine oS (d := .agg [.val (.int .i64 a0.fAt), .val (.int .i64 a0.fN)]) (fun _ => Want.plain rfl) (fun _ => rfl) (fun _ _ _ => rfl) (fun _ _ => OpR.pure rfl) (fun _ _ _ _ _ _ _ => rfl) ?_
   refine oS (d := .agg [.val (.int .i64 x22.fAt), .val (.int .i64 x22.fN)]) (fun _ => Want.plain rfl) (fun _ => rfl) (fun _ _ _ => rfl) (fun _ _ => OpR.call0 fn28 (law03_ours_c hx22) rfl) (fun _ _ _ _ _ _ _ => rfl) ?_
   refine oS (d := .agg [.val (.int .i64 a1.fAt), .val (.int .i64 a1.fN)]) (fun _ => Want.plain rfl) (fun _ => rfl) (fun _ _ _ => rfl) (fun _ _ => OpR.pure rfl) (fun _ _ _ _ _ _ _ => rfl) ?_
   refine oS (d := .agg [.val (.int .i64 x23.fAt), .val (.int .i64 x23.fN)]) (fun _ => Want.plain rfl) (fun _ => rfl) (fun _ _ _ => rfl) (fun _ _ => OpR.call0 fn28 (law03_ours_c hx23) rfl) (fun _ _ _ _ _ _ _ => rfl) ?_
   refine oS (d := .tup [.agg [.val (.int .i64 x24.1.fAt), .val (.int .i64 x24.1.fN)], .val (.bool x24.2)]) (fun _ => Want.plain rfl) (fun _ => rfl) (fun _ _ _ => rfl) (fun _ _ => OpR.call0 fn31 (ref03_Join_c hx24) rfl) (fun _ _ _ _ _ _ _ => rfl) ?_
   refine oS (d := .tup [.agg [.val (.int .i64 x24.1.fAt), .val (.int .i64 x24.1.fN)], .val (.bool x24.2)]) (fun _ => Want.plain rfl) (fun _ => rfl) (fun _ _ _ => rfl) (fun _ _ => OpR.pure rfl) (fun _ _ _ _ _ _ _ => rfl) ?_
   refine oS (d := .agg [.val (.int .i64 x24.1.fAt), .val (.int .i64 x24.1.fN)]) (fun _ => Want.plain rfl) (fun _ => rfl) (fun _ _ _ => rfl) (fun _ _ => OpR.pure rfl) (fun _ _ _ _ _ _ _ => rfl) ?_
   refine oS (d := .val (.bool x24.2)) (fun _ => Want.plain rfl) (fun _ => rfl) (fun _ _ _ => rfl) (fun _ _ => OpR.pure rfl) (fun _ _ _ _ _ _ _ => rfl) ?_
   refine OpsS.cons' true ?_ (fun D hA env21 x j hj hD => match j, hj, hD with | 0, _, _ => rfl | 1, _, _ => rfl | 2, _, _ => rfl | 3, _, _ => rfl | 4, _, _ => rfl | 5, _, _ => rfl | 6, _, _ => rfl | 7, _, _ => rfl | 8, hj, _ => absurd rfl hj | 9, _, _ => rfl | 10, _, _ => rfl | _ + 11, _, _ => rfl) ?_
   · intro D env21 hA
     have e9 : D 9 = false := hA.no 9 _ rfl rfl
     exact OpS.yes (o0 := [.var (blk p20) [.val (.int .i64 x19.1.fAt), .val (.int .i64 x19.1.fN)] 44]) (o1 := fun x => [.var (blk p20) [.val (.int .i64 x19.1.fAt), .val (.int .i64 x19.1.fN)] 44, .var (blk x) [.val (.int .i64 0), .val (.int .i64 0)] 62]) (d := fun x => .val (.pointer (some ⟨(blk x), 0, none⟩))) (Want.plain rfl) (by first | rfl | simp only [e9, hA.me, cond_true, cond_false, List.cons_append, List.nil_append, List.append_nil]) (fun x => by first | rfl | simp only [ins_self, ins_ne D (show 8 ≠ 9 by decide), upd_self, e9, hA.me, cond_true, cond_false, List.cons_append, List.nil_append, List.append_nil]) (fun x => rfl) (OpR.alloc rfl rfl (fun _ => rfl))
   refine OpsS.cons' true ?_ (fun _ _ _ _ _ _ _ => rfl) ?_
   · intro D env21 hA
     have e8 : D 8 = true := hA.yes 8 _ rfl rfl
     exact OpS.yes (o0 := [.var (blk p20) [.val (.int .i64 x19.1.fAt), .val (.int .i64 x19.1.fN)] 44, .var (blk (env21 8)) [.val (.int .i64 0), .val (.int .i64 0)] 62]) (o1 := fun x => [.var (blk p20) [.val (.int .i64 x19.1.fAt), .val (.int .i64 x19.1.fN)] 44, .var (blk (env21 8)) [.val (.int .i64 x24.1.fAt), .val (.int .i64 x24.1.fN)] 62]) (d := fun x => .dead) (Want.plain rfl) (by first | rfl | simp only [e8, hA.me, cond_true, cond_false, List.cons_append, List.nil_append, List.append_nil]) (fun x => by first | rfl | simp only [ins_self, ins_ne D (show 9 ≠ 8 by decide), upd_self, upd_ne env21 x (show 9 ≠ 8 by decide), e8, hA.me, cond_true, cond_false, List.cons_append, List.nil_append, List.append_nil]) (fun x => rfl) (OpR.store 1 rfl rfl rfl rfl rfl rfl rfl rfl)
   refine oS (d := .val (.bool x24.2)) (fun _ => Want.plain rfl) (fun _ => rfl) (fun _ _ _ => rfl) (fun _ _ => OpR.pure rfl) (fun _ _ _ _ _ _ _ => rfl) ?_
   exact trivial
 intro env21
 show T X _ _ _
 refine T.seq ?_
 obtain ⟨t25, ht25, h0⟩ := bnd_some h0
 refine T.cutC (fun S' => S' = ⟨[(6, .val (.bool t25))], [], 82⟩) (fun _ h => h) ?_ ?_
 rotate_left
 · rintro _ rfl
   show T X _ _ _
   refine T.ret ?_
   obtain rfl := Option.some.inj h0
   exact PostG.retP (ks := []) (Gst.only [6] rfl) undef (ResL.cons (ResV.tmp rfl) ResL.nil) rfl rfl rfl rfl
 obtain ⟨x27, hx27, ht25⟩ := bnd_some ht25
 obtain ⟨x28, hx28, ht25⟩ := bnd_some ht25
 obtain ⟨x29, hx29, ht25⟩ := bnd_some ht25
 obtain ⟨x30, hx30, ht25⟩ := bnd_some ht25
 rcases ite_some ht25 with ⟨c31, ht25⟩ | ⟨c31, ht25⟩
 rotate_left
 · refine T.drawQ drawsX [.agg [.val (.int .i64 a0.fAt), .val (.int .i64 a0.fN)], .val (.int .i64 a2.1), .val (.int .i64 a2.2), .agg [.val (.int .i64 x27.fAt), .val (.int .i64 x27.fN)], .agg [.val (.int .i64 x28.fAt), .val (.int .i64 x28.fN)], .agg [.val (.int .i64 a0.fAt), .val (.int .i64 a0.fN)], .agg [.val (.int .i64 x29.fAt), .val (.int .i64 x29.fN)], .val (.int .i64 a2.1), .val (.int .i64 a2.2), .agg [.val (.int .i64 x30.fAt), .val (.int .i64 x30.fN)], .val (.bool (x28 == x30)), .val (.bool (x28 == x30)), .tup [], .tup [], .tup [], .tup [], .val (.bool false), .val (.bool false), .tup [], .tup [], .tup [], .val (.bool false), .val (.bool false), .tup [], .val (.bool false), .val (.bool false)] [3, 4, 6, 7, 8, 11, 12, 13, 14, 43, 44, 45, 46, 47, 48, 49, 50, 51, 52, 53, 54, 55, 56, 57, 58, 59, 60, 61, 62, 63, 64, 65, 66, 67, 68, 69, 70, 71, 72, 73, 74, 75, 76, 77, 78, 79, 80, 81] (by decide +kernel) rfl ?_ rfl ?_
   rotate_left
   · obtain rfl := Option.some.inj ht25
     exact ⟨_, Gst.trans (Gst.only [6] rfl) (Gst.pick [] rfl rfl), rfl⟩
   refine OpsQ.yes (Want.plain rfl) rfl (OpR.pure rfl) ?_
   refine OpsQ.yes (Want.plain rfl) rfl (OpR.pure rfl) ?_
   refine OpsQ.yes (Want.plain rfl) rfl (OpR.pure rfl) ?_
   refine OpsQ.yes (Want.plain rfl) rfl (OpR.call0 fn32 (arena_Sub_c hx27) rfl) ?_
   refine OpsQ.yes (Want.plain rfl) rfl (OpR.call0 fn28 (law03_ours_c hx28) rfl) ?_
   refine OpsQ.yes (Want.plain rfl) rfl (OpR.pure rfl) ?_
   refine OpsQ.yes (Want.plain rfl) rfl (OpR.call0 fn28 (law03_ours_c hx29) rfl) ?_
   refine OpsQ.yes (Want.plain rfl) rfl (OpR.pure rfl) ?_
   refine OpsQ.yes (Want.plain rfl) rfl (OpR.pure rfl) ?_
   refine OpsQ.yes (Want.plain rfl) rfl (OpR.call0 fn33 (ref03_Sub_c hx30) rfl) ?_
   refine OpsQ.yes (Want.plain rfl) rfl (OpR.cast (OpR.eqStruct rfl rfl rfl rfl rfl (by kernel_rfl) (by kernel_rfl)) (boolE (beq_ref03_Span x28 x30))) ?_
   refine OpsQ.yes (Want.plain rfl) rfl (OpR.pure rfl) ?_
   refine OpsQ.no (Want.bool rfl rfl rfl rfl (by rw [(beq_eq_false_iff_ne.2 c31)]; rfl)) rfl ?_
   refine OpsQ.no (Want.bool rfl rfl rfl rfl (by rw [(beq_eq_false_iff_ne.2 c31)]; rfl)) rfl ?_
   refine OpsQ.no (Want.bool rfl rfl rfl rfl (by rw [(beq_eq_false_iff_ne.2 c31)]; rfl)) rfl ?_
   refine OpsQ.no (Want.bool rfl rfl rfl rfl (by rw [(beq_eq_false_iff_ne.2 c31)]; rfl)) rfl ?_
   refine OpsQ.yes (Want.plain rfl) rfl (OpR.pickF rfl (beq_eq_false_iff_ne.2 c31) rfl) ?_
   refine OpsQ.yes (Want.plain rfl) rfl (OpR.pure rfl) ?_
   refine OpsQ.no (Want.bool rfl rfl rfl rfl rfl) rfl ?_
   refine OpsQ.no (Want.bool rfl rfl rfl rfl rfl) rfl ?_
   refine OpsQ.no (Want.bool rfl rfl rfl rfl rfl) rfl ?_
   refine OpsQ.yes (Want.plain rfl) rfl (OpR.pickF rfl rfl rfl) ?_
   refine OpsQ.yes (Want.plain rfl) rfl (OpR.pure rfl) ?_
   refine OpsQ.no (Want.bool rfl rfl rfl rfl rfl) rfl ?_
   refine OpsQ.yes (Want.plain rfl) rfl (OpR.pickF rfl rfl rfl) ?_
   refine OpsQ.yes (Want.plain rfl) rfl (OpR.pure rfl) ?_
   exact OpsQ.nil
 obtain ⟨x32, hx32, ht25⟩ := bnd_some ht25
 rcases ite_some ht25 with ⟨c33, ht25⟩ | ⟨c33, ht25⟩
 rotate_left
 · refine T.drawQ drawsX [.agg [.val (.int .i64 a0.fAt), .val (.int .i64 a0.fN)], .val (.int .i64 a2.1), .val (.int .i64 a2.2), .agg [.val (.int .i64 x27.fAt), .val (.int .i64 x27.fN)], .agg [.val (.int .i64 x28.fAt), .val (.int .i64 x28.fN)], .agg [.val (.int .i64 a0.fAt), .val (.int .i64 a0.fN)], .agg [.val (.int .i64 x29.fAt), .val (.int .i64 x29.fN)], .val (.int .i64 a2.1), .val (.int .i64 a2.2), .agg [.val (.int .i64 x30.fAt), .val (.int .i64 x30.fN)], .val (.bool (x28 == x30)), .val (.bool (x28 == x30)), .agg [.val (.int .i64 x19.1.fAt), .val (.int .i64 x19.1.fN)], .agg [.val (.int .i64 x32.fAt), .val (.int .i64 x32.fN)], .agg [.val (.int .i64 x24.1.fAt), .val (.int .i64 x24.1.fN)], .val (.bool (x32 == x24.1)), .val (.bool (x32 == x24.1)), .val (.bool (x32 == x24.1)), .tup [], .tup [], .tup [], .val (.bool false), .val (.bool false), .tup [], .val (.bool false), .val (.bool false)] [3, 4, 6, 7, 8, 11, 12, 13, 14, 43, 44, 45, 46, 47, 48, 49, 50, 51, 52, 53, 54, 55, 56, 57, 58, 59, 60, 61, 62, 63, 64, 65, 66, 67, 68, 69, 70, 71, 72, 73, 74, 75, 76, 77, 78, 79, 80, 81] (by decide +kernel) rfl ?_ rfl ?_
   rotate_left
   · obtain rfl := Option.some.inj ht25
     exact ⟨_, Gst.trans (Gst.only [6] rfl) (Gst.pick [] rfl rfl), rfl⟩
   refine OpsQ.yes (Want.plain rfl) rfl (OpR.pure rfl) ?_
   refine OpsQ.yes (Want.plain rfl) rfl (OpR.pure rfl) ?_
   refine OpsQ.yes (Want.plain rfl) rfl (OpR.pure rfl) ?_
   refine OpsQ.yes (Want.plain rfl) rfl (OpR.call0 fn32 (arena_Sub_c hx27) rfl) ?_
   refine OpsQ.yes (Want.plain rfl) rfl (OpR.call0 fn28 (law03_ours_c hx28) rfl) ?_
   refine OpsQ.yes (Want.plain rfl) rfl (OpR.pure rfl) ?_
   refine OpsQ.yes (Want.plain rfl) rfl (OpR.call0 fn28 (law03_ours_c hx29) rfl) ?_
   refine OpsQ.yes (Want.plain rfl) rfl (OpR.pure rfl) ?_
   refine OpsQ.yes (Want.plain rfl) rfl (OpR.pure rfl) ?_
   refine OpsQ.yes (Want.plain rfl) rfl (OpR.call0 fn33 (ref03_Sub_c hx30) rfl) ?_
   refine OpsQ.yes (Want.plain rfl) rfl (OpR.cast (OpR.eqStruct rfl rfl rfl rfl rfl (by kernel_rfl) (by kernel_rfl)) (boolE (beq_ref03_Span x28 x30))) ?_
   refine OpsQ.yes (Want.plain rfl) rfl (OpR.pure rfl) ?_
   refine OpsQ.yes (Want.bool rfl rfl rfl rfl (by rw [(beq_iff_eq.2 c31)]; rfl)) rfl (OpR.loadPtr 0 rfl rfl rfl rfl) ?_
   refine OpsQ.yes (Want.bool rfl rfl rfl rfl (by rw [(beq_iff_eq.2 c31)]; rfl)) rfl (OpR.call0 fn28 (law03_ours_c hx32) rfl) ?_
   refine OpsQ.yes (Want.bool rfl rfl rfl rfl (by rw [(beq_iff_eq.2 c31)]; rfl)) rfl (OpR.loadPtr 1 rfl rfl rfl rfl) ?_
   refine OpsQ.yes (Want.bool rfl rfl rfl rfl (by rw [(beq_iff_eq.2 c31)]; rfl)) rfl (OpR.cast (OpR.eqStruct rfl rfl rfl rfl rfl (by kernel_rfl) (by kernel_rfl)) (boolE (beq_ref03_Span x32 x24.1))) ?_
   refine OpsQ.yes (Want.plain rfl) rfl (OpR.pickT rfl (beq_iff_eq.2 c31) rfl) ?_
   refine OpsQ.yes (Want.plain rfl) rfl (OpR.pure rfl) ?_
   refine OpsQ.no (Want.bool rfl rfl rfl rfl (by rw [(beq_eq_false_iff_ne.2 c33)]; rfl)) rfl ?_
   refine OpsQ.no (Want.bool rfl rfl rfl rfl (by rw [(beq_eq_false_iff_ne.2 c33)]; rfl)) rfl ?_
   refine OpsQ.no (Want.bool rfl rfl rfl rfl (by rw [(beq_eq_false_iff_ne.2 c33)]; rfl)) rfl ?_
   refine OpsQ.yes (Want.plain rfl) rfl (OpR.pickF rfl (beq_eq_false_iff_ne.2 c33) rfl) ?_
   refine OpsQ.yes (Want.plain rfl) rfl (OpR.pure rfl) ?_
   refine OpsQ.no (Want.bool rfl rfl rfl rfl rfl) rfl ?_
   refine OpsQ.yes (Want.plain rfl) rfl (OpR.pickF rfl rfl rfl) ?_
   refine OpsQ.yes (Want.plain rfl) rfl (OpR.pure rfl) ?_
   exact OpsQ.nil
 rcases ite_some ht25 with ⟨c34, ht25⟩ | ⟨c34, ht25⟩
 rotate_left
 · refine T.drawQ drawsX [.agg [.val (.int .i64 a0.fAt), .val (.int .i64 a0.fN)], .val (.int .i64 a2.1), .val (.int .i64 a2.2), .agg [.val (.int .i64 x27.fAt), .val (.int .i64 x27.fN)], .agg [.val (.int .i64 x28.fAt), .val (.int .i64 x28.fN)], .agg [.val (.int .i64 a0.fAt), .val (.int .i64 a0.fN)], .agg [.val (.int .i64 x29.fAt), .val (.int .i64 x29.fN)], .val (.int .i64 a2.1), .val (.int .i64 a2.2), .agg [.val (.int .i64 x30.fAt), .val (.int .i64 x30.fN)], .val (.bool (x28 == x30)), .val (.bool (x28 == x30)), .agg [.val (.int .i64 x19.1.fAt), .val (.int .i64 x19.1.fN)], .agg [.val (.int .i64 x32.fAt), .val (.int .i64 x32.fN)], .agg [.val (.int .i64 x24.1.fAt), .val (.int .i64 x24.1.fN)], .val (.bool (x32 == x24.1)), .val (.bool (x32 == x24.1)), .val (.bool (x32 == x24.1)), .val (.bool x19.2), .val (.bool x24.2), .val (.bool (x19.2 == x24.2)), .val (.bool (x19.2 == x24.2)), .val (.bool (x19.2 == x24.2)), .tup [], .val (.bool false), .val (.bool false)] [3, 4, 6, 7, 8, 11, 12, 13, 14, 43, 44, 45, 46, 47, 48, 49, 50, 51, 52, 53, 54, 55, 56, 57, 58, 59, 60, 61, 62, 63, 64, 65, 66, 67, 68, 69, 70, 71, 72, 73, 74, 75, 76, 77, 78, 79, 80, 81] (by decide +kernel) rfl ?_ rfl ?_
   rotate_left
   · obtain rfl := Option.some.inj ht25
     exact ⟨_, Gst.trans (Gst.only [6] rfl) (Gst.pick [] rfl rfl), rfl⟩
   refine OpsQ.yes (Want.plain rfl) rfl (OpR.pure rfl) ?_
   refine OpsQ.yes (Want.plain rfl) rfl (OpR.pure rfl) ?_
   refine OpsQ.yes (Want.plain rfl) rfl (OpR.pure rfl) ?_
   refine OpsQ.yes (Want.plain rfl) rfl (OpR.call0 fn32 (arena_Sub_c hx27) rfl) ?_
   refine OpsQ.yes (Want.plain rfl) rfl (OpR.call0 fn28 (law03_ours_c hx28) rfl) ?_
   refine OpsQ.yes (Want.plain rfl) rfl (OpR.pure rfl) ?_
   refine OpsQ.yes (Want.plain rfl) rfl (OpR.call0 fn28 (law03_ours_c hx29) rfl) ?_
   refine OpsQ.yes (Want.plain rfl) rfl (OpR.pure rfl) ?_
   refine OpsQ.yes (Want.plain rfl) rfl (OpR.pure rfl) ?_
   refine OpsQ.yes (Want.plain rfl) rfl (OpR.call0 fn33 (ref03_Sub_c hx30) rfl) ?_
   refine OpsQ.yes (Want.plain rfl) rfl (OpR.cast (OpR.eqStruct rfl rfl rfl rfl rfl (by kernel_rfl) (by kernel_rfl)) (boolE (beq_ref03_Span x28 x30))) ?_
   refine OpsQ.yes (Want.plain rfl) rfl (OpR.pure rfl) ?_
   refine OpsQ.yes (Want.bool rfl rfl rfl rfl (by rw [(beq_iff_eq.2 c31)]; rfl)) rfl (OpR.loadPtr 0 rfl rfl rfl rfl) ?_
   refine OpsQ.yes (Want.bool rfl rfl rfl rfl (by rw [(beq_iff_eq.2 c31)]; rfl)) rfl (OpR.call0 fn28 (law03_ours_c hx32) rfl) ?_
   refine OpsQ.yes (Want.bool rfl rfl rfl rfl (by rw [(beq_iff_eq.2 c31)]; rfl)) rfl (OpR.loadPtr 1 rfl rfl rfl rfl) ?_
   refine OpsQ.yes (Want.bool rfl rfl rfl rfl (by rw [(beq_iff_eq.2 c31)]; rfl)) rfl (OpR.cast (OpR.eqStruct rfl rfl rfl rfl rfl (by kernel_rfl) (by kernel_rfl)) (boolE (beq_ref03_Span x32 x24.1))) ?_
   refine OpsQ.yes (Want.plain rfl) rfl (OpR.pickT rfl (beq_iff_eq.2 c31) rfl) ?_
   refine OpsQ.yes (Want.plain rfl) rfl (OpR.pure rfl) ?_
   refine OpsQ.yes (Want.bool rfl rfl rfl rfl (by rw [(beq_iff_eq.2 c33)]; rfl)) rfl (OpR.pure rfl) ?_
   refine OpsQ.yes (Want.bool rfl rfl rfl rfl (by rw [(beq_iff_eq.2 c33)]; rfl)) rfl (OpR.pure rfl) ?_
   refine OpsQ.yes (Want.bool rfl rfl rfl rfl (by rw [(beq_iff_eq.2 c33)]; rfl)) rfl (OpR.eqBool rfl rfl rfl rfl) ?_
   refine OpsQ.yes (Want.plain rfl) rfl (OpR.pickT rfl (beq_iff_eq.2 c33) rfl) ?_
   refine OpsQ.yes (Want.plain rfl) rfl (OpR.pure rfl) ?_
   refine OpsQ.no (Want.bool rfl rfl rfl rfl (by rw [(eq_false_of_ne_true c34)]; rfl)) rfl ?_
   refine OpsQ.yes (Want.plain rfl) rfl (OpR.pickF rfl (eq_false_of_ne_true c34) rfl) ?_
   refine OpsQ.yes (Want.plain rfl) rfl (OpR.pure rfl) ?_
   exact OpsQ.nil
 obtain ⟨x35, hx35, ht25⟩ := bnd_some ht25
 refine T.drawQ drawsX [.agg [.val (.int .i64 a0.fAt), .val (.int .i64 a0.fN)], .val (.int .i64 a2.1), .val (.int .i64 a2.2), .agg [.val (.int .i64 x27.fAt), .val (.int .i64 x27.fN)], .agg [.val (.int .i64 x28.fAt), .val (.int .i64 x28.fN)], .agg [.val (.int .i64 a0.fAt), .val (.int .i64 a0.fN)], .agg [.val (.int .i64 x29.fAt), .val (.int .i64 x29.fN)], .val (.int .i64 a2.1), .val (.int .i64 a2.2), .agg [.val (.int .i64 x30.fAt), .val (.int .i64 x30.fN)], .val (.bool (x28 == x30)), .val (.bool (x28 == x30)), .agg [.val (.int .i64 x19.1.fAt), .val (.int .i64 x19.1.fN)], .agg [.val (.int .i64 x32.fAt), .val (.int .i64 x32.fN)], .agg [.val (.int .i64 x24.1.fAt), .val (.int .i64 x24.1.fN)], .val (.bool (x32 == x24.1)), .val (.bool (x32 == x24.1)), .val (.bool (x32 == x24.1)), .val (.bool x19.2), .val (.bool x24.2), .val (.bool (x19.2 == x24.2)), .val (.bool (x19.2 == x24.2)), .val (.bool (x19.2 == x24.2)), .val (.bool x35), .val (.bool x35), .val (.bool x35)] [3, 4, 6, 7, 8, 11, 12, 13, 14, 43, 44, 45, 46, 47, 48, 49, 50, 51, 52, 53, 54, 55, 56, 57, 58, 59, 60, 61, 62, 63, 64, 65, 66, 67, 68, 69, 70, 71, 72, 73, 74, 75, 76, 77, 78, 79, 80, 81] (by decide +kernel) rfl ?_ rfl ?_
 rotate_left
 · obtain rfl := Option.some.inj ht25
   exact ⟨_, Gst.trans (Gst.only [6] rfl) (Gst.pick [] rfl rfl), rfl⟩
 refine OpsQ.yes (Want.plain rfl) rfl (OpR.pure rfl) ?_
 refine OpsQ.yes (Want.plain rfl) rfl (OpR.pure rfl) ?_
 refine OpsQ.yes (Want.plain rfl) rfl (OpR.pure rfl) ?_
 refine OpsQ.yes (Want.plain rfl) rfl (OpR.call0 fn32 (arena_Sub_c hx27) rfl) ?_
 refine OpsQ.yes (Want.plain rfl) rfl (OpR.call0 fn28 (law03_ours_c hx28) rfl) ?_
 refine OpsQ.yes (Want.plain rfl) rfl (OpR.pure rfl) ?_
 refine OpsQ.yes (Want.plain rfl) rfl (OpR.call0 fn28 (law03_ours_c hx29) rfl) ?_
 refine OpsQ.yes (Want.plain rfl) rfl (OpR.pure rfl) ?_
 refine OpsQ.yes (Want.plain rfl) rfl (OpR.pure rfl) ?_
 refine OpsQ.yes (Want.plain rfl) rfl (OpR.call0 fn33 (ref03_Sub_c hx30) rfl) ?_
 refine OpsQ.yes (Want.plain rfl) rfl (OpR.cast (OpR.eqStruct rfl rfl rfl rfl rfl (by kernel_rfl) (by kernel_rfl)) (boolE (beq_ref03_Span x28 x30))) ?_
 refine OpsQ.yes (Want.plain rfl) rfl (OpR.pure rfl) ?_
 refine OpsQ.yes (Want.bool rfl rfl rfl rfl (by rw [(beq_iff_eq.2 c31)]; rfl)) rfl (OpR.loadPtr 0 rfl rfl rfl rfl) ?_
 refine OpsQ.yes (Want.bool rfl rfl rfl rfl (by rw [(beq_iff_eq.2 c31)]; rfl)) rfl (OpR.call0 fn28 (law03_ours_c hx32) rfl) ?_
 refine OpsQ.yes (Want.bool rfl rfl rfl rfl (by rw [(beq_iff_eq.2 c31)]; rfl)) rfl (OpR.loadPtr 1 rfl rfl rfl rfl) ?_
 refine OpsQ.yes (Want.bool rfl rfl rfl rfl (by rw [(beq_iff_eq.2 c31)]; rfl)) rfl (OpR.cast (OpR.eqStruct rfl rfl rfl rfl rfl (by kernel_rfl) (by kernel_rfl)) (boolE (beq_ref03_Span x32 x24.1))) ?_
 refine OpsQ.yes (Want.plain rfl) rfl (OpR.pickT rfl (beq_iff_eq.2 c31) rfl) ?_
 refine OpsQ.yes (Want.plain rfl) rfl (OpR.pure rfl) ?_
 refine OpsQ.yes (Want.bool rfl rfl rfl rfl (by rw [(beq_iff_eq.2 c33)]; rfl)) rfl (OpR.pure rfl) ?_
 refine OpsQ.yes (Want.bool rfl rfl rfl rfl (by rw [(beq_iff_eq.2 c33)]; rfl)) rfl (OpR.pure rfl) ?_
 refine OpsQ.yes (Want.bool rfl rfl rfl rfl (by rw [(beq_iff_eq.2 c33)]; rfl)) rfl (OpR.eqBool rfl rfl rfl rfl) ?_
 refine OpsQ.yes (Want.plain rfl) rfl (OpR.pickT rfl (beq_iff_eq.2 c33) rfl) ?_
 refine OpsQ.yes (Want.plain rfl) rfl (OpR.pure rfl) ?_
 refine OpsQ.yes (Want.bool rfl rfl rfl rfl (by rw [(c34)]; rfl)) rfl (OpR.call0 fn20 (law03_awake_c hx35) rfl) ?_
 refine OpsQ.yes (Want.plain rfl) rfl (OpR.pickT rfl (c34) rfl) ?_
 refine OpsQ.yes (Want.plain rfl) rfl (OpR.pure rfl) ?_
 exact OpsQ.nil
end Go.Proofs.Ytlginjmkmfodmaa.S
