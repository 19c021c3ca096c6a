/- Printed by a program of this session's own (gen.py): Lean functions for Go functions, and the proofs that the Go code comes to their answers. -/
import Derived.Test.YtkmdfaodbiknlaaG14xa
import Derived.Test.YtkmdfaodbiknlaaG2xa
import Derived.Test.YtkmdfaodbiknlaaG16xa
import Derived.Test.YtkmdfaodbiknlaaG15xa
import Derived.Test.YtkmdfaodbiknlaaG4xa
set_option linter.unusedVariables false
set_option linter.unusedSimpArgs false
set_option maxRecDepth 20000
namespace Go.Proofs.Ytkmdfaodbiknlaa.S
open Go Go.Sm
attribute [local irreducible] T TL OpR CallT iter loop
noncomputable def walk_Back_int (a0 : tree_Tree_int) (a1 : Int) (a2 : Int) : Option (Int × Int × (Option NP)) :=
  bnd (walk_stretch_int a0 a1 a2) fun x4 =>
  some (x4.1, x4.2, a0.fRoot)
set_option maxHeartbeats 4000000 in
theorem walk_Back_int_c {a0 : tree_Tree_int} {a1 : Int} {a2 : Int} {res : Int × Int × (Option NP)} (h0 : walk_Back_int a0 a1 a2 = some res) : CallF X 41 [.agg [(eOP a0.fRoot)], .val (.int .i64 a1), .val (.int .i64 a2)] [] (fun x => .fn (.func 72) [] [.val (.pointer (some ⟨(blk (vn x 0)), 0, none⟩)), .val (.pointer (some ⟨(blk (vn x 1)), 0, none⟩)), .val (.pointer (some ⟨(blk (vn x 2)), 0, none⟩))]) (fun x => [.var (blk (vn x 0)) [.val (.int .i64 res.1)] 3, .var (blk (vn x 1)) [.val (.int .i64 res.2.1)] 3, .var (blk (vn x 2)) [(eOP res.2.2)] 27]) := by
 unfold walk_Back_int at h0
 refine CallF.mkG (X := X) rfl Try.func41 rfl rfl Try.ntmps41 rfl rfl ?_
 refine T.seq ?_
 refine T.region ?_
 refine TL.op (OpR.boxVar rfl rfl (fun _ => rfl)) rfl (fun p1 => ?_)
 refine TL.op (OpR.boxVar rfl rfl (fun _ => rfl)) rfl (fun p2 => ?_)
 refine TL.op (OpR.boxVar rfl rfl (fun _ => rfl)) rfl (fun p3 => ?_)
 refine TL.op1 (OpR.pure rfl) rfl ?_
 refine TL.nil ?_
 show T X _ _ _
 refine T.seq ?_
 refine T.region ?_
 refine TL.op1 (OpR.loadPtr 0 rfl rfl rfl rfl) rfl ?_
 refine TL.op1 (OpR.loadPtr 1 rfl rfl rfl rfl) rfl ?_
 refine TL.op1 (OpR.loadPtr 2 rfl rfl rfl rfl) rfl ?_
 obtain ⟨x4, hx4, h0⟩ := bnd_some h0
 refine TL.op1 (OpR.call0 fn65 (walk_stretch_int_c hx4) rfl) rfl ?_
 refine TL.op1 (OpR.pure rfl) rfl ?_
 refine TL.op1 (OpR.pure rfl) rfl ?_
 refine TL.op1 (OpR.pure rfl) rfl ?_
 refine TL.op0 (OpR.store 1 rfl rfl rfl rfl rfl rfl rfl rfl) ?_
 refine TL.op0 (OpR.store 2 rfl rfl rfl rfl rfl rfl rfl rfl) ?_
 refine TL.nil ?_
 show T X _ _ _
 refine T.seq ?_
 refine T.region ?_
 refine TL.op1 (OpR.pure rfl) rfl ?_
 refine TL.op1 (OpR.pure rfl) rfl ?_
 refine TL.nil ?_
 show T X _ _ _
 refine T.ret ?_
 obtain rfl := Option.some.inj h0
 exact PostG.retP (ks := [0, 1, 2]) (Gst.trans (Gst.only [6] rfl) (Gst.pick [1, 2, 0] rfl rfl)) (.tuple #[p2, p3, p1]) (ResL.cons (ResV.tmp rfl) ResL.nil) rfl rfl rfl rfl
noncomputable def law10_WalkGoes_r0 (a0 : Int) (a1 : Int) (a2 : UInt8) (a3 : Bool) (a4 : Int) (a5 : Int) (a6 : List Int) : Option (Bool ⊕ (Int ⊕ Int)) :=
  bnd (if a5 ≥ (a6.length : Int) then
    some true
  else
    if a0 = (w64 (a4 + a5)) then
      bnd (idx a6 a5) fun x34 =>
      some (!(a1 == x34))
    else
      some true : Option Bool) fun t31 =>
  if t31 = true then
    some (Sum.inl false)
  else
    if (w64 (a5 + 1)) = (a2.toNat : Int) then
      some (Sum.inr (Sum.inl (w64 (a5 + 1))))
    else
      some (Sum.inr (Sum.inr (w64 (a5 + 1))))
set_option maxHeartbeats 4000000 in
theorem law10_WalkGoes_r0_c {a0 : Int} {a1 : Int} {a2 : UInt8} {a3 : Bool} {a4 : Int} {a5 : Int} {a6 : List Int} {b0 : Nat} {b1 : Nat} {b2 : Nat} {b3 : Nat} {b4 : Nat} {v5 : Value} {res : Bool ⊕ (Int ⊕ Int)} (h0 : law10_WalkGoes_r0 a0 a1 a2 a3 a4 a5 a6 = some res) : RoundF X b0 [.val (.int .i64 a0), .val (.int .i64 a1)] [.lp b0 .ready none [64, 65] rfA10_0 rfB10_0 [(14, .val (.pointer (some ⟨b4, 0, none⟩))), (9, .val (.pointer (some ⟨b3, 0, none⟩))), (8, .val (.pointer (some ⟨b2, 0, none⟩))), (6, .val (.pointer (some ⟨b1, 0, none⟩))), (5, .nod [.val (.int .u8 (a2.toNat : Int))])] 149, .var b1 [.val (.bool a3)] 4, .var b2 [.val v5] 22, .var b3 [.val (.int .i64 a4)] 3, .var b4 [.val (.int .i64 a5)] 3, .row v5 (List.map (eI .i64) a6) 1 3] (fun x => (match res with | .inl res => .val (.bool false) | .inr (.inl res) => .val (.bool false) | .inr (.inr res) => .val (.bool true))) (fun x => (match res with | .inl res => [.lp b0 .done (some (.ret)) [64, 65] rfA10_0 rfB10_0 [(14, .val (.pointer (some ⟨b4, 0, none⟩))), (9, .val (.pointer (some ⟨b3, 0, none⟩))), (8, .val (.pointer (some ⟨b2, 0, none⟩))), (6, .val (.pointer (some ⟨b1, 0, none⟩))), (5, .nod [.val (.int .u8 (a2.toNat : Int))])] 149, .var b1 [.val (.bool res)] 4, .var b2 [.val v5] 22, .var b3 [.val (.int .i64 a4)] 3, .var b4 [.val (.int .i64 a5)] 3, .row v5 (List.map (eI .i64) a6) 1 3] | .inr (.inl res) => [.lp b0 .done (some (.exit 2)) [64, 65] rfA10_0 rfB10_0 [(14, .val (.pointer (some ⟨b4, 0, none⟩))), (9, .val (.pointer (some ⟨b3, 0, none⟩))), (8, .val (.pointer (some ⟨b2, 0, none⟩))), (6, .val (.pointer (some ⟨b1, 0, none⟩))), (5, .nod [.val (.int .u8 (a2.toNat : Int))])] 149, .var b1 [.val (.bool a3)] 4, .var b2 [.val v5] 22, .var b3 [.val (.int .i64 a4)] 3, .var b4 [.val (.int .i64 res)] 3, .row v5 (List.map (eI .i64) a6) 1 3] | .inr (.inr res) => [.lp b0 .ready none [64, 65] rfA10_0 rfB10_0 [(14, .val (.pointer (some ⟨b4, 0, none⟩))), (9, .val (.pointer (some ⟨b3, 0, none⟩))), (8, .val (.pointer (some ⟨b2, 0, none⟩))), (6, .val (.pointer (some ⟨b1, 0, none⟩))), (5, .nod [.val (.int .u8 (a2.toNat : Int))])] 149, .var b1 [.val (.bool a3)] 4, .var b2 [.val v5] 22, .var b3 [.val (.int .i64 a4)] 3, .var b4 [.val (.int .i64 res)] 3, .row v5 (List.map (eI .i64) a6) 1 3])) := by
 unfold law10_WalkGoes_r0 at h0
 refine RoundF.mk (X := X) rfl rfl rfl ?_
 refine T.seq ?_
 refine T.region ?_
 refine TL.op1 (OpR.pure rfl) rfl ?_
 refine TL.nil ?_
 show T (X.inR b0) _ _ _
 refine T.region ?_
 refine TL.op1 (OpR.pure rfl) rfl ?_
 refine TL.nil ?_
 refine RoundA.mk ?_
 refine T.block ?_
 refine T.seq ?_
 refine T.seq ?_
 obtain ⟨t31, ht31, h0⟩ := bnd_some h0
 refine T.cutC (fun S' => S' = ⟨[(84, .val (.bool t31)), (14, .val (.pointer (some ⟨b4, 0, none⟩))), (6, .val (.pointer (some ⟨b1, 0, none⟩))), (5, .nod [.val (.int .u8 (a2.toNat : Int))])], [.lp b0 .busy none [64, 65] rfA10_0 rfB10_0 [(14, .val (.pointer (some ⟨b4, 0, none⟩))), (9, .val (.pointer (some ⟨b3, 0, none⟩))), (8, .val (.pointer (some ⟨b2, 0, none⟩))), (6, .val (.pointer (some ⟨b1, 0, none⟩))), (5, .nod [.val (.int .u8 (a2.toNat : Int))])] 149, .var b1 [.val (.bool a3)] 4, .var b2 [.val v5] 22, .var b3 [.val (.int .i64 a4)] 3, .var b4 [.val (.int .i64 a5)] 3, .row v5 (List.map (eI .i64) a6) 1 3], 149⟩) (fun _ h => h) ?_ ?_
 rotate_left
 · rintro _ rfl
   show T (X.inR b0) _ _ _
   rcases ite_some h0 with ⟨c35, h0⟩ | ⟨c35, h0⟩
   · refine T.condT rfl (c35) ?_
     refine T.seq ?_
     refine T.region ?_
     refine TL.op0 (OpR.store 1 rfl rfl rfl rfl rfl rfl rfl rfl) ?_
     refine TL.nil ?_
     show T (X.inR b0) _ _ _
     refine T.ret ?_
     obtain rfl := Option.some.inj h0
     exact RoundG.mk (ks := [0, 1, 2, 3, 4, 5]) (Gst.only [] rfl) undef rfl rfl rfl rfl rfl
   refine T.condF rfl (eq_false_of_ne_true c35) ?_
   refine T.skip ?_
   show T (X.inR b0) _ _ _
   refine T.seq ?_
   refine T.region ?_
   refine TL.op1 (OpR.loadPtr 4 rfl rfl rfl rfl) rfl ?_
   refine TL.op1 (OpR.pure rfl) rfl ?_
   refine TL.op0 (OpR.store 4 rfl rfl rfl rfl rfl rfl rfl rfl) ?_
   refine TL.nil ?_
   show T (X.inR b0) _ _ _
   refine T.seq ?_
   refine T.region ?_
   refine TL.op1 (OpR.loadPtr 4 rfl rfl rfl rfl) rfl ?_
   refine TL.op1 (OpR.pure rfl) rfl ?_
   refine TL.op1 (OpR.cast (OpR.pure rfl) (intE (w64_u8 _))) rfl ?_
   refine TL.op1 (OpR.pure rfl) rfl ?_
   refine TL.nil ?_
   show T (X.inR b0) _ _ _
   rcases ite_some h0 with ⟨c36, h0⟩ | ⟨c36, h0⟩
   · refine T.condT rfl (beq_iff_eq.2 c36) ?_
     refine T.exit ?_
     obtain rfl := Option.some.inj h0
     exact RoundG.mk (ks := [0, 1, 2, 3, 4, 5]) (Gst.only [] rfl) undef rfl rfl rfl rfl rfl
   refine T.condF rfl (beq_eq_false_iff_ne.2 c36) ?_
   refine T.skip ?_
   obtain rfl := Option.some.inj h0
   exact RoundG.mk (ks := [0, 1, 2, 3, 4, 5]) (Gst.only [] rfl) undef rfl rfl rfl rfl rfl
 refine T.region ?_
 refine TL.op1 (OpR.loadPtr 4 rfl rfl rfl rfl) rfl ?_
 refine TL.op1 (OpR.loadPtr 2 rfl rfl rfl rfl) rfl ?_
 refine TL.op1 (OpR.rowLenM (eI .i64) 5 rfl rfl rfl rfl) rfl ?_
 refine TL.op1 (OpR.pure rfl) rfl ?_
 refine TL.op1 (OpR.pure rfl) rfl ?_
 rcases ite_some ht31 with ⟨c32, ht31⟩ | ⟨c32, ht31⟩
 · refine TL.off rfl rfl rfl rfl (decide_eq_true c32) rfl rfl ?_
   refine TL.off rfl rfl rfl rfl (decide_eq_true c32) rfl rfl ?_
   refine TL.off rfl rfl rfl rfl (decide_eq_true c32) rfl rfl ?_
   refine TL.off rfl rfl rfl rfl (decide_eq_true c32) rfl rfl ?_
   refine TL.off rfl rfl rfl rfl (decide_eq_true c32) rfl rfl ?_
   refine TL.op1 (OpR.pickT rfl (decide_eq_true c32) rfl) rfl ?_
   refine TL.op1 (OpR.pure rfl) rfl ?_
   refine TL.off rfl rfl rfl rfl rfl rfl rfl ?_
   refine TL.off rfl rfl rfl rfl rfl rfl rfl ?_
   refine TL.off rfl rfl rfl rfl rfl rfl rfl ?_
   refine TL.off rfl rfl rfl rfl rfl rfl rfl ?_
   refine TL.off rfl rfl rfl rfl rfl rfl rfl ?_
   refine TL.off rfl rfl rfl rfl rfl rfl rfl ?_
   refine TL.op1 (OpR.pickT rfl rfl rfl) rfl ?_
   refine TL.nil ?_
   obtain rfl := Option.some.inj ht31
   exact ⟨_, Gst.only [5, 6, 14, 84] rfl, rfl⟩
 refine TL.on rfl rfl rfl rfl (decide_eq_false c32) ?_
 refine TL.op1 (OpR.pure rfl) rfl ?_
 refine TL.on rfl rfl rfl rfl (decide_eq_false c32) ?_
 refine TL.op1 (OpR.loadPtr 3 rfl rfl rfl rfl) rfl ?_
 refine TL.on rfl rfl rfl rfl (decide_eq_false c32) ?_
 refine TL.op1 (OpR.loadPtr 4 rfl rfl rfl rfl) rfl ?_
 refine TL.on rfl rfl rfl rfl (decide_eq_false c32) ?_
 refine TL.op1 (OpR.pure rfl) rfl ?_
 refine TL.on rfl rfl rfl rfl (decide_eq_false c32) ?_
 refine TL.op1 (OpR.pure rfl) rfl ?_
 refine TL.op1 (OpR.pickF rfl (decide_eq_false c32) rfl) rfl ?_
 refine TL.op1 (OpR.pure rfl) rfl ?_
 rcases ite_some ht31 with ⟨c33, ht31⟩ | ⟨c33, ht31⟩
 rotate_left
 · refine TL.off rfl rfl rfl rfl (not_f (beq_eq_false_iff_ne.2 c33)) rfl rfl ?_
   refine TL.off rfl rfl rfl rfl (not_f (beq_eq_false_iff_ne.2 c33)) rfl rfl ?_
   refine TL.off rfl rfl rfl rfl (not_f (beq_eq_false_iff_ne.2 c33)) rfl rfl ?_
   refine TL.off rfl rfl rfl rfl (not_f (beq_eq_false_iff_ne.2 c33)) rfl rfl ?_
   refine TL.off rfl rfl rfl rfl (not_f (beq_eq_false_iff_ne.2 c33)) rfl rfl ?_
   refine TL.off rfl rfl rfl rfl (not_f (beq_eq_false_iff_ne.2 c33)) rfl rfl ?_
   refine TL.op1 (OpR.pickT rfl (not_f (beq_eq_false_iff_ne.2 c33)) rfl) rfl ?_
   refine TL.nil ?_
   obtain rfl := Option.some.inj ht31
   exact ⟨_, Gst.only [5, 6, 14, 84] rfl, rfl⟩
 refine TL.on rfl rfl rfl rfl (not_t (beq_iff_eq.2 c33)) ?_
 refine TL.op1 (OpR.pure rfl) rfl ?_
 refine TL.on rfl rfl rfl rfl (not_t (beq_iff_eq.2 c33)) ?_
 refine TL.op1 (OpR.loadPtr 2 rfl rfl rfl rfl) rfl ?_
 refine TL.on rfl rfl rfl rfl (not_t (beq_iff_eq.2 c33)) ?_
 refine TL.op1 (OpR.loadPtr 4 rfl rfl rfl rfl) rfl ?_
 refine TL.on rfl rfl rfl rfl (not_t (beq_iff_eq.2 c33)) ?_
 obtain ⟨x34, hx34, ht31⟩ := bnd_some ht31
 refine TL.op1 (OpR.rowIndexM (eI .i64) 5 hx34 rfl rfl rfl rfl rfl rfl rfl) rfl ?_
 refine TL.on rfl rfl rfl rfl (not_t (beq_iff_eq.2 c33)) ?_
 refine TL.op1 (OpR.rowLoad0M (j := a5) (eI .i64) 5 hx34 rfl rfl rfl rfl) rfl ?_
 refine TL.on rfl rfl rfl rfl (not_t (beq_iff_eq.2 c33)) ?_
 refine TL.op1 (OpR.pure rfl) rfl ?_
 refine TL.op1 (OpR.pickF rfl (not_t (beq_iff_eq.2 c33)) rfl) rfl ?_
 refine TL.nil ?_
 obtain rfl := Option.some.inj ht31
 exact ⟨_, Gst.only [5, 6, 14, 84] rfl, rfl⟩
theorem law10_WalkGoes_r0_cx1 {a0 : Int} {a1 : Int} {a2 : UInt8} {a3 : Bool} {a4 : Int} {a5 : Int} {a6 : List Int} {b0 : Nat} {b1 : Nat} {b2 : Nat} {b3 : Nat} {b4 : Nat} {v5 : Value} {res : Bool} (h0 : law10_WalkGoes_r0 a0 a1 a2 a3 a4 a5 a6 = some (Sum.inl res)) : RoundF X b0 [.val (.int .i64 a0), .val (.int .i64 a1)] [.lp b0 .ready none [64, 65] rfA10_0 rfB10_0 [(14, .val (.pointer (some ⟨b4, 0, none⟩))), (9, .val (.pointer (some ⟨b3, 0, none⟩))), (8, .val (.pointer (some ⟨b2, 0, none⟩))), (6, .val (.pointer (some ⟨b1, 0, none⟩))), (5, .nod [.val (.int .u8 (a2.toNat : Int))])] 149, .var b1 [.val (.bool a3)] 4, .var b2 [.val v5] 22, .var b3 [.val (.int .i64 a4)] 3, .var b4 [.val (.int .i64 a5)] 3, .row v5 (List.map (eI .i64) a6) 1 3] (fun x => .val (.bool false)) (fun x => [.lp b0 .done (some (.ret)) [64, 65] rfA10_0 rfB10_0 [(14, .val (.pointer (some ⟨b4, 0, none⟩))), (9, .val (.pointer (some ⟨b3, 0, none⟩))), (8, .val (.pointer (some ⟨b2, 0, none⟩))), (6, .val (.pointer (some ⟨b1, 0, none⟩))), (5, .nod [.val (.int .u8 (a2.toNat : Int))])] 149, .var b1 [.val (.bool res)] 4, .var b2 [.val v5] 22, .var b3 [.val (.int .i64 a4)] 3, .var b4 [.val (.int .i64 a5)] 3, .row v5 (List.map (eI .i64) a6) 1 3]) := law10_WalkGoes_r0_c h0
theorem law10_WalkGoes_r0_cx2 {a0 : Int} {a1 : Int} {a2 : UInt8} {a3 : Bool} {a4 : Int} {a5 : Int} {a6 : List Int} {b0 : Nat} {b1 : Nat} {b2 : Nat} {b3 : Nat} {b4 : Nat} {v5 : Value} {res : Int} (h0 : law10_WalkGoes_r0 a0 a1 a2 a3 a4 a5 a6 = some (Sum.inr (Sum.inl res))) : RoundF X b0 [.val (.int .i64 a0), .val (.int .i64 a1)] [.lp b0 .ready none [64, 65] rfA10_0 rfB10_0 [(14, .val (.pointer (some ⟨b4, 0, none⟩))), (9, .val (.pointer (some ⟨b3, 0, none⟩))), (8, .val (.pointer (some ⟨b2, 0, none⟩))), (6, .val (.pointer (some ⟨b1, 0, none⟩))), (5, .nod [.val (.int .u8 (a2.toNat : Int))])] 149, .var b1 [.val (.bool a3)] 4, .var b2 [.val v5] 22, .var b3 [.val (.int .i64 a4)] 3, .var b4 [.val (.int .i64 a5)] 3, .row v5 (List.map (eI .i64) a6) 1 3] (fun x => .val (.bool false)) (fun x => [.lp b0 .done (some (.exit 2)) [64, 65] rfA10_0 rfB10_0 [(14, .val (.pointer (some ⟨b4, 0, none⟩))), (9, .val (.pointer (some ⟨b3, 0, none⟩))), (8, .val (.pointer (some ⟨b2, 0, none⟩))), (6, .val (.pointer (some ⟨b1, 0, none⟩))), (5, .nod [.val (.int .u8 (a2.toNat : Int))])] 149, .var b1 [.val (.bool a3)] 4, .var b2 [.val v5] 22, .var b3 [.val (.int .i64 a4)] 3, .var b4 [.val (.int .i64 res)] 3, .row v5 (List.map (eI .i64) a6) 1 3]) := law10_WalkGoes_r0_c h0
theorem law10_WalkGoes_r0_cx3 {a0 : Int} {a1 : Int} {a2 : UInt8} {a3 : Bool} {a4 : Int} {a5 : Int} {a6 : List Int} {b0 : Nat} {b1 : Nat} {b2 : Nat} {b3 : Nat} {b4 : Nat} {v5 : Value} {res : Int} (h0 : law10_WalkGoes_r0 a0 a1 a2 a3 a4 a5 a6 = some (Sum.inr (Sum.inr res))) : RoundF X b0 [.val (.int .i64 a0), .val (.int .i64 a1)] [.lp b0 .ready none [64, 65] rfA10_0 rfB10_0 [(14, .val (.pointer (some ⟨b4, 0, none⟩))), (9, .val (.pointer (some ⟨b3, 0, none⟩))), (8, .val (.pointer (some ⟨b2, 0, none⟩))), (6, .val (.pointer (some ⟨b1, 0, none⟩))), (5, .nod [.val (.int .u8 (a2.toNat : Int))])] 149, .var b1 [.val (.bool a3)] 4, .var b2 [.val v5] 22, .var b3 [.val (.int .i64 a4)] 3, .var b4 [.val (.int .i64 a5)] 3, .row v5 (List.map (eI .i64) a6) 1 3] (fun x => .val (.bool true)) (fun x => [.lp b0 .ready none [64, 65] rfA10_0 rfB10_0 [(14, .val (.pointer (some ⟨b4, 0, none⟩))), (9, .val (.pointer (some ⟨b3, 0, none⟩))), (8, .val (.pointer (some ⟨b2, 0, none⟩))), (6, .val (.pointer (some ⟨b1, 0, none⟩))), (5, .nod [.val (.int .u8 (a2.toNat : Int))])] 149, .var b1 [.val (.bool a3)] 4, .var b2 [.val v5] 22, .var b3 [.val (.int .i64 a4)] 3, .var b4 [.val (.int .i64 res)] 3, .row v5 (List.map (eI .i64) a6) 1 3]) := law10_WalkGoes_r0_c h0
noncomputable def walk_Range_int_1_4.l1 (a0 : UInt8) (a2 : Int) (a4 : Bool) (a5 : Int) (a7 : List Int) (s9 : Int × Int × (List walk_frame_int)) : Option (Lp (Int × Int × (List walk_frame_int)) (Ex Int (Int ⊕ ((Bool × Int) ⊕ Int)))) :=
  if s9.1 < a2 then
    bnd (walk_stack_int_top s9.2.2) fun x18 =>
    bnd (idx s9.2.2 x18) fun x19 =>
    bnd (some x19.fN) fun q20 => match q20 with
      | none =>
        none
      | some z21 =>
        bnd (o_tree_Node_int z21) fun x23 =>
        bnd (if x19.fNext = (x23.fItems.length : Int) then
          bnd (walk_stack_int_forth s9.2.2) fun x28 =>
          some x28.2
        else
          some s9.2.2 : Option (List walk_frame_int)) fun t25 =>
        bnd (walk_stack_int_top t25) fun x30 =>
        bnd (idx t25 x30) fun x31 =>
        bnd (some x31.fN) fun q32 => match q32 with
          | none =>
            none
          | some z33 =>
            bnd (o_tree_Node_int z33) fun x35 =>
            bnd (idx x35.fItems x31.fNext) fun x37 =>
            bnd (law10_WalkGoes_r0 s9.1 x37 a0 a4 a5 s9.2.1 a7) fun x38 =>
            match x38 with
            | .inl x38 =>
                some (Lp.done (Ex.ret (Sum.inr (Sum.inl (x38, s9.2.1)))))
            | .inr (.inl x38) =>
                some (Lp.done (Ex.ret (Sum.inr (Sum.inr x38))))
            | .inr (.inr x38) =>
                some (Lp.next (w64 (s9.1 + 1), x38, (t25.set x30.toNat (⟨x31.fN, x31.fFirst, w64 (x31.fNext + 1)⟩ : walk_frame_int))))
  else
    some (Lp.done (Ex.brk s9.2.1))
noncomputable def walk_Range_int_1_4 (a0 : UInt8) (a1 : Int) (a2 : Int) (a3 : Option NP) (a4 : Bool) (a5 : Int) (a6 : Int) (a7 : List Int) : Option (Int ⊕ ((Bool × Int) ⊕ Int)) :=
  if a1 = a2 then
    some (Sum.inl a6)
  else
    bnd (tree_Tree_int_Root (⟨a3⟩ : tree_Tree_int)) fun x4 =>
    match x4 with
    | .inl x4 =>
        none
    | .inr x4 =>
        bnd (walk_stack_int_down x4.1 x4.2.1 x4.2.2 0 a1) fun x5 =>
        bnd (loop (walk_Range_int_1_4.l1 a0 a2 a4 a5 a7) (a1, a6, x5) : Option (Ex Int (Int ⊕ ((Bool × Int) ⊕ Int)))) fun t6 => match t6 with
          | .brk u7 =>
            some (Sum.inl u7)
          | .ret u7 => some u7
set_option maxHeartbeats 4000000 in
theorem walk_Range_int_1_4_c {a0 : UInt8} {a1 : Int} {a2 : Int} {a3 : Option NP} {a4 : Bool} {a5 : Int} {a6 : Int} {a7 : List Int} {b0 : Nat} {b1 : Nat} {b2 : Nat} {b3 : Nat} {b4 : Nat} {b5 : Nat} {b6 : Nat} {b7 : Nat} {v8 : Value} {res : Int ⊕ ((Bool × Int) ⊕ Int)} (h0 : walk_Range_int_1_4 a0 a1 a2 a3 a4 a5 a6 a7 = some res) : CallF X 68 [.fn (.yield b0) [] [], .val (.pointer (some ⟨b1, 0, none⟩)), .val (.pointer (some ⟨b2, 0, none⟩)), .val (.pointer (some ⟨b3, 0, none⟩))] [.lp b0 .ready none [64, 65] rfA10_0 rfB10_0 [(14, .val (.pointer (some ⟨b7, 0, none⟩))), (9, .val (.pointer (some ⟨b6, 0, none⟩))), (8, .val (.pointer (some ⟨b5, 0, none⟩))), (6, .val (.pointer (some ⟨b4, 0, none⟩))), (5, .nod [.val (.int .u8 (a0.toNat : Int))])] 149, .var b1 [.val (.int .i64 a1)] 3, .var b2 [.val (.int .i64 a2)] 3, .var b3 [(eOP a3)] 27, .var b4 [.val (.bool a4)] 4, .var b5 [.val v8] 22, .var b6 [.val (.int .i64 a5)] 3, .var b7 [.val (.int .i64 a6)] 3, .row v8 (List.map (eI .i64) a7) 1 3] (fun x => (match res with | .inl res => .tup [] | .inr (.inl res) => .tup [] | .inr (.inr res) => .tup [])) (fun x => (match res with | .inl res => [.lp b0 .ready none [64, 65] rfA10_0 rfB10_0 [(14, .val (.pointer (some ⟨b7, 0, none⟩))), (9, .val (.pointer (some ⟨b6, 0, none⟩))), (8, .val (.pointer (some ⟨b5, 0, none⟩))), (6, .val (.pointer (some ⟨b4, 0, none⟩))), (5, .nod [.val (.int .u8 (a0.toNat : Int))])] 149, .var b1 [.val (.int .i64 a1)] 3, .var b2 [.val (.int .i64 a2)] 3, .var b3 [(eOP a3)] 27, .var b4 [.val (.bool a4)] 4, .var b5 [.val v8] 22, .var b6 [.val (.int .i64 a5)] 3, .var b7 [.val (.int .i64 res)] 3, .row v8 (List.map (eI .i64) a7) 1 3] | .inr (.inl res) => [.lp b0 .done (some (.ret)) [64, 65] rfA10_0 rfB10_0 [(14, .val (.pointer (some ⟨b7, 0, none⟩))), (9, .val (.pointer (some ⟨b6, 0, none⟩))), (8, .val (.pointer (some ⟨b5, 0, none⟩))), (6, .val (.pointer (some ⟨b4, 0, none⟩))), (5, .nod [.val (.int .u8 (a0.toNat : Int))])] 149, .var b1 [.val (.int .i64 a1)] 3, .var b2 [.val (.int .i64 a2)] 3, .var b3 [(eOP a3)] 27, .var b4 [.val (.bool res.1)] 4, .var b5 [.val v8] 22, .var b6 [.val (.int .i64 a5)] 3, .var b7 [.val (.int .i64 res.2)] 3, .row v8 (List.map (eI .i64) a7) 1 3] | .inr (.inr res) => [.lp b0 .done (some (.exit 2)) [64, 65] rfA10_0 rfB10_0 [(14, .val (.pointer (some ⟨b7, 0, none⟩))), (9, .val (.pointer (some ⟨b6, 0, none⟩))), (8, .val (.pointer (some ⟨b5, 0, none⟩))), (6, .val (.pointer (some ⟨b4, 0, none⟩))), (5, .nod [.val (.int .u8 (a0.toNat : Int))])] 149, .var b1 [.val (.int .i64 a1)] 3, .var b2 [.val (.int .i64 a2)] 3, .var b3 [(eOP a3)] 27, .var b4 [.val (.bool a4)] 4, .var b5 [.val v8] 22, .var b6 [.val (.int .i64 a5)] 3, .var b7 [.val (.int .i64 res)] 3, .row v8 (List.map (eI .i64) a7) 1 3])) := by
 unfold walk_Range_int_1_4 at h0
 refine CallF.mkG (X := X) rfl Try.func68 rfl rfl Try.ntmps68 rfl rfl ?_
 refine T.seq ?_
 refine T.seq ?_
 refine T.region ?_
 refine TL.op1 (OpR.loadPtr 1 rfl rfl rfl rfl) rfl ?_
 refine TL.op1 (OpR.loadPtr 2 rfl rfl rfl rfl) rfl ?_
 refine TL.op1 (OpR.pure rfl) rfl ?_
 refine TL.nil ?_
 show T X _ _ _
 rcases ite_some h0 with ⟨c1, h0⟩ | ⟨c1, h0⟩
 · refine T.condT rfl (beq_iff_eq.2 c1) ?_
   refine T.ret ?_
   obtain rfl := Option.some.inj h0
   exact PostG.retP (ks := [0, 1, 2, 3, 4, 5, 6, 7, 8]) (Gst.only [] rfl) undef ResL.nil rfl rfl rfl rfl
 refine T.condF rfl (beq_eq_false_iff_ne.2 c1) ?_
 refine T.skip ?_
 show T X _ _ _
 refine T.seq ?_
 refine T.region ?_
 refine TL.op (OpR.alloc rfl rfl (fun _ => rfl)) rfl (fun p2 => ?_)
 refine TL.nil ?_
 show T X _ _ _
 refine T.seq ?_
 obtain ⟨x4, hx4, h0⟩ := bnd_some h0
 rcases x4 with x4 | x4
 · dsimp only at h0
   exact (by cases h0)
 dsimp only at h0
 obtain ⟨x5, hx5, h0⟩ := bnd_some h0
 refine T.drawS drawsX (fun env3 => [.agg [(eOP a3)], .nod [.sl 1 (List.map eNP x4.1), .sl 1 (List.map (eI .i64) x4.2.1), .val (.int .i64 x4.2.2)], .val (.int .i64 a1), .tup []]) (fun D env3 => [.lp b0 .ready none [64, 65] rfA10_0 rfB10_0 [(14, .val (.pointer (some ⟨b7, 0, none⟩))), (9, .val (.pointer (some ⟨b6, 0, none⟩))), (8, .val (.pointer (some ⟨b5, 0, none⟩))), (6, .val (.pointer (some ⟨b4, 0, none⟩))), (5, .nod [.val (.int .u8 (a0.toNat : Int))])] 149, .var b1 [.val (.int .i64 a1)] 3, .var b2 [.val (.int .i64 a2)] 3, .var b3 [(eOP a3)] 27, .var b4 [.val (.bool a4)] 4, .var b5 [.val v8] 22, .var b6 [.val (.int .i64 a5)] 3, .var b7 [.val (.int .i64 a6)] 3, .row v8 (List.map (eI .i64) a7) 1 3, (bif D 3 then .var (blk p2) [.val (vn (env3 3) 0)] 109 else .var (blk p2) [.val (.slice none 0 0)] 109)] ++ (bif D 3 then [.row (vn (env3 3) 0) (List.map e_walk_frame_int x5) 3 114] else [])) [0, 1, 0, 7] [0, 1, 2, 3, 5, 9, 10, 11, 12, 13, 14, 15] (fun env3 => [.lp b0 .ready none [64, 65] rfA10_0 rfB10_0 [(14, .val (.pointer (some ⟨b7, 0, none⟩))), (9, .val (.pointer (some ⟨b6, 0, none⟩))), (8, .val (.pointer (some ⟨b5, 0, none⟩))), (6, .val (.pointer (some ⟨b4, 0, none⟩))), (5, .nod [.val (.int .u8 (a0.toNat : Int))])] 149, .var b1 [.val (.int .i64 a1)] 3, .var b2 [.val (.int .i64 a2)] 3, .var b3 [(eOP a3)] 27, .var b4 [.val (.bool a4)] 4, .var b5 [.val v8] 22, .var b6 [.val (.int .i64 a5)] 3, .var b7 [.val (.int .i64 a6)] 3, .row v8 (List.map (eI .i64) a7) 1 3, .var (blk p2) [.val (vn (env3 3) 0)] 109, .row (vn (env3 3) 0) (List.map e_walk_frame_int x5) 3 114]) (by decide +kernel) (by decide +kernel) (fun _ => rfl) (fun _ => rfl) ?_ (fun _ => rfl) (fun _ => rfl) ?_
 · refine oS (d := .agg [(eOP a3)]) (fun _ => Want.plain rfl) (fun _ => rfl) (fun _ _ _ => rfl) (fun _ _ => OpR.loadPtr 3 rfl rfl rfl rfl) (fun _ _ _ _ _ _ _ => rfl) ?_
   refine oS (d := .nod [.sl 1 (List.map eNP x4.1), .sl 1 (List.map (eI .i64) x4.2.1), .val (.int .i64 x4.2.2)]) (fun _ => Want.plain rfl) (fun _ => rfl) (fun _ _ _ => rfl) (fun _ _ => OpR.call0 fn46 (tree_Tree_int_Root_cx2 hx4) rfl) (fun _ _ _ _ _ _ _ => rfl) ?_
   refine oS (d := .val (.int .i64 a1)) (fun _ => Want.plain rfl) (fun _ => rfl) (fun _ _ _ => rfl) (fun _ _ => OpR.loadPtr 1 rfl rfl rfl rfl) (fun _ _ _ _ _ _ _ => rfl) ?_
   refine OpsS.cons' true ?_ (fun D hA env3 x j hj hD => match j, hj, hD with | 0, _, _ => rfl | 1, _, _ => rfl | 2, _, _ => rfl | 3, hj, _ => absurd rfl hj | _ + 4, _, _ => rfl) ?_
   · intro D env3 hA
     exact OpS.yes (o0 := [.lp b0 .ready none [64, 65] rfA10_0 rfB10_0 [(14, .val (.pointer (some ⟨b7, 0, none⟩))), (9, .val (.pointer (some ⟨b6, 0, none⟩))), (8, .val (.pointer (some ⟨b5, 0, none⟩))), (6, .val (.pointer (some ⟨b4, 0, none⟩))), (5, .nod [.val (.int .u8 (a0.toNat : Int))])] 149, .var b1 [.val (.int .i64 a1)] 3, .var b2 [.val (.int .i64 a2)] 3, .var b3 [(eOP a3)] 27, .var b4 [.val (.bool a4)] 4, .var b5 [.val v8] 22, .var b6 [.val (.int .i64 a5)] 3, .var b7 [.val (.int .i64 a6)] 3, .row v8 (List.map (eI .i64) a7) 1 3, .var (blk p2) [.val (.slice none 0 0)] 109]) (o1 := fun x => [.lp b0 .ready none [64, 65] rfA10_0 rfB10_0 [(14, .val (.pointer (some ⟨b7, 0, none⟩))), (9, .val (.pointer (some ⟨b6, 0, none⟩))), (8, .val (.pointer (some ⟨b5, 0, none⟩))), (6, .val (.pointer (some ⟨b4, 0, none⟩))), (5, .nod [.val (.int .u8 (a0.toNat : Int))])] 149, .var b1 [.val (.int .i64 a1)] 3, .var b2 [.val (.int .i64 a2)] 3, .var b3 [(eOP a3)] 27, .var b4 [.val (.bool a4)] 4, .var b5 [.val v8] 22, .var b6 [.val (.int .i64 a5)] 3, .var b7 [.val (.int .i64 a6)] 3, .row v8 (List.map (eI .i64) a7) 1 3, .var (blk p2) [.val (vn x 0)] 109, .row (vn x 0) (List.map e_walk_frame_int x5) 3 114]) (d := fun x => .tup []) (Want.plain rfl) (by first | rfl | simp only [hA.me, cond_true, cond_false, List.cons_append, List.nil_append, List.append_nil]) (fun x => by first | rfl | simp only [ins_self, upd_self, hA.me, cond_true, cond_false, List.cons_append, List.nil_append, List.append_nil]) (fun x => rfl) (OpR.call [9] fn69 (walk_stack_int_down_c hx5) rfl rfl rfl (fun _ => rfl))
   exact trivial
 intro env3
 show T X _ _ _
 refine T.seq ?_
 refine T.region ?_
 refine TL.op1 (OpR.loadPtr 1 rfl rfl rfl rfl) rfl ?_
 refine TL.op1 (OpR.pure rfl) rfl ?_
 refine TL.nil ?_
 show T X _ _ _
 obtain ⟨t6, ht6, h0⟩ := bnd_some h0
 refine T.cutN (fun S' => ∃ u7, t6 = Ex.brk u7 ∧ S' = ⟨[], [.lp b0 .ready none [64, 65] rfA10_0 rfB10_0 [(14, .val (.pointer (some ⟨b7, 0, none⟩))), (9, .val (.pointer (some ⟨b6, 0, none⟩))), (8, .val (.pointer (some ⟨b5, 0, none⟩))), (6, .val (.pointer (some ⟨b4, 0, none⟩))), (5, .nod [.val (.int .u8 (a0.toNat : Int))])] 149, .var b1 [.val (.int .i64 a1)] 3, .var b2 [.val (.int .i64 a2)] 3, .var b3 [(eOP a3)] 27, .var b4 [.val (.bool a4)] 4, .var b5 [.val v8] 22, .var b6 [.val (.int .i64 a5)] 3, .var b7 [.val (.int .i64 u7)] 3, .row v8 (List.map (eI .i64) a7) 1 3], 62⟩) (fun _ _ g ⟨h, S', ds, g', r⟩ => ⟨h, S', ds, Gst.trans g g', r⟩) ?_ ?_
 rotate_left
 · rintro _ ⟨u7, rfl, rfl⟩
   obtain rfl := Option.some.inj h0
   exact PostG.finP (ks := [0, 1, 2, 3, 4, 5, 6, 7, 8]) (Gst.only [] rfl) undef ResL.nil rfl rfl rfl rfl
 refine T.block ?_
 obtain ⟨n10, n15⟩ := loop_some ht6
 refine T.loop (fun n S' => ∃ S'', Gst S' S'' ∧ ∃ y8 : Value, ∃ s9 : Int × Int × (List walk_frame_int), S'' = ⟨[(6, .val (.int .i64 s9.1)), (5, .val (.pointer (some ⟨(blk p2), 0, none⟩))), (2, .val (.pointer (some ⟨b2, 0, none⟩))), (0, .fn (.yield b0) [] [])], [.lp b0 .ready none [64, 65] rfA10_0 rfB10_0 [(14, .val (.pointer (some ⟨b7, 0, none⟩))), (9, .val (.pointer (some ⟨b6, 0, none⟩))), (8, .val (.pointer (some ⟨b5, 0, none⟩))), (6, .val (.pointer (some ⟨b4, 0, none⟩))), (5, .nod [.val (.int .u8 (a0.toNat : Int))])] 149, .var b1 [.val (.int .i64 a1)] 3, .var b2 [.val (.int .i64 a2)] 3, .var b3 [(eOP a3)] 27, .var b4 [.val (.bool a4)] 4, .var b5 [.val v8] 22, .var b6 [.val (.int .i64 a5)] 3, .var b7 [.val (.int .i64 s9.2.1)] 3, .row v8 (List.map (eI .i64) a7) 1 3, .var (blk p2) [.val y8] 109, .row y8 (List.map e_walk_frame_int s9.2.2) 3 114], 62⟩ ∧ iter (walk_Range_int_1_4.l1 a0 a2 a4 a5 a7) n s9 = some t6) n10 ?_ ?_
 · exact ⟨_, Gst.only [0, 2, 5, 6] rfl, (vn (env3 3) 0), (a1, a6, x5), rfl, n15⟩
 rintro n10 _ ⟨_, g, y8, s9, rfl, i14⟩
 refine T.ghost g ?_
 obtain ⟨m11, q12, rfl, q13, i14⟩ := iter_succ i14
 unfold walk_Range_int_1_4.l1 at q13
 refine T.seq ?_
 refine T.seq ?_
 refine T.region ?_
 refine TL.op1 (OpR.pure rfl) rfl ?_
 refine TL.op1 (OpR.loadPtr 2 rfl rfl rfl rfl) rfl ?_
 refine TL.op1 (OpR.pure rfl) rfl ?_
 refine TL.nil ?_
 show T X _ _ _
 rcases ite_some q13 with ⟨c17, q13⟩ | ⟨c17, q13⟩
 rotate_left
 · refine T.condF rfl (decide_eq_false c17) ?_
   refine T.exit ?_
   obtain rfl := Option.some.inj q13
   obtain rfl : _ = _ := i14
   exact ⟨_, Gst.trans (Gst.only [] rfl) (Gst.pick [0, 1, 2, 3, 4, 5, 6, 7, 8] rfl rfl), _, rfl, rfl⟩
 refine T.condT rfl (decide_eq_true c17) ?_
 refine T.skip ?_
 show T X _ _ _
 refine T.seq ?_
 refine T.block ?_
 refine T.seq ?_
 refine T.seq ?_
 refine T.region ?_
 obtain ⟨x18, hx18, q13⟩ := bnd_some q13
 refine TL.op1 (OpR.call [9, 10] fn70 (walk_stack_int_top_c hx18) rfl rfl rfl (fun _ => rfl)) rfl ?_
 refine TL.op1 (OpR.pure rfl) rfl ?_
 refine TL.nil ?_
 show T X _ _ _
 refine T.seq ?_
 obtain ⟨x19, hx19, q13⟩ := bnd_some q13
 obtain ⟨q20, hq20, q13⟩ := bnd_some q13
 rcases q20 with _ | z21
 · dsimp only at q13
   exact (by cases q13)
 dsimp only at q13
 obtain ⟨x23, hx23, q13⟩ := bnd_some q13
 rw [o_tree_Node_int_eq hx23] at hq20
 refine T.drawQ drawsX [.val (.pointer (some ⟨blk y8, x18.toNat * 3, none⟩)), .val (.pointer (some ⟨blk y8, x18.toNat * 3, none⟩)), .val (.pointer (some ⟨blk y8, x18.toNat * 3 + 2, none⟩)), .val (.int .i64 x19.fNext), .val (.pointer (some ⟨blk y8, x18.toNat * 3, none⟩)), .val (.pointer (some ⟨blk y8, x18.toNat * 3, none⟩)), .val (.pointer (some ⟨blk y8, x18.toNat * 3, none⟩)), .nod [.sl 1 (List.map eNP x23.fKids), .sl 1 (List.map (eI .i64) x23.fItems), .val (.int .i64 x23.fN)], .nod [.sl 1 (List.map eNP x23.fKids), .sl 1 (List.map (eI .i64) x23.fItems), .val (.int .i64 x23.fN)], .nod [.sl 1 (List.map (eI .i64) x23.fItems), .val (.int .i64 x23.fN)], .sl 1 (List.map (eI .i64) x23.fItems), .val (.int .i64 (x23.fItems.length : Int)), .val (.bool (x19.fNext == (x23.fItems.length : Int)))] [0, 2, 5, 6, 7, 17, 18, 19, 22, 23, 24, 25, 26, 27, 28, 29, 30, 31, 32, 33, 34, 35] (by decide +kernel) rfl ?_ rfl ?_
 · refine OpsQ.yes (Want.plain rfl) rfl (OpR.pure rfl) ?_
   refine OpsQ.yes (Want.plain rfl) rfl (OpR.pure rfl) ?_
   refine OpsQ.yes (Want.plain rfl) rfl (OpR.pure rfl) ?_
   refine OpsQ.yes (Want.plain rfl) rfl (OpR.rowLoadM (j := x18) e_walk_frame_int 10 hx19 rfl rfl rfl rfl) ?_
   refine OpsQ.yes (Want.plain rfl) rfl (OpR.pure rfl) ?_
   refine OpsQ.yes (Want.plain rfl) rfl (OpR.pure rfl) ?_
   refine OpsQ.yes (Want.plain rfl) rfl (OpR.pure rfl) ?_
   refine OpsQ.yes (Want.plain rfl) rfl (OpR.cast (OpR.rowLoad0M (j := x18) e_walk_frame_int 10 hx19 rfl rfl rfl rfl) (congrArg eOP (Option.some.inj hq20))) ?_
   refine OpsQ.yes (Want.plain rfl) rfl (OpR.pure rfl) ?_
   refine OpsQ.yes (Want.plain rfl) rfl (OpR.pure rfl) ?_
   refine OpsQ.yes (Want.plain rfl) rfl (OpR.pure rfl) ?_
   refine OpsQ.yes (Want.plain rfl) rfl (OpR.cast (OpR.pure rfl) (intE (lenM _ _))) ?_
   refine OpsQ.yes (Want.plain rfl) rfl (OpR.pure rfl) ?_
   exact OpsQ.nil
 show T X _ _ _
 obtain ⟨t25, ht25, q13⟩ := bnd_some q13
 refine T.cutC (fun S' => ∃ y26 : Value, S' = ⟨[(6, .val (.int .i64 s9.1)), (5, .val (.pointer (some ⟨(blk p2), 0, none⟩))), (2, .val (.pointer (some ⟨b2, 0, none⟩))), (0, .fn (.yield b0) [] [])], [.lp b0 .ready none [64, 65] rfA10_0 rfB10_0 [(14, .val (.pointer (some ⟨b7, 0, none⟩))), (9, .val (.pointer (some ⟨b6, 0, none⟩))), (8, .val (.pointer (some ⟨b5, 0, none⟩))), (6, .val (.pointer (some ⟨b4, 0, none⟩))), (5, .nod [.val (.int .u8 (a0.toNat : Int))])] 149, .var b1 [.val (.int .i64 a1)] 3, .var b2 [.val (.int .i64 a2)] 3, .var b3 [(eOP a3)] 27, .var b4 [.val (.bool a4)] 4, .var b5 [.val v8] 22, .var b6 [.val (.int .i64 a5)] 3, .var b7 [.val (.int .i64 s9.2.1)] 3, .row v8 (List.map (eI .i64) a7) 1 3, .var (blk p2) [.val y26] 109, .row y26 (List.map e_walk_frame_int t25) 3 114], 62⟩) (fun _ h => h) ?_ ?_
 · rcases ite_some ht25 with ⟨c27, ht25⟩ | ⟨c27, ht25⟩
   rotate_left
   · refine T.condF rfl (beq_eq_false_iff_ne.2 c27) ?_
     refine T.skip ?_
     obtain rfl := Option.some.inj ht25
     exact ⟨_, Gst.only [0, 2, 5, 6] rfl, y8, rfl⟩
   refine T.condT rfl (beq_iff_eq.2 c27) ?_
   refine T.region ?_
   obtain ⟨x28, hx28, ht25⟩ := bnd_some ht25
   refine TL.op (OpR.call [9, 10] fn71 (walk_stack_int_forth_c hx28) rfl rfl rfl (fun _ => rfl)) rfl (fun w29 => ?_)
   refine TL.nil ?_
   obtain rfl := Option.some.inj ht25
   exact ⟨_, Gst.only [0, 2, 5, 6] rfl, (vn w29 0), rfl⟩
 rintro _ ⟨y26, rfl⟩
 show T X _ _ _
 refine T.seq ?_
 refine T.region ?_
 obtain ⟨x30, hx30, q13⟩ := bnd_some q13
 refine TL.op1 (OpR.call [9, 10] fn70 (walk_stack_int_top_c hx30) rfl rfl rfl (fun _ => rfl)) rfl ?_
 refine TL.op1 (OpR.pure rfl) rfl ?_
 refine TL.nil ?_
 show T X _ _ _
 refine T.seq ?_
 refine T.seq ?_
 obtain ⟨x31, hx31, q13⟩ := bnd_some q13
 obtain ⟨q32, hq32, q13⟩ := bnd_some q13
 rcases q32 with _ | z33
 · dsimp only at q13
   exact (by cases q13)
 dsimp only at q13
 obtain ⟨x35, hx35, q13⟩ := bnd_some q13
 rw [o_tree_Node_int_eq hx35] at hq32
 obtain ⟨x37, hx37, q13⟩ := bnd_some q13
 obtain ⟨x38, hx38, q13⟩ := bnd_some q13
 rcases x38 with x38 | (x38 | x38)
 · dsimp only at q13
   refine T.drawS drawsX (fun env36 => [.fn (.yield b0) [] [], .val (.int .i64 s9.1), .val (.pointer (some ⟨blk y26, x30.toNat * 3, none⟩)), .val (.pointer (some ⟨blk y26, x30.toNat * 3, none⟩)), .val (.pointer (some ⟨blk y26, x30.toNat * 3, none⟩)), .nod [.sl 1 (List.map eNP x35.fKids), .sl 1 (List.map (eI .i64) x35.fItems), .val (.int .i64 x35.fN)], .nod [.sl 1 (List.map eNP x35.fKids), .sl 1 (List.map (eI .i64) x35.fItems), .val (.int .i64 x35.fN)], .nod [.sl 1 (List.map (eI .i64) x35.fItems), .val (.int .i64 x35.fN)], .sl 1 (List.map (eI .i64) x35.fItems), .val (.pointer (some ⟨blk y26, x30.toNat * 3, none⟩)), .val (.pointer (some ⟨blk y26, x30.toNat * 3, none⟩)), .val (.pointer (some ⟨blk y26, x30.toNat * 3 + 2, none⟩)), .val (.int .i64 x31.fNext), .nod [.val (.int .i64 x37)], .val (.int .i64 x37), .val (.bool false), .val (.bool true)]) (fun D env36 => [(bif D 15 then .lp b0 .done (some (.ret)) [64, 65] rfA10_0 rfB10_0 [(14, .val (.pointer (some ⟨b7, 0, none⟩))), (9, .val (.pointer (some ⟨b6, 0, none⟩))), (8, .val (.pointer (some ⟨b5, 0, none⟩))), (6, .val (.pointer (some ⟨b4, 0, none⟩))), (5, .nod [.val (.int .u8 (a0.toNat : Int))])] 149 else .lp b0 .ready none [64, 65] rfA10_0 rfB10_0 [(14, .val (.pointer (some ⟨b7, 0, none⟩))), (9, .val (.pointer (some ⟨b6, 0, none⟩))), (8, .val (.pointer (some ⟨b5, 0, none⟩))), (6, .val (.pointer (some ⟨b4, 0, none⟩))), (5, .nod [.val (.int .u8 (a0.toNat : Int))])] 149), .var b1 [.val (.int .i64 a1)] 3, .var b2 [.val (.int .i64 a2)] 3, .var b3 [(eOP a3)] 27, (bif D 15 then .var b4 [.val (.bool x38)] 4 else .var b4 [.val (.bool a4)] 4), .var b5 [.val v8] 22, .var b6 [.val (.int .i64 a5)] 3, .var b7 [.val (.int .i64 s9.2.1)] 3, .row v8 (List.map (eI .i64) a7) 1 3, .var (blk p2) [.val y26] 109, .row y26 (List.map e_walk_frame_int t25) 3 114]) [0, 0, 0, 4, 12, 28, 60, 124, 252, 0, 512, 1536, 3584, 8188, 16380, 32767, 65535] [0, 2, 5, 6, 8, 37, 38, 39, 40, 41, 42, 43, 44, 45, 46, 47, 48, 49, 50, 51, 52, 53, 54] (fun env36 => [.lp b0 .done (some (.ret)) [64, 65] rfA10_0 rfB10_0 [(14, .val (.pointer (some ⟨b7, 0, none⟩))), (9, .val (.pointer (some ⟨b6, 0, none⟩))), (8, .val (.pointer (some ⟨b5, 0, none⟩))), (6, .val (.pointer (some ⟨b4, 0, none⟩))), (5, .nod [.val (.int .u8 (a0.toNat : Int))])] 149, .var b1 [.val (.int .i64 a1)] 3, .var b2 [.val (.int .i64 a2)] 3, .var b3 [(eOP a3)] 27, .var b4 [.val (.bool x38)] 4, .var b5 [.val v8] 22, .var b6 [.val (.int .i64 a5)] 3, .var b7 [.val (.int .i64 s9.2.1)] 3, .row v8 (List.map (eI .i64) a7) 1 3, .var (blk p2) [.val y26] 109, .row y26 (List.map e_walk_frame_int t25) 3 114]) (by decide +kernel) (by decide +kernel) (fun _ => rfl) (fun _ => rfl) ?_ (fun _ => rfl) (fun _ => rfl) ?_
   rotate_left
   · intro env36
     show T X _ _ _
     refine T.condT rfl rfl ?_
     refine T.ret ?_
     obtain rfl := Option.some.inj q13
     obtain rfl : _ = _ := i14
     obtain rfl := Option.some.inj h0
     exact PostG.retP (ks := [0, 1, 2, 3, 4, 5, 6, 7, 8]) (Gst.trans (Gst.only [] rfl) (Gst.pick [0, 1, 2, 3, 4, 5, 6, 7, 8] rfl rfl)) undef ResL.nil rfl rfl rfl rfl
   refine oS (d := .fn (.yield b0) [] []) (fun _ => Want.plain rfl) (fun _ => rfl) (fun _ _ _ => rfl) (fun _ _ => OpR.pure rfl) (fun _ _ _ _ _ _ _ => rfl) ?_
   refine oS (d := .val (.int .i64 s9.1)) (fun _ => Want.plain rfl) (fun _ => rfl) (fun _ _ _ => rfl) (fun _ _ => OpR.pure rfl) (fun _ _ _ _ _ _ _ => rfl) ?_
   refine oS (d := .val (.pointer (some ⟨blk y26, x30.toNat * 3, none⟩))) (fun _ => Want.plain rfl) (fun _ => rfl) (fun _ _ _ => rfl) (fun _ _ => OpR.pure rfl) (fun _ _ _ _ _ _ _ => rfl) ?_
   refine oS (d := .val (.pointer (some ⟨blk y26, x30.toNat * 3, none⟩))) (fun _ => Want.plain rfl) (fun _ => rfl) (fun _ _ _ => rfl) (fun _ _ => OpR.pure rfl) (fun _ _ _ _ _ _ _ => rfl) ?_
   refine oS (d := .val (.pointer (some ⟨blk y26, x30.toNat * 3, none⟩))) (fun _ => Want.plain rfl) (fun _ => rfl) (fun _ _ _ => rfl) (fun _ _ => OpR.pure rfl) (fun _ _ _ _ _ _ _ => rfl) ?_
   refine oS (d := .nod [.sl 1 (List.map eNP x35.fKids), .sl 1 (List.map (eI .i64) x35.fItems), .val (.int .i64 x35.fN)]) (fun _ => Want.plain rfl) (fun _ => rfl) (fun _ _ _ => rfl) (fun _ _ => OpR.cast (OpR.rowLoad0M (j := x30) e_walk_frame_int 10 hx31 rfl rfl rfl rfl) (congrArg eOP (Option.some.inj hq32))) (fun _ _ _ _ _ _ _ => rfl) ?_
   refine oS (d := .nod [.sl 1 (List.map eNP x35.fKids), .sl 1 (List.map (eI .i64) x35.fItems), .val (.int .i64 x35.fN)]) (fun _ => Want.plain rfl) (fun _ => rfl) (fun _ _ _ => rfl) (fun _ _ => OpR.pure rfl) (fun _ _ _ _ _ _ _ => rfl) ?_
   refine oS (d := .nod [.sl 1 (List.map (eI .i64) x35.fItems), .val (.int .i64 x35.fN)]) (fun _ => Want.plain rfl) (fun _ => rfl) (fun _ _ _ => rfl) (fun _ _ => OpR.pure rfl) (fun _ _ _ _ _ _ _ => rfl) ?_
   refine oS (d := .sl 1 (List.map (eI .i64) x35.fItems)) (fun _ => Want.plain rfl) (fun _ => rfl) (fun _ _ _ => rfl) (fun _ _ => OpR.pure rfl) (fun _ _ _ _ _ _ _ => rfl) ?_
   refine oS (d := .val (.pointer (some ⟨blk y26, x30.toNat * 3, none⟩))) (fun _ => Want.plain rfl) (fun _ => rfl) (fun _ _ _ => rfl) (fun _ _ => OpR.pure rfl) (fun _ _ _ _ _ _ _ => rfl) ?_
   refine oS (d := .val (.pointer (some ⟨blk y26, x30.toNat * 3, none⟩))) (fun _ => Want.plain rfl) (fun _ => rfl) (fun _ _ _ => rfl) (fun _ _ => OpR.pure rfl) (fun _ _ _ _ _ _ _ => rfl) ?_
   refine oS (d := .val (.pointer (some ⟨blk y26, x30.toNat * 3 + 2, none⟩))) (fun _ => Want.plain rfl) (fun _ => rfl) (fun _ _ _ => rfl) (fun _ _ => OpR.pure rfl) (fun _ _ _ _ _ _ _ => rfl) ?_
   refine oS (d := .val (.int .i64 x31.fNext)) (fun _ => Want.plain rfl) (fun _ => rfl) (fun _ _ _ => rfl) (fun _ _ => OpR.rowLoadM (j := x30) e_walk_frame_int 10 hx31 rfl rfl rfl rfl) (fun _ _ _ _ _ _ _ => rfl) ?_
   refine oS (d := .nod [.val (.int .i64 x37)]) (fun _ => Want.plain rfl) (fun _ => rfl) (fun _ _ _ => rfl) (fun _ _ => OpR.indexM (eI .i64) hx37 rfl rfl rfl rfl rfl) (fun _ _ _ _ _ _ _ => rfl) ?_
   refine oS (d := .val (.int .i64 x37)) (fun _ => Want.plain rfl) (fun _ => rfl) (fun _ _ _ => rfl) (fun _ _ => OpR.pure rfl) (fun _ _ _ _ _ _ _ => rfl) ?_
   refine OpsS.cons' true ?_ (fun _ _ _ _ _ _ _ => rfl) ?_
   · intro D env36 hA
     exact OpS.yes (o0 := [.lp b0 .ready none [64, 65] rfA10_0 rfB10_0 [(14, .val (.pointer (some ⟨b7, 0, none⟩))), (9, .val (.pointer (some ⟨b6, 0, none⟩))), (8, .val (.pointer (some ⟨b5, 0, none⟩))), (6, .val (.pointer (some ⟨b4, 0, none⟩))), (5, .nod [.val (.int .u8 (a0.toNat : Int))])] 149, .var b1 [.val (.int .i64 a1)] 3, .var b2 [.val (.int .i64 a2)] 3, .var b3 [(eOP a3)] 27, .var b4 [.val (.bool a4)] 4, .var b5 [.val v8] 22, .var b6 [.val (.int .i64 a5)] 3, .var b7 [.val (.int .i64 s9.2.1)] 3, .row v8 (List.map (eI .i64) a7) 1 3, .var (blk p2) [.val y26] 109, .row y26 (List.map e_walk_frame_int t25) 3 114]) (o1 := fun x => [.lp b0 .done (some (.ret)) [64, 65] rfA10_0 rfB10_0 [(14, .val (.pointer (some ⟨b7, 0, none⟩))), (9, .val (.pointer (some ⟨b6, 0, none⟩))), (8, .val (.pointer (some ⟨b5, 0, none⟩))), (6, .val (.pointer (some ⟨b4, 0, none⟩))), (5, .nod [.val (.int .u8 (a0.toNat : Int))])] 149, .var b1 [.val (.int .i64 a1)] 3, .var b2 [.val (.int .i64 a2)] 3, .var b3 [(eOP a3)] 27, .var b4 [.val (.bool x38)] 4, .var b5 [.val v8] 22, .var b6 [.val (.int .i64 a5)] 3, .var b7 [.val (.int .i64 s9.2.1)] 3, .row v8 (List.map (eI .i64) a7) 1 3, .var (blk p2) [.val y26] 109, .row y26 (List.map e_walk_frame_int t25) 3 114]) (d := fun x => .val (.bool false)) (Want.plain rfl) (by first | rfl | simp only [hA.me, cond_true, cond_false, List.cons_append, List.nil_append, List.append_nil]) (fun x => by first | rfl | simp only [ins_self, upd_self, hA.me, cond_true, cond_false, List.cons_append, List.nil_append, List.append_nil]) (fun x => rfl) (OpR.callY [0, 4, 5, 6, 7, 8] rfl (law10_WalkGoes_r0_cx1 hx38) rfl rfl rfl (fun _ => rfl))
   refine oS (d := .val (.bool true)) (fun _ => Want.plain rfl) (fun _ => rfl) (fun _ _ _ => rfl) (fun _ _ => OpR.pure rfl) (fun _ _ _ _ _ _ _ => rfl) ?_
   exact trivial
 · dsimp only at q13
   refine T.drawS drawsX (fun env36 => [.fn (.yield b0) [] [], .val (.int .i64 s9.1), .val (.pointer (some ⟨blk y26, x30.toNat * 3, none⟩)), .val (.pointer (some ⟨blk y26, x30.toNat * 3, none⟩)), .val (.pointer (some ⟨blk y26, x30.toNat * 3, none⟩)), .nod [.sl 1 (List.map eNP x35.fKids), .sl 1 (List.map (eI .i64) x35.fItems), .val (.int .i64 x35.fN)], .nod [.sl 1 (List.map eNP x35.fKids), .sl 1 (List.map (eI .i64) x35.fItems), .val (.int .i64 x35.fN)], .nod [.sl 1 (List.map (eI .i64) x35.fItems), .val (.int .i64 x35.fN)], .sl 1 (List.map (eI .i64) x35.fItems), .val (.pointer (some ⟨blk y26, x30.toNat * 3, none⟩)), .val (.pointer (some ⟨blk y26, x30.toNat * 3, none⟩)), .val (.pointer (some ⟨blk y26, x30.toNat * 3 + 2, none⟩)), .val (.int .i64 x31.fNext), .nod [.val (.int .i64 x37)], .val (.int .i64 x37), .val (.bool false), .val (.bool true)]) (fun D env36 => [(bif D 15 then .lp b0 .done (some (.exit 2)) [64, 65] rfA10_0 rfB10_0 [(14, .val (.pointer (some ⟨b7, 0, none⟩))), (9, .val (.pointer (some ⟨b6, 0, none⟩))), (8, .val (.pointer (some ⟨b5, 0, none⟩))), (6, .val (.pointer (some ⟨b4, 0, none⟩))), (5, .nod [.val (.int .u8 (a0.toNat : Int))])] 149 else .lp b0 .ready none [64, 65] rfA10_0 rfB10_0 [(14, .val (.pointer (some ⟨b7, 0, none⟩))), (9, .val (.pointer (some ⟨b6, 0, none⟩))), (8, .val (.pointer (some ⟨b5, 0, none⟩))), (6, .val (.pointer (some ⟨b4, 0, none⟩))), (5, .nod [.val (.int .u8 (a0.toNat : Int))])] 149), .var b1 [.val (.int .i64 a1)] 3, .var b2 [.val (.int .i64 a2)] 3, .var b3 [(eOP a3)] 27, .var b4 [.val (.bool a4)] 4, .var b5 [.val v8] 22, .var b6 [.val (.int .i64 a5)] 3, (bif D 15 then .var b7 [.val (.int .i64 x38)] 3 else .var b7 [.val (.int .i64 s9.2.1)] 3), .row v8 (List.map (eI .i64) a7) 1 3, .var (blk p2) [.val y26] 109, .row y26 (List.map e_walk_frame_int t25) 3 114]) [0, 0, 0, 4, 12, 28, 60, 124, 252, 0, 512, 1536, 3584, 8188, 16380, 32767, 65535] [0, 2, 5, 6, 8, 37, 38, 39, 40, 41, 42, 43, 44, 45, 46, 47, 48, 49, 50, 51, 52, 53, 54] (fun env36 => [.lp b0 .done (some (.exit 2)) [64, 65] rfA10_0 rfB10_0 [(14, .val (.pointer (some ⟨b7, 0, none⟩))), (9, .val (.pointer (some ⟨b6, 0, none⟩))), (8, .val (.pointer (some ⟨b5, 0, none⟩))), (6, .val (.pointer (some ⟨b4, 0, none⟩))), (5, .nod [.val (.int .u8 (a0.toNat : Int))])] 149, .var b1 [.val (.int .i64 a1)] 3, .var b2 [.val (.int .i64 a2)] 3, .var b3 [(eOP a3)] 27, .var b4 [.val (.bool a4)] 4, .var b5 [.val v8] 22, .var b6 [.val (.int .i64 a5)] 3, .var b7 [.val (.int .i64 x38)] 3, .row v8 (List.map (eI .i64) a7) 1 3, .var (blk p2) [.val y26] 109, .row y26 (List.map e_walk_frame_int t25) 3 114]) (by decide +kernel) (by decide +kernel) (fun _ => rfl) (fun _ => rfl) ?_ (fun _ => rfl) (fun _ => rfl) ?_
   rotate_left
   · intro env36
     show T X _ _ _
     refine T.condT rfl rfl ?_
     refine T.ret ?_
     obtain rfl := Option.some.inj q13
     obtain rfl : _ = _ := i14
     obtain rfl := Option.some.inj h0
     exact PostG.retP (ks := [0, 1, 2, 3, 4, 5, 6, 7, 8]) (Gst.trans (Gst.only [] rfl) (Gst.pick [0, 1, 2, 3, 4, 5, 6, 7, 8] rfl rfl)) undef ResL.nil rfl rfl rfl rfl
   refine oS (d := .fn (.yield b0) [] []) (fun _ => Want.plain rfl) (fun _ => rfl) (fun _ _ _ => rfl) (fun _ _ => OpR.pure rfl) (fun _ _ _ _ _ _ _ => rfl) ?_
   refine oS (d := .val (.int .i64 s9.1)) (fun _ => Want.plain rfl) (fun _ => rfl) (fun _ _ _ => rfl) (fun _ _ => OpR.pure rfl) (fun _ _ _ _ _ _ _ => rfl) ?_
   refine oS (d := .val (.pointer (some ⟨blk y26, x30.toNat * 3, none⟩))) (fun _ => Want.plain rfl) (fun _ => rfl) (fun _ _ _ => rfl) (fun _ _ => OpR.pure rfl) (fun _ _ _ _ _ _ _ => rfl) ?_
   refine oS (d := .val (.pointer (some ⟨blk y26, x30.toNat * 3, none⟩))) (fun _ => Want.plain rfl) (fun _ => rfl) (fun _ _ _ => rfl) (fun _ _ => OpR.pure rfl) (fun _ _ _ _ _ _ _ => rfl) ?_
   refine oS (d := .val (.pointer (some ⟨blk y26, x30.toNat * 3, none⟩))) (fun _ => Want.plain rfl) (fun _ => rfl) (fun _ _ _ => rfl) (fun _ _ => OpR.pure rfl) (fun _ _ _ _ _ _ _ => rfl) ?_
   refine oS (d := .nod [.sl 1 (List.map eNP x35.fKids), .sl 1 (List.map (eI .i64) x35.fItems), .val (.int .i64 x35.fN)]) (fun _ => Want.plain rfl) (fun _ => rfl) (fun _ _ _ => rfl) (fun _ _ => OpR.cast (OpR.rowLoad0M (j := x30) e_walk_frame_int 10 hx31 rfl rfl rfl rfl) (congrArg eOP (Option.some.inj hq32))) (fun _ _ _ _ _ _ _ => rfl) ?_
   refine oS (d := .nod [.sl 1 (List.map eNP x35.fKids), .sl 1 (List.map (eI .i64) x35.fItems), .val (.int .i64 x35.fN)]) (fun _ => Want.plain rfl) (fun _ => rfl) (fun _ _ _ => rfl) (fun _ _ => OpR.pure rfl) (fun _ _ _ _ _ _ _ => rfl) ?_
   refine oS (d := .nod [.sl 1 (List.map (eI .i64) x35.fItems), .val (.int .i64 x35.fN)]) (fun _ => Want.plain rfl) (fun _ => rfl) (fun _ _ _ => rfl) (fun _ _ => OpR.pure rfl) (fun _ _ _ _ _ _ _ => rfl) ?_
   refine oS (d := .sl 1 (List.map (eI .i64) x35.fItems)) (fun _ => Want.plain rfl) (fun _ => rfl) (fun _ _ _ => rfl) (fun _ _ => OpR.pure rfl) (fun _ _ _ _ _ _ _ => rfl) ?_
   refine oS (d := .val (.pointer (some ⟨blk y26, x30.toNat * 3, none⟩))) (fun _ => Want.plain rfl) (fun _ => rfl) (fun _ _ _ => rfl) (fun _ _ => OpR.pure rfl) (fun _ _ _ _ _ _ _ => rfl) ?_
   refine oS (d := .val (.pointer (some ⟨blk y26, x30.toNat * 3, none⟩))) (fun _ => Want.plain rfl) (fun _ => rfl) (fun _ _ _ => rfl) (fun _ _ => OpR.pure rfl) (fun _ _ _ _ _ _ _ => rfl) ?_
   refine oS (d := .val (.pointer (some ⟨blk y26, x30.toNat * 3 + 2, none⟩))) (fun _ => Want.plain rfl) (fun _ => rfl) (fun _ _ _ => rfl) (fun _ _ => OpR.pure rfl) (fun _ _ _ _ _ _ _ => rfl) ?_
   refine oS (d := .val (.int .i64 x31.fNext)) (fun _ => Want.plain rfl) (fun _ => rfl) (fun _ _ _ => rfl) (fun _ _ => OpR.rowLoadM (j := x30) e_walk_frame_int 10 hx31 rfl rfl rfl rfl) (fun _ _ _ _ _ _ _ => rfl) ?_
   refine oS (d := .nod [.val (.int .i64 x37)]) (fun _ => Want.plain rfl) (fun _ => rfl) (fun _ _ _ => rfl) (fun _ _ => OpR.indexM (eI .i64) hx37 rfl rfl rfl rfl rfl) (fun _ _ _ _ _ _ _ => rfl) ?_
   refine oS (d := .val (.int .i64 x37)) (fun _ => Want.plain rfl) (fun _ => rfl) (fun _ _ _ => rfl) (fun _ _ => OpR.pure rfl) (fun _ _ _ _ _ _ _ => rfl) ?_
   refine OpsS.cons' true ?_ (fun _ _ _ _ _ _ _ => rfl) ?_
   · intro D env36 hA
     exact OpS.yes (o0 := [.lp b0 .ready none [64, 65] rfA10_0 rfB10_0 [(14, .val (.pointer (some ⟨b7, 0, none⟩))), (9, .val (.pointer (some ⟨b6, 0, none⟩))), (8, .val (.pointer (some ⟨b5, 0, none⟩))), (6, .val (.pointer (some ⟨b4, 0, none⟩))), (5, .nod [.val (.int .u8 (a0.toNat : Int))])] 149, .var b1 [.val (.int .i64 a1)] 3, .var b2 [.val (.int .i64 a2)] 3, .var b3 [(eOP a3)] 27, .var b4 [.val (.bool a4)] 4, .var b5 [.val v8] 22, .var b6 [.val (.int .i64 a5)] 3, .var b7 [.val (.int .i64 s9.2.1)] 3, .row v8 (List.map (eI .i64) a7) 1 3, .var (blk p2) [.val y26] 109, .row y26 (List.map e_walk_frame_int t25) 3 114]) (o1 := fun x => [.lp b0 .done (some (.exit 2)) [64, 65] rfA10_0 rfB10_0 [(14, .val (.pointer (some ⟨b7, 0, none⟩))), (9, .val (.pointer (some ⟨b6, 0, none⟩))), (8, .val (.pointer (some ⟨b5, 0, none⟩))), (6, .val (.pointer (some ⟨b4, 0, none⟩))), (5, .nod [.val (.int .u8 (a0.toNat : Int))])] 149, .var b1 [.val (.int .i64 a1)] 3, .var b2 [.val (.int .i64 a2)] 3, .var b3 [(eOP a3)] 27, .var b4 [.val (.bool a4)] 4, .var b5 [.val v8] 22, .var b6 [.val (.int .i64 a5)] 3, .var b7 [.val (.int .i64 x38)] 3, .row v8 (List.map (eI .i64) a7) 1 3, .var (blk p2) [.val y26] 109, .row y26 (List.map e_walk_frame_int t25) 3 114]) (d := fun x => .val (.bool false)) (Want.plain rfl) (by first | rfl | simp only [hA.me, cond_true, cond_false, List.cons_append, List.nil_append, List.append_nil]) (fun x => by first | rfl | simp only [ins_self, upd_self, hA.me, cond_true, cond_false, List.cons_append, List.nil_append, List.append_nil]) (fun x => rfl) (OpR.callY [0, 4, 5, 6, 7, 8] rfl (law10_WalkGoes_r0_cx2 hx38) rfl rfl rfl (fun _ => rfl))
   refine oS (d := .val (.bool true)) (fun _ => Want.plain rfl) (fun _ => rfl) (fun _ _ _ => rfl) (fun _ _ => OpR.pure rfl) (fun _ _ _ _ _ _ _ => rfl) ?_
   exact trivial
 dsimp only at q13
 refine T.drawS drawsX (fun env36 => [.fn (.yield b0) [] [], .val (.int .i64 s9.1), .val (.pointer (some ⟨blk y26, x30.toNat * 3, none⟩)), .val (.pointer (some ⟨blk y26, x30.toNat * 3, none⟩)), .val (.pointer (some ⟨blk y26, x30.toNat * 3, none⟩)), .nod [.sl 1 (List.map eNP x35.fKids), .sl 1 (List.map (eI .i64) x35.fItems), .val (.int .i64 x35.fN)], .nod [.sl 1 (List.map eNP x35.fKids), .sl 1 (List.map (eI .i64) x35.fItems), .val (.int .i64 x35.fN)], .nod [.sl 1 (List.map (eI .i64) x35.fItems), .val (.int .i64 x35.fN)], .sl 1 (List.map (eI .i64) x35.fItems), .val (.pointer (some ⟨blk y26, x30.toNat * 3, none⟩)), .val (.pointer (some ⟨blk y26, x30.toNat * 3, none⟩)), .val (.pointer (some ⟨blk y26, x30.toNat * 3 + 2, none⟩)), .val (.int .i64 x31.fNext), .nod [.val (.int .i64 x37)], .val (.int .i64 x37), .val (.bool true), .val (.bool false)]) (fun D env36 => [.lp b0 .ready none [64, 65] rfA10_0 rfB10_0 [(14, .val (.pointer (some ⟨b7, 0, none⟩))), (9, .val (.pointer (some ⟨b6, 0, none⟩))), (8, .val (.pointer (some ⟨b5, 0, none⟩))), (6, .val (.pointer (some ⟨b4, 0, none⟩))), (5, .nod [.val (.int .u8 (a0.toNat : Int))])] 149, .var b1 [.val (.int .i64 a1)] 3, .var b2 [.val (.int .i64 a2)] 3, .var b3 [(eOP a3)] 27, .var b4 [.val (.bool a4)] 4, .var b5 [.val v8] 22, .var b6 [.val (.int .i64 a5)] 3, (bif D 15 then .var b7 [.val (.int .i64 x38)] 3 else .var b7 [.val (.int .i64 s9.2.1)] 3), .row v8 (List.map (eI .i64) a7) 1 3, .var (blk p2) [.val y26] 109, .row y26 (List.map e_walk_frame_int t25) 3 114]) [0, 0, 0, 4, 12, 28, 60, 124, 252, 0, 512, 1536, 3584, 8188, 16380, 32767, 65535] [0, 2, 5, 6, 8, 37, 38, 39, 40, 41, 42, 43, 44, 45, 46, 47, 48, 49, 50, 51, 52, 53, 54] (fun env36 => [.lp b0 .ready none [64, 65] rfA10_0 rfB10_0 [(14, .val (.pointer (some ⟨b7, 0, none⟩))), (9, .val (.pointer (some ⟨b6, 0, none⟩))), (8, .val (.pointer (some ⟨b5, 0, none⟩))), (6, .val (.pointer (some ⟨b4, 0, none⟩))), (5, .nod [.val (.int .u8 (a0.toNat : Int))])] 149, .var b1 [.val (.int .i64 a1)] 3, .var b2 [.val (.int .i64 a2)] 3, .var b3 [(eOP a3)] 27, .var b4 [.val (.bool a4)] 4, .var b5 [.val v8] 22, .var b6 [.val (.int .i64 a5)] 3, .var b7 [.val (.int .i64 x38)] 3, .row v8 (List.map (eI .i64) a7) 1 3, .var (blk p2) [.val y26] 109, .row y26 (List.map e_walk_frame_int t25) 3 114]) (by decide +kernel) (by decide +kernel) (fun _ => rfl) (fun _ => rfl) ?_ (fun _ => rfl) (fun _ => rfl) ?_
 rotate_left
 · intro env36
   show T X _ _ _
   refine T.condF rfl rfl ?_
   refine T.skip ?_
   show T X _ _ _
   refine T.region ?_
   refine TL.op1 (OpR.pure rfl) rfl ?_
   refine TL.op1 (OpR.pure rfl) rfl ?_
   refine TL.op1 (OpR.pure rfl) rfl ?_
   refine TL.op1 (OpR.rowLoadM (j := x30) e_walk_frame_int 10 hx31 rfl rfl rfl rfl) rfl ?_
   refine TL.op1 (OpR.pure rfl) rfl ?_
   refine TL.op1 (OpR.pure rfl) rfl ?_
   refine TL.op1 (OpR.pure rfl) rfl ?_
   refine TL.op0 (OpR.rowStoreM (j := x30) e_walk_frame_int (⟨x31.fN, x31.fFirst, w64 (x31.fNext + 1)⟩ : walk_frame_int) 10 hx31 rfl rfl rfl rfl rfl rfl rfl rfl rfl) ?_
   refine TL.nil ?_
   show T X _ _ _
   refine T.region ?_
   refine TL.op1 (OpR.pure rfl) rfl ?_
   refine TL.op1 (OpR.pure rfl) rfl ?_
   refine TL.op1 (OpR.pure rfl) rfl ?_
   refine TL.nil ?_
   obtain rfl := Option.some.inj q13
   exact ⟨m11, Nat.lt_succ_self _, _, Gst.only [0, 2, 5, 6] rfl, y26, (w64 (s9.1 + 1), x38, (t25.set x30.toNat (⟨x31.fN, x31.fFirst, w64 (x31.fNext + 1)⟩ : walk_frame_int))), rfl, i14⟩
 refine oS (d := .fn (.yield b0) [] []) (fun _ => Want.plain rfl) (fun _ => rfl) (fun _ _ _ => rfl) (fun _ _ => OpR.pure rfl) (fun _ _ _ _ _ _ _ => rfl) ?_
 refine oS (d := .val (.int .i64 s9.1)) (fun _ => Want.plain rfl) (fun _ => rfl) (fun _ _ _ => rfl) (fun _ _ => OpR.pure rfl) (fun _ _ _ _ _ _ _ => rfl) ?_
 refine oS (d := .val (.pointer (some ⟨blk y26, x30.toNat * 3, none⟩))) (fun _ => Want.plain rfl) (fun _ => rfl) (fun _ _ _ => rfl) (fun _ _ => OpR.pure rfl) (fun _ _ _ _ _ _ _ => rfl) ?_
 refine oS (d := .val (.pointer (some ⟨blk y26, x30.toNat * 3, none⟩))) (fun _ => Want.plain rfl) (fun _ => rfl) (fun _ _ _ => rfl) (fun _ _ => OpR.pure rfl) (fun _ _ _ _ _ _ _ => rfl) ?_
 refine oS (d := .val (.pointer (some ⟨blk y26, x30.toNat * 3, none⟩))) (fun _ => Want.plain rfl) (fun _ => rfl) (fun _ _ _ => rfl) (fun _ _ => OpR.pure rfl) (fun _ _ _ _ _ _ _ => rfl) ?_
 refine oS (d := .nod [.sl 1 (List.map eNP x35.fKids), .sl 1 (List.map (eI .i64) x35.fItems), .val (.int .i64 x35.fN)]) (fun _ => Want.plain rfl) (fun _ => rfl) (fun _ _ _ => rfl) (fun _ _ => OpR.cast (OpR.rowLoad0M (j := x30) e_walk_frame_int 10 hx31 rfl rfl rfl rfl) (congrArg eOP (Option.some.inj hq32))) (fun _ _ _ _ _ _ _ => rfl) ?_
 refine oS (d := .nod [.sl 1 (List.map eNP x35.fKids), .sl 1 (List.map (eI .i64) x35.fItems), .val (.int .i64 x35.fN)]) (fun _ => Want.plain rfl) (fun _ => rfl) (fun _ _ _ => rfl) (fun _ _ => OpR.pure rfl) (fun _ _ _ _ _ _ _ => rfl) ?_
 refine oS (d := .nod [.sl 1 (List.map (eI .i64) x35.fItems), .val (.int .i64 x35.fN)]) (fun _ => Want.plain rfl) (fun _ => rfl) (fun _ _ _ => rfl) (fun _ _ => OpR.pure rfl) (fun _ _ _ _ _ _ _ => rfl) ?_
 refine oS (d := .sl 1 (List.map (eI .i64) x35.fItems)) (fun _ => Want.plain rfl) (fun _ => rfl) (fun _ _ _ => rfl) (fun _ _ => OpR.pure rfl) (fun _ _ _ _ _ _ _ => rfl) ?_
 refine oS (d := .val (.pointer (some ⟨blk y26, x30.toNat * 3, none⟩))) (fun _ => Want.plain rfl) (fun _ => rfl) (fun _ _ _ => rfl) (fun _ _ => OpR.pure rfl) (fun _ _ _ _ _ _ _ => rfl) ?_
 refine oS (d := .val (.pointer (some ⟨blk y26, x30.toNat * 3, none⟩))) (fun _ => Want.plain rfl) (fun _ => rfl) (fun _ _ _ => rfl) (fun _ _ => OpR.pure rfl) (fun _ _ _ _ _ _ _ => rfl) ?_
 refine oS (d := .val (.pointer (some ⟨blk y26, x30.toNat * 3 + 2, none⟩))) (fun _ => Want.plain rfl) (fun _ => rfl) (fun _ _ _ => rfl) (fun _ _ => OpR.pure rfl) (fun _ _ _ _ _ _ _ => rfl) ?_
 refine oS (d := .val (.int .i64 x31.fNext)) (fun _ => Want.plain rfl) (fun _ => rfl) (fun _ _ _ => rfl) (fun _ _ => OpR.rowLoadM (j := x30) e_walk_frame_int 10 hx31 rfl rfl rfl rfl) (fun _ _ _ _ _ _ _ => rfl) ?_
 refine oS (d := .nod [.val (.int .i64 x37)]) (fun _ => Want.plain rfl) (fun _ => rfl) (fun _ _ _ => rfl) (fun _ _ => OpR.indexM (eI .i64) hx37 rfl rfl rfl rfl rfl) (fun _ _ _ _ _ _ _ => rfl) ?_
 refine oS (d := .val (.int .i64 x37)) (fun _ => Want.plain rfl) (fun _ => rfl) (fun _ _ _ => rfl) (fun _ _ => OpR.pure rfl) (fun _ _ _ _ _ _ _ => rfl) ?_
 refine OpsS.cons' true ?_ (fun _ _ _ _ _ _ _ => rfl) ?_
 · intro D env36 hA
   exact OpS.yes (o0 := [.lp b0 .ready none [64, 65] rfA10_0 rfB10_0 [(14, .val (.pointer (some ⟨b7, 0, none⟩))), (9, .val (.pointer (some ⟨b6, 0, none⟩))), (8, .val (.pointer (some ⟨b5, 0, none⟩))), (6, .val (.pointer (some ⟨b4, 0, none⟩))), (5, .nod [.val (.int .u8 (a0.toNat : Int))])] 149, .var b1 [.val (.int .i64 a1)] 3, .var b2 [.val (.int .i64 a2)] 3, .var b3 [(eOP a3)] 27, .var b4 [.val (.bool a4)] 4, .var b5 [.val v8] 22, .var b6 [.val (.int .i64 a5)] 3, .var b7 [.val (.int .i64 s9.2.1)] 3, .row v8 (List.map (eI .i64) a7) 1 3, .var (blk p2) [.val y26] 109, .row y26 (List.map e_walk_frame_int t25) 3 114]) (o1 := fun x => [.lp b0 .ready none [64, 65] rfA10_0 rfB10_0 [(14, .val (.pointer (some ⟨b7, 0, none⟩))), (9, .val (.pointer (some ⟨b6, 0, none⟩))), (8, .val (.pointer (some ⟨b5, 0, none⟩))), (6, .val (.pointer (some ⟨b4, 0, none⟩))), (5, .nod [.val (.int .u8 (a0.toNat : Int))])] 149, .var b1 [.val (.int .i64 a1)] 3, .var b2 [.val (.int .i64 a2)] 3, .var b3 [(eOP a3)] 27, .var b4 [.val (.bool a4)] 4, .var b5 [.val v8] 22, .var b6 [.val (.int .i64 a5)] 3, .var b7 [.val (.int .i64 x38)] 3, .row v8 (List.map (eI .i64) a7) 1 3, .var (blk p2) [.val y26] 109, .row y26 (List.map e_walk_frame_int t25) 3 114]) (d := fun x => .val (.bool true)) (Want.plain rfl) (by first | rfl | simp only [hA.me, cond_true, cond_false, List.cons_append, List.nil_append, List.append_nil]) (fun x => by first | rfl | simp only [ins_self, upd_self, hA.me, cond_true, cond_false, List.cons_append, List.nil_append, List.append_nil]) (fun x => rfl) (OpR.callY [0, 4, 5, 6, 7, 8] rfl (law10_WalkGoes_r0_cx3 hx38) rfl rfl rfl (fun _ => rfl))
 refine oS (d := .val (.bool false)) (fun _ => Want.plain rfl) (fun _ => rfl) (fun _ _ _ => rfl) (fun _ _ => OpR.pure rfl) (fun _ _ _ _ _ _ _ => rfl) ?_
 exact trivial
theorem walk_Range_int_1_4_cx1 {a0 : UInt8} {a1 : Int} {a2 : Int} {a3 : Option NP} {a4 : Bool} {a5 : Int} {a6 : Int} {a7 : List Int} {b0 : Nat} {b1 : Nat} {b2 : Nat} {b3 : Nat} {b4 : Nat} {b5 : Nat} {b6 : Nat} {b7 : Nat} {v8 : Value} {res : Int} (h0 : walk_Range_int_1_4 a0 a1 a2 a3 a4 a5 a6 a7 = some (Sum.inl res)) : CallF X 68 [.fn (.yield b0) [] [], .val (.pointer (some ⟨b1, 0, none⟩)), .val (.pointer (some ⟨b2, 0, none⟩)), .val (.pointer (some ⟨b3, 0, none⟩))] [.lp b0 .ready none [64, 65] rfA10_0 rfB10_0 [(14, .val (.pointer (some ⟨b7, 0, none⟩))), (9, .val (.pointer (some ⟨b6, 0, none⟩))), (8, .val (.pointer (some ⟨b5, 0, none⟩))), (6, .val (.pointer (some ⟨b4, 0, none⟩))), (5, .nod [.val (.int .u8 (a0.toNat : Int))])] 149, .var b1 [.val (.int .i64 a1)] 3, .var b2 [.val (.int .i64 a2)] 3, .var b3 [(eOP a3)] 27, .var b4 [.val (.bool a4)] 4, .var b5 [.val v8] 22, .var b6 [.val (.int .i64 a5)] 3, .var b7 [.val (.int .i64 a6)] 3, .row v8 (List.map (eI .i64) a7) 1 3] (fun x => .tup []) (fun x => [.lp b0 .ready none [64, 65] rfA10_0 rfB10_0 [(14, .val (.pointer (some ⟨b7, 0, none⟩))), (9, .val (.pointer (some ⟨b6, 0, none⟩))), (8, .val (.pointer (some ⟨b5, 0, none⟩))), (6, .val (.pointer (some ⟨b4, 0, none⟩))), (5, .nod [.val (.int .u8 (a0.toNat : Int))])] 149, .var b1 [.val (.int .i64 a1)] 3, .var b2 [.val (.int .i64 a2)] 3, .var b3 [(eOP a3)] 27, .var b4 [.val (.bool a4)] 4, .var b5 [.val v8] 22, .var b6 [.val (.int .i64 a5)] 3, .var b7 [.val (.int .i64 res)] 3, .row v8 (List.map (eI .i64) a7) 1 3]) := walk_Range_int_1_4_c h0
theorem walk_Range_int_1_4_cx2 {a0 : UInt8} {a1 : Int} {a2 : Int} {a3 : Option NP} {a4 : Bool} {a5 : Int} {a6 : Int} {a7 : List Int} {b0 : Nat} {b1 : Nat} {b2 : Nat} {b3 : Nat} {b4 : Nat} {b5 : Nat} {b6 : Nat} {b7 : Nat} {v8 : Value} {res : Bool × Int} (h0 : walk_Range_int_1_4 a0 a1 a2 a3 a4 a5 a6 a7 = some (Sum.inr (Sum.inl res))) : CallF X 68 [.fn (.yield b0) [] [], .val (.pointer (some ⟨b1, 0, none⟩)), .val (.pointer (some ⟨b2, 0, none⟩)), .val (.pointer (some ⟨b3, 0, none⟩))] [.lp b0 .ready none [64, 65] rfA10_0 rfB10_0 [(14, .val (.pointer (some ⟨b7, 0, none⟩))), (9, .val (.pointer (some ⟨b6, 0, none⟩))), (8, .val (.pointer (some ⟨b5, 0, none⟩))), (6, .val (.pointer (some ⟨b4, 0, none⟩))), (5, .nod [.val (.int .u8 (a0.toNat : Int))])] 149, .var b1 [.val (.int .i64 a1)] 3, .var b2 [.val (.int .i64 a2)] 3, .var b3 [(eOP a3)] 27, .var b4 [.val (.bool a4)] 4, .var b5 [.val v8] 22, .var b6 [.val (.int .i64 a5)] 3, .var b7 [.val (.int .i64 a6)] 3, .row v8 (List.map (eI .i64) a7) 1 3] (fun x => .tup []) (fun x => [.lp b0 .done (some (.ret)) [64, 65] rfA10_0 rfB10_0 [(14, .val (.pointer (some ⟨b7, 0, none⟩))), (9, .val (.pointer (some ⟨b6, 0, none⟩))), (8, .val (.pointer (some ⟨b5, 0, none⟩))), (6, .val (.pointer (some ⟨b4, 0, none⟩))), (5, .nod [.val (.int .u8 (a0.toNat : Int))])] 149, .var b1 [.val (.int .i64 a1)] 3, .var b2 [.val (.int .i64 a2)] 3, .var b3 [(eOP a3)] 27, .var b4 [.val (.bool res.1)] 4, .var b5 [.val v8] 22, .var b6 [.val (.int .i64 a5)] 3, .var b7 [.val (.int .i64 res.2)] 3, .row v8 (List.map (eI .i64) a7) 1 3]) := walk_Range_int_1_4_c h0
theorem walk_Range_int_1_4_cx3 {a0 : UInt8} {a1 : Int} {a2 : Int} {a3 : Option NP} {a4 : Bool} {a5 : Int} {a6 : Int} {a7 : List Int} {b0 : Nat} {b1 : Nat} {b2 : Nat} {b3 : Nat} {b4 : Nat} {b5 : Nat} {b6 : Nat} {b7 : Nat} {v8 : Value} {res : Int} (h0 : walk_Range_int_1_4 a0 a1 a2 a3 a4 a5 a6 a7 = some (Sum.inr (Sum.inr res))) : CallF X 68 [.fn (.yield b0) [] [], .val (.pointer (some ⟨b1, 0, none⟩)), .val (.pointer (some ⟨b2, 0, none⟩)), .val (.pointer (some ⟨b3, 0, none⟩))] [.lp b0 .ready none [64, 65] rfA10_0 rfB10_0 [(14, .val (.pointer (some ⟨b7, 0, none⟩))), (9, .val (.pointer (some ⟨b6, 0, none⟩))), (8, .val (.pointer (some ⟨b5, 0, none⟩))), (6, .val (.pointer (some ⟨b4, 0, none⟩))), (5, .nod [.val (.int .u8 (a0.toNat : Int))])] 149, .var b1 [.val (.int .i64 a1)] 3, .var b2 [.val (.int .i64 a2)] 3, .var b3 [(eOP a3)] 27, .var b4 [.val (.bool a4)] 4, .var b5 [.val v8] 22, .var b6 [.val (.int .i64 a5)] 3, .var b7 [.val (.int .i64 a6)] 3, .row v8 (List.map (eI .i64) a7) 1 3] (fun x => .tup []) (fun x => [.lp b0 .done (some (.exit 2)) [64, 65] rfA10_0 rfB10_0 [(14, .val (.pointer (some ⟨b7, 0, none⟩))), (9, .val (.pointer (some ⟨b6, 0, none⟩))), (8, .val (.pointer (some ⟨b5, 0, none⟩))), (6, .val (.pointer (some ⟨b4, 0, none⟩))), (5, .nod [.val (.int .u8 (a0.toNat : Int))])] 149, .var b1 [.val (.int .i64 a1)] 3, .var b2 [.val (.int .i64 a2)] 3, .var b3 [(eOP a3)] 27, .var b4 [.val (.bool a4)] 4, .var b5 [.val v8] 22, .var b6 [.val (.int .i64 a5)] 3, .var b7 [.val (.int .i64 res)] 3, .row v8 (List.map (eI .i64) a7) 1 3]) := walk_Range_int_1_4_c h0
noncomputable def walk_stack_int_back.l1 (s7 : (List walk_frame_int)) : Option (Lp (List walk_frame_int) (Ex (List walk_frame_int) (Bool × (List walk_frame_int)))) :=
  if (s7.length : Int) > 0 then
    bnd (walk_stack_int_top s7) fun x16 =>
    bnd (idx s7 x16) fun x17 =>
    if x17.fNext > 0 then
      bnd (idx (s7.set x16.toNat (⟨x17.fN, x17.fFirst, w64 (x17.fNext - 1)⟩ : walk_frame_int)) x16) fun x19 =>
      bnd (some x19.fN) fun q20 => match q20 with
        | none =>
          none
        | some z21 =>
          bnd (o_tree_Node_int z21) fun x23 =>
          bnd (idx x23.fKids x19.fNext) fun x25 =>
          bnd (o_tree_Node_int x25) fun x26 =>
          bnd (idx ((s7.set x16.toNat (⟨x17.fN, x17.fFirst, w64 (x17.fNext - 1)⟩ : walk_frame_int)).set x16.toNat (⟨x19.fN, w64 (x19.fFirst - x26.fN), x19.fNext⟩ : walk_frame_int)) x16) fun x29 =>
          bnd (walk_stack_int_down_2 x26.fKids x26.fItems x26.fN x29.fFirst (w64 ((w64 (x29.fFirst + x26.fN)) - 1)) ((s7.set x16.toNat (⟨x17.fN, x17.fFirst, w64 (x17.fNext - 1)⟩ : walk_frame_int)).set x16.toNat (⟨x19.fN, w64 (x19.fFirst - x26.fN), x19.fNext⟩ : walk_frame_int))) fun x30 =>
          some (Lp.done (Ex.ret (true, x30)))
    else
      bnd (cut s7 0 (w64 ((s7.length : Int) - 1))) fun x32 =>
      some (Lp.next x32)
  else
    some (Lp.done (Ex.brk s7))
noncomputable def walk_stack_int_back (a0 : List walk_frame_int) : Option (Bool × (List walk_frame_int)) :=
  bnd (cut a0 0 (w64 ((a0.length : Int) - 1))) fun x2 =>
  bnd (loop walk_stack_int_back.l1 x2 : Option (Ex (List walk_frame_int) (Bool × (List walk_frame_int)))) fun t3 => match t3 with
    | .brk u4 =>
      some (false, u4)
    | .ret u4 => some u4
set_option maxHeartbeats 4000000 in
theorem walk_stack_int_back_c {a0 : List walk_frame_int} {b0 : Nat} {v1 : Value} {res : Bool × (List walk_frame_int)} (h0 : walk_stack_int_back a0 = some res) : CallF X 73 [.val (.pointer (some ⟨b0, 0, none⟩))] [.var b0 [.val v1] 109, .row v1 (List.map e_walk_frame_int a0) 3 114] (fun x => .val (.bool res.1)) (fun x => [.var b0 [.val (vn x 0)] 109, .row (vn x 0) (List.map e_walk_frame_int res.2) 3 114]) := by
 unfold walk_stack_int_back at h0
 refine CallF.mkG (X := X) rfl Try.func73 rfl rfl Try.ntmps73 rfl rfl ?_
 refine T.seq ?_
 refine T.region ?_
 refine TL.op1 (OpR.pure rfl) rfl ?_
 refine TL.nil ?_
 show T X _ _ _
 refine T.seq ?_
 obtain ⟨x2, hx2, h0⟩ := bnd_some h0
 refine T.drawS drawsX (fun env1 => [.val (.pointer (some ⟨b0, 0, none⟩)), .val (.pointer (some ⟨b0, 0, none⟩)), .val (.pointer (some ⟨b0, 0, none⟩)), .val (.pointer (some ⟨b0, 0, none⟩)), .val v1, .val (.pointer (some ⟨b0, 0, none⟩)), .val (.pointer (some ⟨b0, 0, none⟩)), .val (.pointer (some ⟨b0, 0, none⟩)), .val v1, .val (.int .i64 (a0.length : Int)), .val (.int .i64 (w64 ((a0.length : Int) - 1))), .val (vw v1 (0 : Int).toNat (w64 ((a0.length : Int) - 1) : Int).toNat 3), .val (.pointer (some ⟨b0, 0, none⟩)), .val (.pointer (some ⟨b0, 0, none⟩)), .dead]) (fun D env1 => [(bif D 14 then .var b0 [.val (vw v1 (0 : Int).toNat (w64 ((a0.length : Int) - 1) : Int).toNat 3)] 109 else .var b0 [.val v1] 109), .row v1 (List.map e_walk_frame_int a0) 3 114]) [0, 0, 2, 6, 14, 0, 32, 96, 224, 480, 992, 2046, 4095, 8191, 16383] [0, 2, 5, 6, 7, 8, 9, 10, 11, 12, 13, 14, 15, 16, 17, 18] (fun env1 => [.var b0 [.val (vw v1 (0 : Int).toNat (w64 ((a0.length : Int) - 1) : Int).toNat 3)] 109, .row v1 (List.map e_walk_frame_int a0) 3 114]) (by decide +kernel) (by decide +kernel) (fun _ => rfl) (fun _ => rfl) ?_ (fun _ => rfl) (fun _ => rfl) ?_
 · refine oS (d := .val (.pointer (some ⟨b0, 0, none⟩))) (fun _ => Want.plain rfl) (fun _ => rfl) (fun _ _ _ => rfl) (fun _ _ => OpR.pure rfl) (fun _ _ _ _ _ _ _ => rfl) ?_
   refine oS (d := .val (.pointer (some ⟨b0, 0, none⟩))) (fun _ => Want.plain rfl) (fun _ => rfl) (fun _ _ _ => rfl) (fun _ _ => OpR.pure rfl) (fun _ _ _ _ _ _ _ => rfl) ?_
   refine oS (d := .val (.pointer (some ⟨b0, 0, none⟩))) (fun _ => Want.plain rfl) (fun _ => rfl) (fun _ _ _ => rfl) (fun _ _ => OpR.pure rfl) (fun _ _ _ _ _ _ _ => rfl) ?_
   refine oS (d := .val (.pointer (some ⟨b0, 0, none⟩))) (fun _ => Want.plain rfl) (fun _ => rfl) (fun _ _ _ => rfl) (fun _ _ => OpR.pure rfl) (fun _ _ _ _ _ _ _ => rfl) ?_
   refine OpsS.cons' true ?_ (fun _ _ _ _ _ _ _ => rfl) ?_
   · intro D env1 hA
     have e14 : D 14 = false := hA.no 14 _ rfl rfl
     exact OpS.yes (o0 := [.var b0 [.val v1] 109, .row v1 (List.map e_walk_frame_int a0) 3 114]) (o1 := fun x => [.var b0 [.val v1] 109, .row v1 (List.map e_walk_frame_int a0) 3 114]) (d := fun x => .val v1) (Want.plain rfl) (by first | rfl | simp only [e14, cond_true, cond_false, List.cons_append, List.nil_append, List.append_nil]) (fun x => by first | rfl | simp only [ins_self, ins_ne D (show 4 ≠ 14 by decide), upd_self, e14, cond_true, cond_false, List.cons_append, List.nil_append, List.append_nil]) (fun x => rfl) (OpR.loadPtr 0 rfl rfl rfl rfl)
   refine oS (d := .val (.pointer (some ⟨b0, 0, none⟩))) (fun _ => Want.plain rfl) (fun _ => rfl) (fun _ _ _ => rfl) (fun _ _ => OpR.pure rfl) (fun _ _ _ _ _ _ _ => rfl) ?_
   refine oS (d := .val (.pointer (some ⟨b0, 0, none⟩))) (fun _ => Want.plain rfl) (fun _ => rfl) (fun _ _ _ => rfl) (fun _ _ => OpR.pure rfl) (fun _ _ _ _ _ _ _ => rfl) ?_
   refine oS (d := .val (.pointer (some ⟨b0, 0, none⟩))) (fun _ => Want.plain rfl) (fun _ => rfl) (fun _ _ _ => rfl) (fun _ _ => OpR.pure rfl) (fun _ _ _ _ _ _ _ => rfl) ?_
   refine OpsS.cons' true ?_ (fun _ _ _ _ _ _ _ => rfl) ?_
   · intro D env1 hA
     have e14 : D 14 = false := hA.no 14 _ rfl rfl
     exact OpS.yes (o0 := [.var b0 [.val v1] 109, .row v1 (List.map e_walk_frame_int a0) 3 114]) (o1 := fun x => [.var b0 [.val v1] 109, .row v1 (List.map e_walk_frame_int a0) 3 114]) (d := fun x => .val v1) (Want.plain rfl) (by first | rfl | simp only [e14, cond_true, cond_false, List.cons_append, List.nil_append, List.append_nil]) (fun x => by first | rfl | simp only [ins_self, ins_ne D (show 8 ≠ 14 by decide), upd_self, e14, cond_true, cond_false, List.cons_append, List.nil_append, List.append_nil]) (fun x => rfl) (OpR.loadPtr 0 rfl rfl rfl rfl)
   refine oS (d := .val (.int .i64 (a0.length : Int))) (fun _ => Want.plain rfl) (fun _ => rfl) (fun _ _ _ => rfl) (fun _ _ => OpR.rowLenM e_walk_frame_int 1 rfl rfl rfl rfl) (fun _ _ _ _ _ _ _ => rfl) ?_
   refine oS (d := .val (.int .i64 (w64 ((a0.length : Int) - 1)))) (fun _ => Want.plain rfl) (fun _ => rfl) (fun _ _ _ => rfl) (fun _ _ => OpR.pure rfl) (fun _ _ _ _ _ _ _ => rfl) ?_
   refine oS (d := .val (vw v1 (0 : Int).toNat (w64 ((a0.length : Int) - 1) : Int).toNat 3)) (fun _ => Want.plain rfl) (fun _ => rfl) (fun _ _ _ => rfl) (fun _ _ => OpR.sliceRowM e_walk_frame_int 1 hx2 rfl rfl rfl rfl rfl rfl BdM.none (BdM.some rfl)) (fun _ _ _ _ _ _ _ => rfl) ?_
   refine oS (d := .val (.pointer (some ⟨b0, 0, none⟩))) (fun _ => Want.plain rfl) (fun _ => rfl) (fun _ _ _ => rfl) (fun _ _ => OpR.pure rfl) (fun _ _ _ _ _ _ _ => rfl) ?_
   refine oS (d := .val (.pointer (some ⟨b0, 0, none⟩))) (fun _ => Want.plain rfl) (fun _ => rfl) (fun _ _ _ => rfl) (fun _ _ => OpR.pure rfl) (fun _ _ _ _ _ _ _ => rfl) ?_
   refine OpsS.cons' true ?_ (fun _ _ _ _ _ _ _ => rfl) ?_
   · intro D env1 hA
     exact OpS.yes (o0 := [.var b0 [.val v1] 109, .row v1 (List.map e_walk_frame_int a0) 3 114]) (o1 := fun x => [.var b0 [.val (vw v1 (0 : Int).toNat (w64 ((a0.length : Int) - 1) : Int).toNat 3)] 109, .row v1 (List.map e_walk_frame_int a0) 3 114]) (d := fun x => .dead) (Want.plain rfl) (by first | rfl | simp only [hA.me, cond_true, cond_false, List.cons_append, List.nil_append, List.append_nil]) (fun x => by first | rfl | simp only [ins_self, upd_self, hA.me, cond_true, cond_false, List.cons_append, List.nil_append, List.append_nil]) (fun x => rfl) (OpR.store 0 rfl rfl rfl rfl rfl rfl rfl rfl)
   exact trivial
 intro env1
 show T X _ _ _
 refine T.ghost (Gst.truncM (ow := [.var b0 [.val (vw v1 (0 : Int).toNat (w64 ((a0.length : Int) - 1) : Int).toNat 3)] 109, .row v1 (List.map e_walk_frame_int a0) 3 114]) e_walk_frame_int 1 hx2 rfl rfl) ?_
 refine T.seq ?_
 obtain ⟨t3, ht3, h0⟩ := bnd_some h0
 refine T.cutC (fun S' => ∃ u4, t3 = Ex.brk u4 ∧ ∃ y5 : Value, S' = ⟨[(2, .val (.bool false))], [.var b0 [.val y5] 109, .row y5 (List.map e_walk_frame_int u4) 3 114], 94⟩) (fun _ h => h) ?_ ?_
 rotate_left
 · rintro _ ⟨u4, rfl, y5, rfl⟩
   show T X _ _ _
   refine T.seq ?_
   refine T.region ?_
   refine TL.op1 (OpR.pure rfl) rfl ?_
   refine TL.nil ?_
   show T X _ _ _
   refine T.ret ?_
   obtain rfl := Option.some.inj h0
   exact PostG.retP (ks := [0, 1]) (Gst.only [2] rfl) (.tuple #[y5]) (ResL.cons (ResV.tmp rfl) ResL.nil) rfl rfl rfl rfl
 refine T.block ?_
 obtain ⟨n8, n13⟩ := loop_some ht3
 refine T.loop (fun n S' => ∃ S'', Gst S' S'' ∧ ∃ y6 : Value, ∃ s7 : (List walk_frame_int), S'' = ⟨[(2, .val (.bool false)), (0, .val (.pointer (some ⟨b0, 0, none⟩)))], [.var b0 [.val y6] 109, .row y6 (List.map e_walk_frame_int s7) 3 114], 94⟩ ∧ iter walk_stack_int_back.l1 n s7 = some t3) n8 ?_ ?_
 · exact ⟨_, Gst.only [0, 2] rfl, (vw v1 (0 : Int).toNat (w64 ((a0.length : Int) - 1) : Int).toNat 3), x2, rfl, n13⟩
 rintro n8 _ ⟨_, g, y6, s7, rfl, i12⟩
 refine T.ghost g ?_
 obtain ⟨m9, q10, rfl, q11, i12⟩ := iter_succ i12
 unfold walk_stack_int_back.l1 at q11
 refine T.seq ?_
 refine T.seq ?_
 refine T.region ?_
 refine TL.op1 (OpR.pure rfl) rfl ?_
 refine TL.op1 (OpR.pure rfl) rfl ?_
 refine TL.op1 (OpR.pure rfl) rfl ?_
 refine TL.op1 (OpR.loadPtr 0 rfl rfl rfl rfl) rfl ?_
 refine TL.op1 (OpR.rowLenM e_walk_frame_int 1 rfl rfl rfl rfl) rfl ?_
 refine TL.op1 (OpR.pure rfl) rfl ?_
 refine TL.nil ?_
 show T X _ _ _
 rcases ite_some q11 with ⟨c15, q11⟩ | ⟨c15, q11⟩
 rotate_left
 · refine T.condF rfl (decide_eq_false c15) ?_
   refine T.exit ?_
   obtain rfl := Option.some.inj q11
   obtain rfl : _ = _ := i12
   exact ⟨_, Gst.only [2] rfl, _, rfl, y6, rfl⟩
 refine T.condT rfl (decide_eq_true c15) ?_
 refine T.skip ?_
 show T X _ _ _
 refine T.block ?_
 refine T.seq ?_
 refine T.region ?_
 refine TL.op1 (OpR.pure rfl) rfl ?_
 obtain ⟨x16, hx16, q11⟩ := bnd_some q11
 refine TL.op1 (OpR.call [0, 1] fn70 (walk_stack_int_top_c hx16) rfl rfl rfl (fun _ => rfl)) rfl ?_
 refine TL.op1 (OpR.pure rfl) rfl ?_
 refine TL.nil ?_
 show T X _ _ _
 refine T.seq ?_
 refine T.seq ?_
 refine T.region ?_
 refine TL.op1 (OpR.pure rfl) rfl ?_
 refine TL.op1 (OpR.pure rfl) rfl ?_
 refine TL.op1 (OpR.pure rfl) rfl ?_
 obtain ⟨x17, hx17, q11⟩ := bnd_some q11
 refine TL.op1 (OpR.rowLoadM (j := x16) e_walk_frame_int 1 hx17 rfl rfl rfl rfl) rfl ?_
 refine TL.op1 (OpR.pure rfl) rfl ?_
 refine TL.nil ?_
 show T X _ _ _
 rcases ite_some q11 with ⟨c18, q11⟩ | ⟨c18, q11⟩
 rotate_left
 · refine T.condF rfl (decide_eq_false c18) ?_
   refine T.skip ?_
   show T X _ _ _
   obtain ⟨x32, hx32, q11⟩ := bnd_some q11
   refine T.drawS drawsX (fun env31 => [.val (.pointer (some ⟨b0, 0, none⟩)), .val (.pointer (some ⟨b0, 0, none⟩)), .val (.pointer (some ⟨b0, 0, none⟩)), .val (.pointer (some ⟨b0, 0, none⟩)), .val y6, .val (.pointer (some ⟨b0, 0, none⟩)), .val (.pointer (some ⟨b0, 0, none⟩)), .val (.pointer (some ⟨b0, 0, none⟩)), .val y6, .val (.int .i64 (s7.length : Int)), .val (.int .i64 (w64 ((s7.length : Int) - 1))), .val (vw y6 (0 : Int).toNat (w64 ((s7.length : Int) - 1) : Int).toNat 3), .val (.pointer (some ⟨b0, 0, none⟩)), .val (.pointer (some ⟨b0, 0, none⟩)), .dead]) (fun D env31 => [(bif D 14 then .var b0 [.val (vw y6 (0 : Int).toNat (w64 ((s7.length : Int) - 1) : Int).toNat 3)] 109 else .var b0 [.val y6] 109), .row y6 (List.map e_walk_frame_int s7) 3 114]) [0, 0, 2, 6, 14, 0, 32, 96, 224, 480, 992, 2046, 4095, 8191, 16383] [0, 2, 3, 19, 20, 21, 22, 23, 24, 25, 26, 27, 28, 29, 30, 31, 80, 81, 82, 83, 84, 85, 86, 87, 88, 89, 90, 91, 92, 93] (fun env31 => [.var b0 [.val (vw y6 (0 : Int).toNat (w64 ((s7.length : Int) - 1) : Int).toNat 3)] 109, .row y6 (List.map e_walk_frame_int s7) 3 114]) (by decide +kernel) (by decide +kernel) (fun _ => rfl) (fun _ => rfl) ?_ (fun _ => rfl) (fun _ => rfl) ?_
   rotate_left
   · intro env31
     obtain rfl := Option.some.inj q11
     exact ⟨m9, Nat.lt_succ_self _, _, Gst.trans (Gst.truncM (ow := [.var b0 [.val (vw y6 (0 : Int).toNat (w64 ((s7.length : Int) - 1) : Int).toNat 3)] 109, .row y6 (List.map e_walk_frame_int s7) 3 114]) e_walk_frame_int 1 hx32 rfl rfl) (Gst.only [0, 2] rfl), (vw y6 (0 : Int).toNat (w64 ((s7.length : Int) - 1) : Int).toNat 3), x32, rfl, i12⟩
   refine oS (d := .val (.pointer (some ⟨b0, 0, none⟩))) (fun _ => Want.plain rfl) (fun _ => rfl) (fun _ _ _ => rfl) (fun _ _ => OpR.pure rfl) (fun _ _ _ _ _ _ _ => rfl) ?_
   refine oS (d := .val (.pointer (some ⟨b0, 0, none⟩))) (fun _ => Want.plain rfl) (fun _ => rfl) (fun _ _ _ => rfl) (fun _ _ => OpR.pure rfl) (fun _ _ _ _ _ _ _ => rfl) ?_
   refine oS (d := .val (.pointer (some ⟨b0, 0, none⟩))) (fun _ => Want.plain rfl) (fun _ => rfl) (fun _ _ _ => rfl) (fun _ _ => OpR.pure rfl) (fun _ _ _ _ _ _ _ => rfl) ?_
   refine oS (d := .val (.pointer (some ⟨b0, 0, none⟩))) (fun _ => Want.plain rfl) (fun _ => rfl) (fun _ _ _ => rfl) (fun _ _ => OpR.pure rfl) (fun _ _ _ _ _ _ _ => rfl) ?_
   refine OpsS.cons' true ?_ (fun _ _ _ _ _ _ _ => rfl) ?_
   · intro D env31 hA
     have e14 : D 14 = false := hA.no 14 _ rfl rfl
     exact OpS.yes (o0 := [.var b0 [.val y6] 109, .row y6 (List.map e_walk_frame_int s7) 3 114]) (o1 := fun x => [.var b0 [.val y6] 109, .row y6 (List.map e_walk_frame_int s7) 3 114]) (d := fun x => .val y6) (Want.plain rfl) (by first | rfl | simp only [e14, cond_true, cond_false, List.cons_append, List.nil_append, List.append_nil]) (fun x => by first | rfl | simp only [ins_self, ins_ne D (show 4 ≠ 14 by decide), upd_self, e14, cond_true, cond_false, List.cons_append, List.nil_append, List.append_nil]) (fun x => rfl) (OpR.loadPtr 0 rfl rfl rfl rfl)
   refine oS (d := .val (.pointer (some ⟨b0, 0, none⟩))) (fun _ => Want.plain rfl) (fun _ => rfl) (fun _ _ _ => rfl) (fun _ _ => OpR.pure rfl) (fun _ _ _ _ _ _ _ => rfl) ?_
   refine oS (d := .val (.pointer (some ⟨b0, 0, none⟩))) (fun _ => Want.plain rfl) (fun _ => rfl) (fun _ _ _ => rfl) (fun _ _ => OpR.pure rfl) (fun _ _ _ _ _ _ _ => rfl) ?_
   refine oS (d := .val (.pointer (some ⟨b0, 0, none⟩))) (fun _ => Want.plain rfl) (fun _ => rfl) (fun _ _ _ => rfl) (fun _ _ => OpR.pure rfl) (fun _ _ _ _ _ _ _ => rfl) ?_
   refine OpsS.cons' true ?_ (fun _ _ _ _ _ _ _ => rfl) ?_
   · intro D env31 hA
     have e14 : D 14 = false := hA.no 14 _ rfl rfl
     exact OpS.yes (o0 := [.var b0 [.val y6] 109, .row y6 (List.map e_walk_frame_int s7) 3 114]) (o1 := fun x => [.var b0 [.val y6] 109, .row y6 (List.map e_walk_frame_int s7) 3 114]) (d := fun x => .val y6) (Want.plain rfl) (by first | rfl | simp only [e14, cond_true, cond_false, List.cons_append, List.nil_append, List.append_nil]) (fun x => by first | rfl | simp only [ins_self, ins_ne D (show 8 ≠ 14 by decide), upd_self, e14, cond_true, cond_false, List.cons_append, List.nil_append, List.append_nil]) (fun x => rfl) (OpR.loadPtr 0 rfl rfl rfl rfl)
   refine oS (d := .val (.int .i64 (s7.length : Int))) (fun _ => Want.plain rfl) (fun _ => rfl) (fun _ _ _ => rfl) (fun _ _ => OpR.rowLenM e_walk_frame_int 1 rfl rfl rfl rfl) (fun _ _ _ _ _ _ _ => rfl) ?_
   refine oS (d := .val (.int .i64 (w64 ((s7.length : Int) - 1)))) (fun _ => Want.plain rfl) (fun _ => rfl) (fun _ _ _ => rfl) (fun _ _ => OpR.pure rfl) (fun _ _ _ _ _ _ _ => rfl) ?_
   refine oS (d := .val (vw y6 (0 : Int).toNat (w64 ((s7.length : Int) - 1) : Int).toNat 3)) (fun _ => Want.plain rfl) (fun _ => rfl) (fun _ _ _ => rfl) (fun _ _ => OpR.sliceRowM e_walk_frame_int 1 hx32 rfl rfl rfl rfl rfl rfl BdM.none (BdM.some rfl)) (fun _ _ _ _ _ _ _ => rfl) ?_
   refine oS (d := .val (.pointer (some ⟨b0, 0, none⟩))) (fun _ => Want.plain rfl) (fun _ => rfl) (fun _ _ _ => rfl) (fun _ _ => OpR.pure rfl) (fun _ _ _ _ _ _ _ => rfl) ?_
   refine oS (d := .val (.pointer (some ⟨b0, 0, none⟩))) (fun _ => Want.plain rfl) (fun _ => rfl) (fun _ _ _ => rfl) (fun _ _ => OpR.pure rfl) (fun _ _ _ _ _ _ _ => rfl) ?_
   refine OpsS.cons' true ?_ (fun _ _ _ _ _ _ _ => rfl) ?_
   · intro D env31 hA
     exact OpS.yes (o0 := [.var b0 [.val y6] 109, .row y6 (List.map e_walk_frame_int s7) 3 114]) (o1 := fun x => [.var b0 [.val (vw y6 (0 : Int).toNat (w64 ((s7.length : Int) - 1) : Int).toNat 3)] 109, .row y6 (List.map e_walk_frame_int s7) 3 114]) (d := fun x => .dead) (Want.plain rfl) (by first | rfl | simp only [hA.me, cond_true, cond_false, List.cons_append, List.nil_append, List.append_nil]) (fun x => by first | rfl | simp only [ins_self, upd_self, hA.me, cond_true, cond_false, List.cons_append, List.nil_append, List.append_nil]) (fun x => rfl) (OpR.store 0 rfl rfl rfl rfl rfl rfl rfl rfl)
   exact trivial
 refine T.condT rfl (decide_eq_true c18) ?_
 refine T.seq ?_
 refine T.region ?_
 refine TL.op1 (OpR.pure rfl) rfl ?_
 refine TL.op1 (OpR.pure rfl) rfl ?_
 refine TL.op1 (OpR.pure rfl) rfl ?_
 refine TL.op1 (OpR.rowLoadM (j := x16) e_walk_frame_int 1 hx17 rfl rfl rfl rfl) rfl ?_
 refine TL.op1 (OpR.pure rfl) rfl ?_
 refine TL.op1 (OpR.pure rfl) rfl ?_
 refine TL.op1 (OpR.pure rfl) rfl ?_
 refine TL.op0 (OpR.rowStoreM (j := x16) e_walk_frame_int (⟨x17.fN, x17.fFirst, w64 (x17.fNext - 1)⟩ : walk_frame_int) 1 hx17 rfl rfl rfl rfl rfl rfl rfl rfl rfl) ?_
 refine TL.nil ?_
 show T X _ _ _
 refine T.seq ?_
 obtain ⟨x19, hx19, q11⟩ := bnd_some q11
 obtain ⟨q20, hq20, q11⟩ := bnd_some q11
 rcases q20 with _ | z21
 · dsimp only at q11
   exact (by cases q11)
 dsimp only at q11
 obtain ⟨x23, hx23, q11⟩ := bnd_some q11
 rw [o_tree_Node_int_eq hx23] at hq20
 obtain ⟨x25, hx25, q11⟩ := bnd_some q11
 obtain ⟨x26, hx26, q11⟩ := bnd_some q11
 rw [o_tree_Node_int_eq hx26] at hx25
 refine T.drawQ drawsX [.val (.pointer (some ⟨blk y6, x16.toNat * 3, none⟩)), .val (.pointer (some ⟨blk y6, x16.toNat * 3, none⟩)), .val (.pointer (some ⟨blk y6, x16.toNat * 3, none⟩)), .nod [.sl 1 (List.map eNP x23.fKids), .sl 1 (List.map (eI .i64) x23.fItems), .val (.int .i64 x23.fN)], .nod [.sl 1 (List.map eNP x23.fKids), .sl 1 (List.map (eI .i64) x23.fItems), .val (.int .i64 x23.fN)], .nod [.sl 1 (List.map eNP x23.fKids), .sl 1 (List.map (eI .i64) x23.fItems), .val (.int .i64 x23.fN)], .sl 1 (List.map eNP x23.fKids), .val (.pointer (some ⟨blk y6, x16.toNat * 3, none⟩)), .val (.pointer (some ⟨blk y6, x16.toNat * 3, none⟩)), .val (.pointer (some ⟨blk y6, x16.toNat * 3 + 2, none⟩)), .val (.int .i64 x19.fNext), .nod [.nod [.sl 1 (List.map eNP x26.fKids), .sl 1 (List.map (eI .i64) x26.fItems), .val (.int .i64 x26.fN)]], .nod [.sl 1 (List.map eNP x26.fKids), .sl 1 (List.map (eI .i64) x26.fItems), .val (.int .i64 x26.fN)], .nod [.sl 1 (List.map eNP x26.fKids), .sl 1 (List.map (eI .i64) x26.fItems), .val (.int .i64 x26.fN)]] [0, 2, 3, 4, 19, 20, 21, 22, 23, 24, 25, 26, 27, 28, 29, 30, 31, 32, 33, 34, 35, 36, 37, 38, 39, 40, 41, 42, 43, 44, 45, 46, 47, 48, 49, 50, 51] (by decide +kernel) rfl ?_ rfl ?_
 · refine OpsQ.yes (Want.plain rfl) rfl (OpR.pure rfl) ?_
   refine OpsQ.yes (Want.plain rfl) rfl (OpR.pure rfl) ?_
   refine OpsQ.yes (Want.plain rfl) rfl (OpR.pure rfl) ?_
   refine OpsQ.yes (Want.plain rfl) rfl (OpR.cast (OpR.rowLoad0M (j := x16) e_walk_frame_int 1 hx19 rfl rfl rfl rfl) (congrArg eOP (Option.some.inj hq20))) ?_
   refine OpsQ.yes (Want.plain rfl) rfl (OpR.pure rfl) ?_
   refine OpsQ.yes (Want.plain rfl) rfl (OpR.pure rfl) ?_
   refine OpsQ.yes (Want.plain rfl) rfl (OpR.pure rfl) ?_
   refine OpsQ.yes (Want.plain rfl) rfl (OpR.pure rfl) ?_
   refine OpsQ.yes (Want.plain rfl) rfl (OpR.pure rfl) ?_
   refine OpsQ.yes (Want.plain rfl) rfl (OpR.pure rfl) ?_
   refine OpsQ.yes (Want.plain rfl) rfl (OpR.rowLoadM (j := x16) e_walk_frame_int 1 hx19 rfl rfl rfl rfl) ?_
   refine OpsQ.yes (Want.plain rfl) rfl (OpR.indexM eNP hx25 rfl rfl rfl rfl rfl) ?_
   refine OpsQ.yes (Want.plain rfl) rfl (OpR.pure rfl) ?_
   refine OpsQ.yes (Want.plain rfl) rfl (OpR.pure rfl) ?_
   exact OpsQ.nil
 show T X _ _ _
 refine T.seq ?_
 refine T.drawS drawsX (fun env27 => [.val (.pointer (some ⟨blk y6, x16.toNat * 3, none⟩)), .val (.pointer (some ⟨blk y6, x16.toNat * 3, none⟩)), .val (.pointer (some ⟨blk y6, x16.toNat * 3 + 1, none⟩)), .val (.int .i64 x19.fFirst), .nod [.sl 1 (List.map eNP x26.fKids), .sl 1 (List.map (eI .i64) x26.fItems), .val (.int .i64 x26.fN)], .nod [.sl 1 (List.map eNP x26.fKids), .sl 1 (List.map (eI .i64) x26.fItems), .val (.int .i64 x26.fN)], .nod [.val (.int .i64 x26.fN)], .val (.int .i64 x26.fN), .val (.int .i64 (w64 (x19.fFirst - x26.fN))), .val (.pointer (some ⟨blk y6, x16.toNat * 3, none⟩)), .val (.pointer (some ⟨blk y6, x16.toNat * 3 + 1, none⟩)), .dead]) (fun D env27 => [.var b0 [.val y6] 109, (bif D 11 then .row y6 (List.map e_walk_frame_int ((s7.set x16.toNat (⟨x17.fN, x17.fFirst, w64 (x17.fNext - 1)⟩ : walk_frame_int)).set x16.toNat (⟨x19.fN, w64 (x19.fFirst - x26.fN), x19.fNext⟩ : walk_frame_int))) 3 114 else .row y6 (List.map e_walk_frame_int (s7.set x16.toNat (⟨x17.fN, x17.fFirst, w64 (x17.fNext - 1)⟩ : walk_frame_int))) 3 114)]) [0, 1, 3, 7, 0, 16, 48, 112, 255, 511, 1023, 2047] [0, 2, 3, 4, 19, 20, 21, 22, 23, 24, 25, 26, 27, 28, 29, 30, 31, 32, 33, 34, 35, 36, 37, 38, 39, 40, 41, 42, 43, 44, 45, 46, 47, 48, 49, 50, 51, 52, 53, 54, 55, 56, 57, 58, 59, 60, 61, 62] (fun env27 => [.var b0 [.val y6] 109, .row y6 (List.map e_walk_frame_int ((s7.set x16.toNat (⟨x17.fN, x17.fFirst, w64 (x17.fNext - 1)⟩ : walk_frame_int)).set x16.toNat (⟨x19.fN, w64 (x19.fFirst - x26.fN), x19.fNext⟩ : walk_frame_int))) 3 114]) (by decide +kernel) (by decide +kernel) (fun _ => rfl) (fun _ => rfl) ?_ (fun _ => rfl) (fun _ => rfl) ?_
 · refine oS (d := .val (.pointer (some ⟨blk y6, x16.toNat * 3, none⟩))) (fun _ => Want.plain rfl) (fun _ => rfl) (fun _ _ _ => rfl) (fun _ _ => OpR.pure rfl) (fun _ _ _ _ _ _ _ => rfl) ?_
   refine oS (d := .val (.pointer (some ⟨blk y6, x16.toNat * 3, none⟩))) (fun _ => Want.plain rfl) (fun _ => rfl) (fun _ _ _ => rfl) (fun _ _ => OpR.pure rfl) (fun _ _ _ _ _ _ _ => rfl) ?_
   refine oS (d := .val (.pointer (some ⟨blk y6, x16.toNat * 3 + 1, none⟩))) (fun _ => Want.plain rfl) (fun _ => rfl) (fun _ _ _ => rfl) (fun _ _ => OpR.pure rfl) (fun _ _ _ _ _ _ _ => rfl) ?_
   refine OpsS.cons' true ?_ (fun _ _ _ _ _ _ _ => rfl) ?_
   · intro D env27 hA
     have e11 : D 11 = false := hA.no 11 _ rfl rfl
     exact OpS.yes (o0 := [.var b0 [.val y6] 109, .row y6 (List.map e_walk_frame_int (s7.set x16.toNat (⟨x17.fN, x17.fFirst, w64 (x17.fNext - 1)⟩ : walk_frame_int))) 3 114]) (o1 := fun x => [.var b0 [.val y6] 109, .row y6 (List.map e_walk_frame_int (s7.set x16.toNat (⟨x17.fN, x17.fFirst, w64 (x17.fNext - 1)⟩ : walk_frame_int))) 3 114]) (d := fun x => .val (.int .i64 x19.fFirst)) (Want.plain rfl) (by first | rfl | simp only [e11, cond_true, cond_false, List.cons_append, List.nil_append, List.append_nil]) (fun x => by first | rfl | simp only [ins_self, ins_ne D (show 3 ≠ 11 by decide), upd_self, e11, cond_true, cond_false, List.cons_append, List.nil_append, List.append_nil]) (fun x => rfl) (OpR.rowLoadM (j := x16) e_walk_frame_int 1 hx19 rfl rfl rfl rfl)
   refine oS (d := .nod [.sl 1 (List.map eNP x26.fKids), .sl 1 (List.map (eI .i64) x26.fItems), .val (.int .i64 x26.fN)]) (fun _ => Want.plain rfl) (fun _ => rfl) (fun _ _ _ => rfl) (fun _ _ => OpR.pure rfl) (fun _ _ _ _ _ _ _ => rfl) ?_
   refine oS (d := .nod [.sl 1 (List.map eNP x26.fKids), .sl 1 (List.map (eI .i64) x26.fItems), .val (.int .i64 x26.fN)]) (fun _ => Want.plain rfl) (fun _ => rfl) (fun _ _ _ => rfl) (fun _ _ => OpR.pure rfl) (fun _ _ _ _ _ _ _ => rfl) ?_
   refine oS (d := .nod [.val (.int .i64 x26.fN)]) (fun _ => Want.plain rfl) (fun _ => rfl) (fun _ _ _ => rfl) (fun _ _ => OpR.pure rfl) (fun _ _ _ _ _ _ _ => rfl) ?_
   refine oS (d := .val (.int .i64 x26.fN)) (fun _ => Want.plain rfl) (fun _ => rfl) (fun _ _ _ => rfl) (fun _ _ => OpR.pure rfl) (fun _ _ _ _ _ _ _ => rfl) ?_
   refine oS (d := .val (.int .i64 (w64 (x19.fFirst - x26.fN)))) (fun _ => Want.plain rfl) (fun _ => rfl) (fun _ _ _ => rfl) (fun _ _ => OpR.pure rfl) (fun _ _ _ _ _ _ _ => rfl) ?_
   refine oS (d := .val (.pointer (some ⟨blk y6, x16.toNat * 3, none⟩))) (fun _ => Want.plain rfl) (fun _ => rfl) (fun _ _ _ => rfl) (fun _ _ => OpR.pure rfl) (fun _ _ _ _ _ _ _ => rfl) ?_
   refine oS (d := .val (.pointer (some ⟨blk y6, x16.toNat * 3 + 1, none⟩))) (fun _ => Want.plain rfl) (fun _ => rfl) (fun _ _ _ => rfl) (fun _ _ => OpR.pure rfl) (fun _ _ _ _ _ _ _ => rfl) ?_
   refine OpsS.cons' true ?_ (fun _ _ _ _ _ _ _ => rfl) ?_
   · intro D env27 hA
     exact OpS.yes (o0 := [.var b0 [.val y6] 109, .row y6 (List.map e_walk_frame_int (s7.set x16.toNat (⟨x17.fN, x17.fFirst, w64 (x17.fNext - 1)⟩ : walk_frame_int))) 3 114]) (o1 := fun x => [.var b0 [.val y6] 109, .row y6 (List.map e_walk_frame_int ((s7.set x16.toNat (⟨x17.fN, x17.fFirst, w64 (x17.fNext - 1)⟩ : walk_frame_int)).set x16.toNat (⟨x19.fN, w64 (x19.fFirst - x26.fN), x19.fNext⟩ : walk_frame_int))) 3 114]) (d := fun x => .dead) (Want.plain rfl) (by first | rfl | simp only [hA.me, cond_true, cond_false, List.cons_append, List.nil_append, List.append_nil]) (fun x => by first | rfl | simp only [ins_self, upd_self, hA.me, cond_true, cond_false, List.cons_append, List.nil_append, List.append_nil]) (fun x => rfl) (OpR.rowStoreM (j := x16) e_walk_frame_int (⟨x19.fN, w64 (x19.fFirst - x26.fN), x19.fNext⟩ : walk_frame_int) 1 hx19 rfl rfl rfl rfl rfl rfl rfl rfl rfl)
   exact trivial
 intro env27
 show T X _ _ _
 refine T.seq ?_
 obtain ⟨x29, hx29, q11⟩ := bnd_some q11
 obtain ⟨x30, hx30, q11⟩ := bnd_some q11
 refine T.drawS drawsX (fun env28 => [.val (.pointer (some ⟨b0, 0, none⟩)), .nod [.sl 1 (List.map eNP x26.fKids), .sl 1 (List.map (eI .i64) x26.fItems), .val (.int .i64 x26.fN)], .val (.pointer (some ⟨blk y6, x16.toNat * 3, none⟩)), .val (.pointer (some ⟨blk y6, x16.toNat * 3, none⟩)), .val (.pointer (some ⟨blk y6, x16.toNat * 3 + 1, none⟩)), .val (.int .i64 x29.fFirst), .val (.pointer (some ⟨blk y6, x16.toNat * 3, none⟩)), .val (.pointer (some ⟨blk y6, x16.toNat * 3, none⟩)), .val (.pointer (some ⟨blk y6, x16.toNat * 3 + 1, none⟩)), .val (.int .i64 x29.fFirst), .nod [.sl 1 (List.map eNP x26.fKids), .sl 1 (List.map (eI .i64) x26.fItems), .val (.int .i64 x26.fN)], .nod [.sl 1 (List.map eNP x26.fKids), .sl 1 (List.map (eI .i64) x26.fItems), .val (.int .i64 x26.fN)], .nod [.val (.int .i64 x26.fN)], .val (.int .i64 x26.fN), .val (.int .i64 (w64 (x29.fFirst + x26.fN))), .val (.int .i64 (w64 ((w64 (x29.fFirst + x26.fN)) - 1))), .tup []]) (fun D env28 => [(bif D 16 then .var b0 [.val (vn (env28 16) 0)] 109 else .var b0 [.val y6] 109), (bif D 16 then .row (vn (env28 16) 0) (List.map e_walk_frame_int x30) 3 114 else .row y6 (List.map e_walk_frame_int ((s7.set x16.toNat (⟨x17.fN, x17.fFirst, w64 (x17.fNext - 1)⟩ : walk_frame_int)).set x16.toNat (⟨x19.fN, w64 (x19.fFirst - x26.fN), x19.fNext⟩ : walk_frame_int))) 3 114)]) [0, 0, 0, 4, 12, 28, 0, 64, 192, 448, 0, 1024, 3072, 7168, 16320, 32704, 65535] [0, 2, 3, 4, 19, 20, 21, 22, 23, 24, 25, 26, 27, 28, 29, 30, 31, 32, 33, 34, 35, 36, 37, 38, 39, 40, 41, 42, 43, 44, 45, 46, 47, 48, 49, 50, 51, 52, 53, 54, 55, 56, 57, 58, 59, 60, 61, 62, 63, 64, 65, 66, 67, 68, 69, 70, 71, 72, 73, 74, 75, 76, 77, 78, 79] (fun env28 => [.var b0 [.val (vn (env28 16) 0)] 109, .row (vn (env28 16) 0) (List.map e_walk_frame_int x30) 3 114]) (by decide +kernel) (by decide +kernel) (fun _ => rfl) (fun _ => rfl) ?_ (fun _ => rfl) (fun _ => rfl) ?_
 rotate_left
 · intro env28
   show T X _ _ _
   refine T.seq ?_
   refine T.region ?_
   refine TL.op1 (OpR.pure rfl) rfl ?_
   refine TL.nil ?_
   show T X _ _ _
   refine T.ret ?_
   obtain rfl := Option.some.inj q11
   obtain rfl : _ = _ := i12
   obtain rfl := Option.some.inj h0
   exact PostG.retP (ks := [0, 1]) (Gst.only [2] rfl) (.tuple #[(vn (env28 16) 0)]) (ResL.cons (ResV.tmp rfl) ResL.nil) rfl rfl rfl rfl
 refine oS (d := .val (.pointer (some ⟨b0, 0, none⟩))) (fun _ => Want.plain rfl) (fun _ => rfl) (fun _ _ _ => rfl) (fun _ _ => OpR.pure rfl) (fun _ _ _ _ _ _ _ => rfl) ?_
 refine oS (d := .nod [.sl 1 (List.map eNP x26.fKids), .sl 1 (List.map (eI .i64) x26.fItems), .val (.int .i64 x26.fN)]) (fun _ => Want.plain rfl) (fun _ => rfl) (fun _ _ _ => rfl) (fun _ _ => OpR.pure rfl) (fun _ _ _ _ _ _ _ => rfl) ?_
 refine oS (d := .val (.pointer (some ⟨blk y6, x16.toNat * 3, none⟩))) (fun _ => Want.plain rfl) (fun _ => rfl) (fun _ _ _ => rfl) (fun _ _ => OpR.pure rfl) (fun _ _ _ _ _ _ _ => rfl) ?_
 refine oS (d := .val (.pointer (some ⟨blk y6, x16.toNat * 3, none⟩))) (fun _ => Want.plain rfl) (fun _ => rfl) (fun _ _ _ => rfl) (fun _ _ => OpR.pure rfl) (fun _ _ _ _ _ _ _ => rfl) ?_
 refine oS (d := .val (.pointer (some ⟨blk y6, x16.toNat * 3 + 1, none⟩))) (fun _ => Want.plain rfl) (fun _ => rfl) (fun _ _ _ => rfl) (fun _ _ => OpR.pure rfl) (fun _ _ _ _ _ _ _ => rfl) ?_
 refine OpsS.cons' true ?_ (fun _ _ _ _ _ _ _ => rfl) ?_
 · intro D env28 hA
   have e16 : D 16 = false := hA.no 16 _ rfl rfl
   exact OpS.yes (o0 := [.var b0 [.val y6] 109, .row y6 (List.map e_walk_frame_int ((s7.set x16.toNat (⟨x17.fN, x17.fFirst, w64 (x17.fNext - 1)⟩ : walk_frame_int)).set x16.toNat (⟨x19.fN, w64 (x19.fFirst - x26.fN), x19.fNext⟩ : walk_frame_int))) 3 114]) (o1 := fun x => [.var b0 [.val y6] 109, .row y6 (List.map e_walk_frame_int ((s7.set x16.toNat (⟨x17.fN, x17.fFirst, w64 (x17.fNext - 1)⟩ : walk_frame_int)).set x16.toNat (⟨x19.fN, w64 (x19.fFirst - x26.fN), x19.fNext⟩ : walk_frame_int))) 3 114]) (d := fun x => .val (.int .i64 x29.fFirst)) (Want.plain rfl) (by first | rfl | simp only [e16, cond_true, cond_false, List.cons_append, List.nil_append, List.append_nil]) (fun x => by first | rfl | simp only [ins_self, ins_ne D (show 5 ≠ 16 by decide), upd_self, upd_ne env28 x (show 5 ≠ 16 by decide), e16, cond_true, cond_false, List.cons_append, List.nil_append, List.append_nil]) (fun x => rfl) (OpR.rowLoadM (j := x16) e_walk_frame_int 1 hx29 rfl rfl rfl rfl)
 refine oS (d := .val (.pointer (some ⟨blk y6, x16.toNat * 3, none⟩))) (fun _ => Want.plain rfl) (fun _ => rfl) (fun _ _ _ => rfl) (fun _ _ => OpR.pure rfl) (fun _ _ _ _ _ _ _ => rfl) ?_
 refine oS (d := .val (.pointer (some ⟨blk y6, x16.toNat * 3, none⟩))) (fun _ => Want.plain rfl) (fun _ => rfl) (fun _ _ _ => rfl) (fun _ _ => OpR.pure rfl) (fun _ _ _ _ _ _ _ => rfl) ?_
 refine oS (d := .val (.pointer (some ⟨blk y6, x16.toNat * 3 + 1, none⟩))) (fun _ => Want.plain rfl) (fun _ => rfl) (fun _ _ _ => rfl) (fun _ _ => OpR.pure rfl) (fun _ _ _ _ _ _ _ => rfl) ?_
 refine OpsS.cons' true ?_ (fun _ _ _ _ _ _ _ => rfl) ?_
 · intro D env28 hA
   have e16 : D 16 = false := hA.no 16 _ rfl rfl
   exact OpS.yes (o0 := [.var b0 [.val y6] 109, .row y6 (List.map e_walk_frame_int ((s7.set x16.toNat (⟨x17.fN, x17.fFirst, w64 (x17.fNext - 1)⟩ : walk_frame_int)).set x16.toNat (⟨x19.fN, w64 (x19.fFirst - x26.fN), x19.fNext⟩ : walk_frame_int))) 3 114]) (o1 := fun x => [.var b0 [.val y6] 109, .row y6 (List.map e_walk_frame_int ((s7.set x16.toNat (⟨x17.fN, x17.fFirst, w64 (x17.fNext - 1)⟩ : walk_frame_int)).set x16.toNat (⟨x19.fN, w64 (x19.fFirst - x26.fN), x19.fNext⟩ : walk_frame_int))) 3 114]) (d := fun x => .val (.int .i64 x29.fFirst)) (Want.plain rfl) (by first | rfl | simp only [e16, cond_true, cond_false, List.cons_append, List.nil_append, List.append_nil]) (fun x => by first | rfl | simp only [ins_self, ins_ne D (show 9 ≠ 16 by decide), upd_self, upd_ne env28 x (show 9 ≠ 16 by decide), e16, cond_true, cond_false, List.cons_append, List.nil_append, List.append_nil]) (fun x => rfl) (OpR.rowLoadM (j := x16) e_walk_frame_int 1 hx29 rfl rfl rfl rfl)
 refine oS (d := .nod [.sl 1 (List.map eNP x26.fKids), .sl 1 (List.map (eI .i64) x26.fItems), .val (.int .i64 x26.fN)]) (fun _ => Want.plain rfl) (fun _ => rfl) (fun _ _ _ => rfl) (fun _ _ => OpR.pure rfl) (fun _ _ _ _ _ _ _ => rfl) ?_
 refine oS (d := .nod [.sl 1 (List.map eNP x26.fKids), .sl 1 (List.map (eI .i64) x26.fItems), .val (.int .i64 x26.fN)]) (fun _ => Want.plain rfl) (fun _ => rfl) (fun _ _ _ => rfl) (fun _ _ => OpR.pure rfl) (fun _ _ _ _ _ _ _ => rfl) ?_
 refine oS (d := .nod [.val (.int .i64 x26.fN)]) (fun _ => Want.plain rfl) (fun _ => rfl) (fun _ _ _ => rfl) (fun _ _ => OpR.pure rfl) (fun _ _ _ _ _ _ _ => rfl) ?_
 refine oS (d := .val (.int .i64 x26.fN)) (fun _ => Want.plain rfl) (fun _ => rfl) (fun _ _ _ => rfl) (fun _ _ => OpR.pure rfl) (fun _ _ _ _ _ _ _ => rfl) ?_
 refine oS (d := .val (.int .i64 (w64 (x29.fFirst + x26.fN)))) (fun _ => Want.plain rfl) (fun _ => rfl) (fun _ _ _ => rfl) (fun _ _ => OpR.pure rfl) (fun _ _ _ _ _ _ _ => rfl) ?_
 refine oS (d := .val (.int .i64 (w64 ((w64 (x29.fFirst + x26.fN)) - 1)))) (fun _ => Want.plain rfl) (fun _ => rfl) (fun _ _ _ => rfl) (fun _ _ => OpR.pure rfl) (fun _ _ _ _ _ _ _ => rfl) ?_
 refine OpsS.cons' true ?_ (fun D hA env28 x j hj hD => match j, hj, hD with | 0, _, _ => rfl | 1, _, _ => rfl | 2, _, _ => rfl | 3, _, _ => rfl | 4, _, _ => rfl | 5, _, _ => rfl | 6, _, _ => rfl | 7, _, _ => rfl | 8, _, _ => rfl | 9, _, _ => rfl | 10, _, _ => rfl | 11, _, _ => rfl | 12, _, _ => rfl | 13, _, _ => rfl | 14, _, _ => rfl | 15, _, _ => rfl | 16, hj, _ => absurd rfl hj | _ + 17, _, _ => rfl) ?_
 · intro D env28 hA
   exact OpS.yes (o0 := [.var b0 [.val y6] 109, .row y6 (List.map e_walk_frame_int ((s7.set x16.toNat (⟨x17.fN, x17.fFirst, w64 (x17.fNext - 1)⟩ : walk_frame_int)).set x16.toNat (⟨x19.fN, w64 (x19.fFirst - x26.fN), x19.fNext⟩ : walk_frame_int))) 3 114]) (o1 := fun x => [.var b0 [.val (vn x 0)] 109, .row (vn x 0) (List.map e_walk_frame_int x30) 3 114]) (d := fun x => .tup []) (Want.plain rfl) (by first | rfl | simp only [hA.me, cond_true, cond_false, List.cons_append, List.nil_append, List.append_nil]) (fun x => by first | rfl | simp only [ins_self, upd_self, hA.me, cond_true, cond_false, List.cons_append, List.nil_append, List.append_nil]) (fun x => rfl) (OpR.call [0, 1] fn69 (walk_stack_int_down_2_c hx30) rfl rfl rfl (fun _ => rfl))
 exact trivial
noncomputable def law10_WalkGoes_r1 (a0 : Int) (a1 : Int) (a2 : UInt8) (a3 : Bool) (a4 : Int) (a5 : Int) (a6 : List Int) : Option (Bool ⊕ (Int ⊕ Int)) :=
  bnd (if (w64 ((w64 ((a6.length : Int) - 1)) - a5)) < 0 then
    some true
  else
    if a0 = (w64 (a4 + (w64 ((w64 ((a6.length : Int) - 1)) - a5)))) then
      bnd (idx a6 (w64 ((w64 ((a6.length : Int) - 1)) - a5))) fun x34 =>
      some (!(a1 == x34))
    else
      some true : Option Bool) fun t31 =>
  if t31 = true then
    some (Sum.inl false)
  else
    if (w64 (a5 + 1)) = (a2.toNat : Int) then
      some (Sum.inr (Sum.inl (w64 (a5 + 1))))
    else
      some (Sum.inr (Sum.inr (w64 (a5 + 1))))
set_option maxHeartbeats 4000000 in
theorem law10_WalkGoes_r1_c {a0 : Int} {a1 : Int} {a2 : UInt8} {a3 : Bool} {a4 : Int} {a5 : Int} {a6 : List Int} {b0 : Nat} {b1 : Nat} {b2 : Nat} {b3 : Nat} {b4 : Nat} {v5 : Value} {res : Bool ⊕ (Int ⊕ Int)} (h0 : law10_WalkGoes_r1 a0 a1 a2 a3 a4 a5 a6 = some res) : RoundF X b0 [.val (.int .i64 a0), .val (.int .i64 a1)] [.lp b0 .ready none [92, 93] rfA10_1 rfB10_1 [(17, .val (.pointer (some ⟨b4, 0, none⟩))), (9, .val (.pointer (some ⟨b3, 0, none⟩))), (8, .val (.pointer (some ⟨b2, 0, none⟩))), (6, .val (.pointer (some ⟨b1, 0, none⟩))), (5, .nod [.val (.int .u8 (a2.toNat : Int))])] 149, .var b1 [.val (.bool a3)] 4, .var b2 [.val v5] 22, .var b3 [.val (.int .i64 a4)] 3, .var b4 [.val (.int .i64 a5)] 3, .row v5 (List.map (eI .i64) a6) 1 3] (fun x => (match res with | .inl res => .val (.bool false) | .inr (.inl res) => .val (.bool false) | .inr (.inr res) => .val (.bool true))) (fun x => (match res with | .inl res => [.lp b0 .done (some (.ret)) [92, 93] rfA10_1 rfB10_1 [(17, .val (.pointer (some ⟨b4, 0, none⟩))), (9, .val (.pointer (some ⟨b3, 0, none⟩))), (8, .val (.pointer (some ⟨b2, 0, none⟩))), (6, .val (.pointer (some ⟨b1, 0, none⟩))), (5, .nod [.val (.int .u8 (a2.toNat : Int))])] 149, .var b1 [.val (.bool res)] 4, .var b2 [.val v5] 22, .var b3 [.val (.int .i64 a4)] 3, .var b4 [.val (.int .i64 a5)] 3, .row v5 (List.map (eI .i64) a6) 1 3] | .inr (.inl res) => [.lp b0 .done (some (.exit 4)) [92, 93] rfA10_1 rfB10_1 [(17, .val (.pointer (some ⟨b4, 0, none⟩))), (9, .val (.pointer (some ⟨b3, 0, none⟩))), (8, .val (.pointer (some ⟨b2, 0, none⟩))), (6, .val (.pointer (some ⟨b1, 0, none⟩))), (5, .nod [.val (.int .u8 (a2.toNat : Int))])] 149, .var b1 [.val (.bool a3)] 4, .var b2 [.val v5] 22, .var b3 [.val (.int .i64 a4)] 3, .var b4 [.val (.int .i64 res)] 3, .row v5 (List.map (eI .i64) a6) 1 3] | .inr (.inr res) => [.lp b0 .ready none [92, 93] rfA10_1 rfB10_1 [(17, .val (.pointer (some ⟨b4, 0, none⟩))), (9, .val (.pointer (some ⟨b3, 0, none⟩))), (8, .val (.pointer (some ⟨b2, 0, none⟩))), (6, .val (.pointer (some ⟨b1, 0, none⟩))), (5, .nod [.val (.int .u8 (a2.toNat : Int))])] 149, .var b1 [.val (.bool a3)] 4, .var b2 [.val v5] 22, .var b3 [.val (.int .i64 a4)] 3, .var b4 [.val (.int .i64 res)] 3, .row v5 (List.map (eI .i64) a6) 1 3])) := by
 unfold law10_WalkGoes_r1 at h0
 refine RoundF.mk (X := X) rfl rfl rfl ?_
 refine T.seq ?_
 refine T.region ?_
 refine TL.op1 (OpR.pure rfl) rfl ?_
 refine TL.nil ?_
 show T (X.inR b0) _ _ _
 refine T.region ?_
 refine TL.op1 (OpR.pure rfl) rfl ?_
 refine TL.nil ?_
 refine RoundA.mk ?_
 refine T.block ?_
 refine T.seq ?_
 refine T.region ?_
 refine TL.op1 (OpR.loadPtr 2 rfl rfl rfl rfl) rfl ?_
 refine TL.op1 (OpR.rowLenM (eI .i64) 5 rfl rfl rfl rfl) rfl ?_
 refine TL.op1 (OpR.pure rfl) rfl ?_
 refine TL.op1 (OpR.loadPtr 4 rfl rfl rfl rfl) rfl ?_
 refine TL.op1 (OpR.pure rfl) rfl ?_
 refine TL.op1 (OpR.pure rfl) rfl ?_
 refine TL.nil ?_
 show T (X.inR b0) _ _ _
 refine T.seq ?_
 refine T.seq ?_
 obtain ⟨t31, ht31, h0⟩ := bnd_some h0
 refine T.cutC (fun S' => S' = ⟨[(115, .val (.bool t31)), (17, .val (.pointer (some ⟨b4, 0, none⟩))), (6, .val (.pointer (some ⟨b1, 0, none⟩))), (5, .nod [.val (.int .u8 (a2.toNat : Int))])], [.lp b0 .busy none [92, 93] rfA10_1 rfB10_1 [(17, .val (.pointer (some ⟨b4, 0, none⟩))), (9, .val (.pointer (some ⟨b3, 0, none⟩))), (8, .val (.pointer (some ⟨b2, 0, none⟩))), (6, .val (.pointer (some ⟨b1, 0, none⟩))), (5, .nod [.val (.int .u8 (a2.toNat : Int))])] 149, .var b1 [.val (.bool a3)] 4, .var b2 [.val v5] 22, .var b3 [.val (.int .i64 a4)] 3, .var b4 [.val (.int .i64 a5)] 3, .row v5 (List.map (eI .i64) a6) 1 3], 149⟩) (fun _ h => h) ?_ ?_
 rotate_left
 · rintro _ rfl
   show T (X.inR b0) _ _ _
   rcases ite_some h0 with ⟨c35, h0⟩ | ⟨c35, h0⟩
   · refine T.condT rfl (c35) ?_
     refine T.seq ?_
     refine T.region ?_
     refine TL.op0 (OpR.store 1 rfl rfl rfl rfl rfl rfl rfl rfl) ?_
     refine TL.nil ?_
     show T (X.inR b0) _ _ _
     refine T.ret ?_
     obtain rfl := Option.some.inj h0
     exact RoundG.mk (ks := [0, 1, 2, 3, 4, 5]) (Gst.only [] rfl) undef rfl rfl rfl rfl rfl
   refine T.condF rfl (eq_false_of_ne_true c35) ?_
   refine T.skip ?_
   show T (X.inR b0) _ _ _
   refine T.seq ?_
   refine T.region ?_
   refine TL.op1 (OpR.loadPtr 4 rfl rfl rfl rfl) rfl ?_
   refine TL.op1 (OpR.pure rfl) rfl ?_
   refine TL.op0 (OpR.store 4 rfl rfl rfl rfl rfl rfl rfl rfl) ?_
   refine TL.nil ?_
   show T (X.inR b0) _ _ _
   refine T.seq ?_
   refine T.region ?_
   refine TL.op1 (OpR.loadPtr 4 rfl rfl rfl rfl) rfl ?_
   refine TL.op1 (OpR.pure rfl) rfl ?_
   refine TL.op1 (OpR.cast (OpR.pure rfl) (intE (w64_u8 _))) rfl ?_
   refine TL.op1 (OpR.pure rfl) rfl ?_
   refine TL.nil ?_
   show T (X.inR b0) _ _ _
   rcases ite_some h0 with ⟨c36, h0⟩ | ⟨c36, h0⟩
   · refine T.condT rfl (beq_iff_eq.2 c36) ?_
     refine T.exit ?_
     obtain rfl := Option.some.inj h0
     exact RoundG.mk (ks := [0, 1, 2, 3, 4, 5]) (Gst.only [] rfl) undef rfl rfl rfl rfl rfl
   refine T.condF rfl (beq_eq_false_iff_ne.2 c36) ?_
   refine T.skip ?_
   obtain rfl := Option.some.inj h0
   exact RoundG.mk (ks := [0, 1, 2, 3, 4, 5]) (Gst.only [] rfl) undef rfl rfl rfl rfl rfl
 refine T.region ?_
 refine TL.op1 (OpR.pure rfl) rfl ?_
 refine TL.op1 (OpR.pure rfl) rfl ?_
 refine TL.op1 (OpR.pure rfl) rfl ?_
 rcases ite_some ht31 with ⟨c32, ht31⟩ | ⟨c32, ht31⟩
 · refine TL.off rfl rfl rfl rfl (decide_eq_true c32) rfl rfl ?_
   refine TL.off rfl rfl rfl rfl (decide_eq_true c32) rfl rfl ?_
   refine TL.off rfl rfl rfl rfl (decide_eq_true c32) rfl rfl ?_
   refine TL.off rfl rfl rfl rfl (decide_eq_true c32) rfl rfl ?_
   refine TL.off rfl rfl rfl rfl (decide_eq_true c32) rfl rfl ?_
   refine TL.op1 (OpR.pickT rfl (decide_eq_true c32) rfl) rfl ?_
   refine TL.op1 (OpR.pure rfl) rfl ?_
   refine TL.off rfl rfl rfl rfl rfl rfl rfl ?_
   refine TL.off rfl rfl rfl rfl rfl rfl rfl ?_
   refine TL.off rfl rfl rfl rfl rfl rfl rfl ?_
   refine TL.off rfl rfl rfl rfl rfl rfl rfl ?_
   refine TL.off rfl rfl rfl rfl rfl rfl rfl ?_
   refine TL.off rfl rfl rfl rfl rfl rfl rfl ?_
   refine TL.op1 (OpR.pickT rfl rfl rfl) rfl ?_
   refine TL.nil ?_
   obtain rfl := Option.some.inj ht31
   exact ⟨_, Gst.only [5, 6, 17, 115] rfl, rfl⟩
 refine TL.on rfl rfl rfl rfl (decide_eq_false c32) ?_
 refine TL.op1 (OpR.pure rfl) rfl ?_
 refine TL.on rfl rfl rfl rfl (decide_eq_false c32) ?_
 refine TL.op1 (OpR.loadPtr 3 rfl rfl rfl rfl) rfl ?_
 refine TL.on rfl rfl rfl rfl (decide_eq_false c32) ?_
 refine TL.op1 (OpR.pure rfl) rfl ?_
 refine TL.on rfl rfl rfl rfl (decide_eq_false c32) ?_
 refine TL.op1 (OpR.pure rfl) rfl ?_
 refine TL.on rfl rfl rfl rfl (decide_eq_false c32) ?_
 refine TL.op1 (OpR.pure rfl) rfl ?_
 refine TL.op1 (OpR.pickF rfl (decide_eq_false c32) rfl) rfl ?_
 refine TL.op1 (OpR.pure rfl) rfl ?_
 rcases ite_some ht31 with ⟨c33, ht31⟩ | ⟨c33, ht31⟩
 rotate_left
 · refine TL.off rfl rfl rfl rfl (not_f (beq_eq_false_iff_ne.2 c33)) rfl rfl ?_
   refine TL.off rfl rfl rfl rfl (not_f (beq_eq_false_iff_ne.2 c33)) rfl rfl ?_
   refine TL.off rfl rfl rfl rfl (not_f (beq_eq_false_iff_ne.2 c33)) rfl rfl ?_
   refine TL.off rfl rfl rfl rfl (not_f (beq_eq_false_iff_ne.2 c33)) rfl rfl ?_
   refine TL.off rfl rfl rfl rfl (not_f (beq_eq_false_iff_ne.2 c33)) rfl rfl ?_
   refine TL.off rfl rfl rfl rfl (not_f (beq_eq_false_iff_ne.2 c33)) rfl rfl ?_
   refine TL.op1 (OpR.pickT rfl (not_f (beq_eq_false_iff_ne.2 c33)) rfl) rfl ?_
   refine TL.nil ?_
   obtain rfl := Option.some.inj ht31
   exact ⟨_, Gst.only [5, 6, 17, 115] rfl, rfl⟩
 refine TL.on rfl rfl rfl rfl (not_t (beq_iff_eq.2 c33)) ?_
 refine TL.op1 (OpR.pure rfl) rfl ?_
 refine TL.on rfl rfl rfl rfl (not_t (beq_iff_eq.2 c33)) ?_
 refine TL.op1 (OpR.loadPtr 2 rfl rfl rfl rfl) rfl ?_
 refine TL.on rfl rfl rfl rfl (not_t (beq_iff_eq.2 c33)) ?_
 refine TL.op1 (OpR.pure rfl) rfl ?_
 refine TL.on rfl rfl rfl rfl (not_t (beq_iff_eq.2 c33)) ?_
 obtain ⟨x34, hx34, ht31⟩ := bnd_some ht31
 refine TL.op1 (OpR.rowIndexM (eI .i64) 5 hx34 rfl rfl rfl rfl rfl rfl rfl) rfl ?_
 refine TL.on rfl rfl rfl rfl (not_t (beq_iff_eq.2 c33)) ?_
 refine TL.op1 (OpR.rowLoad0M (j := w64 ((w64 ((a6.length : Int) - 1)) - a5)) (eI .i64) 5 hx34 rfl rfl rfl rfl) rfl ?_
 refine TL.on rfl rfl rfl rfl (not_t (beq_iff_eq.2 c33)) ?_
 refine TL.op1 (OpR.pure rfl) rfl ?_
 refine TL.op1 (OpR.pickF rfl (not_t (beq_iff_eq.2 c33)) rfl) rfl ?_
 refine TL.nil ?_
 obtain rfl := Option.some.inj ht31
 exact ⟨_, Gst.only [5, 6, 17, 115] rfl, rfl⟩
theorem law10_WalkGoes_r1_cx1 {a0 : Int} {a1 : Int} {a2 : UInt8} {a3 : Bool} {a4 : Int} {a5 : Int} {a6 : List Int} {b0 : Nat} {b1 : Nat} {b2 : Nat} {b3 : Nat} {b4 : Nat} {v5 : Value} {res : Bool} (h0 : law10_WalkGoes_r1 a0 a1 a2 a3 a4 a5 a6 = some (Sum.inl res)) : RoundF X b0 [.val (.int .i64 a0), .val (.int .i64 a1)] [.lp b0 .ready none [92, 93] rfA10_1 rfB10_1 [(17, .val (.pointer (some ⟨b4, 0, none⟩))), (9, .val (.pointer (some ⟨b3, 0, none⟩))), (8, .val (.pointer (some ⟨b2, 0, none⟩))), (6, .val (.pointer (some ⟨b1, 0, none⟩))), (5, .nod [.val (.int .u8 (a2.toNat : Int))])] 149, .var b1 [.val (.bool a3)] 4, .var b2 [.val v5] 22, .var b3 [.val (.int .i64 a4)] 3, .var b4 [.val (.int .i64 a5)] 3, .row v5 (List.map (eI .i64) a6) 1 3] (fun x => .val (.bool false)) (fun x => [.lp b0 .done (some (.ret)) [92, 93] rfA10_1 rfB10_1 [(17, .val (.pointer (some ⟨b4, 0, none⟩))), (9, .val (.pointer (some ⟨b3, 0, none⟩))), (8, .val (.pointer (some ⟨b2, 0, none⟩))), (6, .val (.pointer (some ⟨b1, 0, none⟩))), (5, .nod [.val (.int .u8 (a2.toNat : Int))])] 149, .var b1 [.val (.bool res)] 4, .var b2 [.val v5] 22, .var b3 [.val (.int .i64 a4)] 3, .var b4 [.val (.int .i64 a5)] 3, .row v5 (List.map (eI .i64) a6) 1 3]) := law10_WalkGoes_r1_c h0
theorem law10_WalkGoes_r1_cx2 {a0 : Int} {a1 : Int} {a2 : UInt8} {a3 : Bool} {a4 : Int} {a5 : Int} {a6 : List Int} {b0 : Nat} {b1 : Nat} {b2 : Nat} {b3 : Nat} {b4 : Nat} {v5 : Value} {res : Int} (h0 : law10_WalkGoes_r1 a0 a1 a2 a3 a4 a5 a6 = some (Sum.inr (Sum.inl res))) : RoundF X b0 [.val (.int .i64 a0), .val (.int .i64 a1)] [.lp b0 .ready none [92, 93] rfA10_1 rfB10_1 [(17, .val (.pointer (some ⟨b4, 0, none⟩))), (9, .val (.pointer (some ⟨b3, 0, none⟩))), (8, .val (.pointer (some ⟨b2, 0, none⟩))), (6, .val (.pointer (some ⟨b1, 0, none⟩))), (5, .nod [.val (.int .u8 (a2.toNat : Int))])] 149, .var b1 [.val (.bool a3)] 4, .var b2 [.val v5] 22, .var b3 [.val (.int .i64 a4)] 3, .var b4 [.val (.int .i64 a5)] 3, .row v5 (List.map (eI .i64) a6) 1 3] (fun x => .val (.bool false)) (fun x => [.lp b0 .done (some (.exit 4)) [92, 93] rfA10_1 rfB10_1 [(17, .val (.pointer (some ⟨b4, 0, none⟩))), (9, .val (.pointer (some ⟨b3, 0, none⟩))), (8, .val (.pointer (some ⟨b2, 0, none⟩))), (6, .val (.pointer (some ⟨b1, 0, none⟩))), (5, .nod [.val (.int .u8 (a2.toNat : Int))])] 149, .var b1 [.val (.bool a3)] 4, .var b2 [.val v5] 22, .var b3 [.val (.int .i64 a4)] 3, .var b4 [.val (.int .i64 res)] 3, .row v5 (List.map (eI .i64) a6) 1 3]) := law10_WalkGoes_r1_c h0
theorem law10_WalkGoes_r1_cx3 {a0 : Int} {a1 : Int} {a2 : UInt8} {a3 : Bool} {a4 : Int} {a5 : Int} {a6 : List Int} {b0 : Nat} {b1 : Nat} {b2 : Nat} {b3 : Nat} {b4 : Nat} {v5 : Value} {res : Int} (h0 : law10_WalkGoes_r1 a0 a1 a2 a3 a4 a5 a6 = some (Sum.inr (Sum.inr res))) : RoundF X b0 [.val (.int .i64 a0), .val (.int .i64 a1)] [.lp b0 .ready none [92, 93] rfA10_1 rfB10_1 [(17, .val (.pointer (some ⟨b4, 0, none⟩))), (9, .val (.pointer (some ⟨b3, 0, none⟩))), (8, .val (.pointer (some ⟨b2, 0, none⟩))), (6, .val (.pointer (some ⟨b1, 0, none⟩))), (5, .nod [.val (.int .u8 (a2.toNat : Int))])] 149, .var b1 [.val (.bool a3)] 4, .var b2 [.val v5] 22, .var b3 [.val (.int .i64 a4)] 3, .var b4 [.val (.int .i64 a5)] 3, .row v5 (List.map (eI .i64) a6) 1 3] (fun x => .val (.bool true)) (fun x => [.lp b0 .ready none [92, 93] rfA10_1 rfB10_1 [(17, .val (.pointer (some ⟨b4, 0, none⟩))), (9, .val (.pointer (some ⟨b3, 0, none⟩))), (8, .val (.pointer (some ⟨b2, 0, none⟩))), (6, .val (.pointer (some ⟨b1, 0, none⟩))), (5, .nod [.val (.int .u8 (a2.toNat : Int))])] 149, .var b1 [.val (.bool a3)] 4, .var b2 [.val v5] 22, .var b3 [.val (.int .i64 a4)] 3, .var b4 [.val (.int .i64 res)] 3, .row v5 (List.map (eI .i64) a6) 1 3]) := law10_WalkGoes_r1_c h0
noncomputable def walk_Back_int_1.l1 (a0 : UInt8) (a1 : Int) (a4 : Bool) (a5 : Int) (a7 : List Int) (s9 : Int × Int × (List walk_frame_int)) : Option (Lp (Int × Int × (List walk_frame_int)) (Ex Int (Int ⊕ ((Bool × Int) ⊕ Int)))) :=
  if s9.1 ≥ a1 then
    bnd (walk_stack_int_top s9.2.2) fun x18 =>
    bnd (idx s9.2.2 x18) fun x19 =>
    bnd (if x19.fNext < 0 then
      bnd (walk_stack_int_back s9.2.2) fun x23 =>
      some x23.2
    else
      some s9.2.2 : Option (List walk_frame_int)) fun t20 =>
    bnd (walk_stack_int_top t20) fun x25 =>
    bnd (idx t20 x25) fun x26 =>
    bnd (some x26.fN) fun q27 => match q27 with
      | none =>
        none
      | some z28 =>
        bnd (o_tree_Node_int z28) fun x30 =>
        bnd (idx x30.fItems x26.fNext) fun x32 =>
        bnd (law10_WalkGoes_r1 s9.1 x32 a0 a4 a5 s9.2.1 a7) fun x33 =>
        match x33 with
        | .inl x33 =>
            some (Lp.done (Ex.ret (Sum.inr (Sum.inl (x33, s9.2.1)))))
        | .inr (.inl x33) =>
            some (Lp.done (Ex.ret (Sum.inr (Sum.inr x33))))
        | .inr (.inr x33) =>
            some (Lp.next (w64 (s9.1 - 1), x33, (t20.set x25.toNat (⟨x26.fN, x26.fFirst, w64 (x26.fNext - 1)⟩ : walk_frame_int))))
  else
    some (Lp.done (Ex.brk s9.2.1))
noncomputable def walk_Back_int_1 (a0 : UInt8) (a1 : Int) (a2 : Int) (a3 : Option NP) (a4 : Bool) (a5 : Int) (a6 : Int) (a7 : List Int) : Option (Int ⊕ ((Bool × Int) ⊕ Int)) :=
  if a1 = a2 then
    some (Sum.inl a6)
  else
    bnd (tree_Tree_int_Root (⟨a3⟩ : tree_Tree_int)) fun x4 =>
    match x4 with
    | .inl x4 =>
        none
    | .inr x4 =>
        bnd (walk_stack_int_down x4.1 x4.2.1 x4.2.2 0 (w64 (a2 - 1))) fun x5 =>
        bnd (loop (walk_Back_int_1.l1 a0 a1 a4 a5 a7) (w64 (a2 - 1), a6, x5) : Option (Ex Int (Int ⊕ ((Bool × Int) ⊕ Int)))) fun t6 => match t6 with
          | .brk u7 =>
            some (Sum.inl u7)
          | .ret u7 => some u7
set_option maxHeartbeats 4000000 in
theorem walk_Back_int_1_c {a0 : UInt8} {a1 : Int} {a2 : Int} {a3 : Option NP} {a4 : Bool} {a5 : Int} {a6 : Int} {a7 : List Int} {b0 : Nat} {b1 : Nat} {b2 : Nat} {b3 : Nat} {b4 : Nat} {b5 : Nat} {b6 : Nat} {b7 : Nat} {v8 : Value} {res : Int ⊕ ((Bool × Int) ⊕ Int)} (h0 : walk_Back_int_1 a0 a1 a2 a3 a4 a5 a6 a7 = some res) : CallF X 72 [.fn (.yield b0) [] [], .val (.pointer (some ⟨b1, 0, none⟩)), .val (.pointer (some ⟨b2, 0, none⟩)), .val (.pointer (some ⟨b3, 0, none⟩))] [.lp b0 .ready none [92, 93] rfA10_1 rfB10_1 [(17, .val (.pointer (some ⟨b7, 0, none⟩))), (9, .val (.pointer (some ⟨b6, 0, none⟩))), (8, .val (.pointer (some ⟨b5, 0, none⟩))), (6, .val (.pointer (some ⟨b4, 0, none⟩))), (5, .nod [.val (.int .u8 (a0.toNat : Int))])] 149, .var b1 [.val (.int .i64 a1)] 3, .var b2 [.val (.int .i64 a2)] 3, .var b3 [(eOP a3)] 27, .var b4 [.val (.bool a4)] 4, .var b5 [.val v8] 22, .var b6 [.val (.int .i64 a5)] 3, .var b7 [.val (.int .i64 a6)] 3, .row v8 (List.map (eI .i64) a7) 1 3] (fun x => (match res with | .inl res => .tup [] | .inr (.inl res) => .tup [] | .inr (.inr res) => .tup [])) (fun x => (match res with | .inl res => [.lp b0 .ready none [92, 93] rfA10_1 rfB10_1 [(17, .val (.pointer (some ⟨b7, 0, none⟩))), (9, .val (.pointer (some ⟨b6, 0, none⟩))), (8, .val (.pointer (some ⟨b5, 0, none⟩))), (6, .val (.pointer (some ⟨b4, 0, none⟩))), (5, .nod [.val (.int .u8 (a0.toNat : Int))])] 149, .var b1 [.val (.int .i64 a1)] 3, .var b2 [.val (.int .i64 a2)] 3, .var b3 [(eOP a3)] 27, .var b4 [.val (.bool a4)] 4, .var b5 [.val v8] 22, .var b6 [.val (.int .i64 a5)] 3, .var b7 [.val (.int .i64 res)] 3, .row v8 (List.map (eI .i64) a7) 1 3] | .inr (.inl res) => [.lp b0 .done (some (.ret)) [92, 93] rfA10_1 rfB10_1 [(17, .val (.pointer (some ⟨b7, 0, none⟩))), (9, .val (.pointer (some ⟨b6, 0, none⟩))), (8, .val (.pointer (some ⟨b5, 0, none⟩))), (6, .val (.pointer (some ⟨b4, 0, none⟩))), (5, .nod [.val (.int .u8 (a0.toNat : Int))])] 149, .var b1 [.val (.int .i64 a1)] 3, .var b2 [.val (.int .i64 a2)] 3, .var b3 [(eOP a3)] 27, .var b4 [.val (.bool res.1)] 4, .var b5 [.val v8] 22, .var b6 [.val (.int .i64 a5)] 3, .var b7 [.val (.int .i64 res.2)] 3, .row v8 (List.map (eI .i64) a7) 1 3] | .inr (.inr res) => [.lp b0 .done (some (.exit 4)) [92, 93] rfA10_1 rfB10_1 [(17, .val (.pointer (some ⟨b7, 0, none⟩))), (9, .val (.pointer (some ⟨b6, 0, none⟩))), (8, .val (.pointer (some ⟨b5, 0, none⟩))), (6, .val (.pointer (some ⟨b4, 0, none⟩))), (5, .nod [.val (.int .u8 (a0.toNat : Int))])] 149, .var b1 [.val (.int .i64 a1)] 3, .var b2 [.val (.int .i64 a2)] 3, .var b3 [(eOP a3)] 27, .var b4 [.val (.bool a4)] 4, .var b5 [.val v8] 22, .var b6 [.val (.int .i64 a5)] 3, .var b7 [.val (.int .i64 res)] 3, .row v8 (List.map (eI .i64) a7) 1 3])) := by
 unfold walk_Back_int_1 at h0
 refine CallF.mkG (X := X) rfl Try.func72 rfl rfl Try.ntmps72 rfl rfl ?_
 refine T.seq ?_
 refine T.seq ?_
 refine T.region ?_
 refine TL.op1 (OpR.loadPtr 1 rfl rfl rfl rfl) rfl ?_
 refine TL.op1 (OpR.loadPtr 2 rfl rfl rfl rfl) rfl ?_
 refine TL.op1 (OpR.pure rfl) rfl ?_
 refine TL.nil ?_
 show T X _ _ _
 rcases ite_some h0 with ⟨c1, h0⟩ | ⟨c1, h0⟩
 · refine T.condT rfl (beq_iff_eq.2 c1) ?_
   refine T.ret ?_
   obtain rfl := Option.some.inj h0
   exact PostG.retP (ks := [0, 1, 2, 3, 4, 5, 6, 7, 8]) (Gst.only [] rfl) undef ResL.nil rfl rfl rfl rfl
 refine T.condF rfl (beq_eq_false_iff_ne.2 c1) ?_
 refine T.skip ?_
 show T X _ _ _
 refine T.seq ?_
 refine T.region ?_
 refine TL.op (OpR.alloc rfl rfl (fun _ => rfl)) rfl (fun p2 => ?_)
 refine TL.nil ?_
 show T X _ _ _
 refine T.seq ?_
 obtain ⟨x4, hx4, h0⟩ := bnd_some h0
 rcases x4 with x4 | x4
 · dsimp only at h0
   exact (by cases h0)
 dsimp only at h0
 obtain ⟨x5, hx5, h0⟩ := bnd_some h0
 refine T.drawS drawsX (fun env3 => [.agg [(eOP a3)], .nod [.sl 1 (List.map eNP x4.1), .sl 1 (List.map (eI .i64) x4.2.1), .val (.int .i64 x4.2.2)], .val (.int .i64 a2), .val (.int .i64 (w64 (a2 - 1))), .tup []]) (fun D env3 => [.lp b0 .ready none [92, 93] rfA10_1 rfB10_1 [(17, .val (.pointer (some ⟨b7, 0, none⟩))), (9, .val (.pointer (some ⟨b6, 0, none⟩))), (8, .val (.pointer (some ⟨b5, 0, none⟩))), (6, .val (.pointer (some ⟨b4, 0, none⟩))), (5, .nod [.val (.int .u8 (a0.toNat : Int))])] 149, .var b1 [.val (.int .i64 a1)] 3, .var b2 [.val (.int .i64 a2)] 3, .var b3 [(eOP a3)] 27, .var b4 [.val (.bool a4)] 4, .var b5 [.val v8] 22, .var b6 [.val (.int .i64 a5)] 3, .var b7 [.val (.int .i64 a6)] 3, .row v8 (List.map (eI .i64) a7) 1 3, (bif D 4 then .var (blk p2) [.val (vn (env3 4) 0)] 109 else .var (blk p2) [.val (.slice none 0 0)] 109)] ++ (bif D 4 then [.row (vn (env3 4) 0) (List.map e_walk_frame_int x5) 3 114] else [])) [0, 1, 0, 4, 15] [0, 1, 2, 3, 5, 8, 9, 10, 11, 12, 13, 14, 15] (fun env3 => [.lp b0 .ready none [92, 93] rfA10_1 rfB10_1 [(17, .val (.pointer (some ⟨b7, 0, none⟩))), (9, .val (.pointer (some ⟨b6, 0, none⟩))), (8, .val (.pointer (some ⟨b5, 0, none⟩))), (6, .val (.pointer (some ⟨b4, 0, none⟩))), (5, .nod [.val (.int .u8 (a0.toNat : Int))])] 149, .var b1 [.val (.int .i64 a1)] 3, .var b2 [.val (.int .i64 a2)] 3, .var b3 [(eOP a3)] 27, .var b4 [.val (.bool a4)] 4, .var b5 [.val v8] 22, .var b6 [.val (.int .i64 a5)] 3, .var b7 [.val (.int .i64 a6)] 3, .row v8 (List.map (eI .i64) a7) 1 3, .var (blk p2) [.val (vn (env3 4) 0)] 109, .row (vn (env3 4) 0) (List.map e_walk_frame_int x5) 3 114]) (by decide +kernel) (by decide +kernel) (fun _ => rfl) (fun _ => rfl) ?_ (fun _ => rfl) (fun _ => rfl) ?_
 · refine oS (d := .agg [(eOP a3)]) (fun _ => Want.plain rfl) (fun _ => rfl) (fun _ _ _ => rfl) (fun _ _ => OpR.loadPtr 3 rfl rfl rfl rfl) (fun _ _ _ _ _ _ _ => rfl) ?_
   refine oS (d := .nod [.sl 1 (List.map eNP x4.1), .sl 1 (List.map (eI .i64) x4.2.1), .val (.int .i64 x4.2.2)]) (fun _ => Want.plain rfl) (fun _ => rfl) (fun _ _ _ => rfl) (fun _ _ => OpR.call0 fn46 (tree_Tree_int_Root_cx2 hx4) rfl) (fun _ _ _ _ _ _ _ => rfl) ?_
   refine oS (d := .val (.int .i64 a2)) (fun _ => Want.plain rfl) (fun _ => rfl) (fun _ _ _ => rfl) (fun _ _ => OpR.loadPtr 2 rfl rfl rfl rfl) (fun _ _ _ _ _ _ _ => rfl) ?_
   refine oS (d := .val (.int .i64 (w64 (a2 - 1)))) (fun _ => Want.plain rfl) (fun _ => rfl) (fun _ _ _ => rfl) (fun _ _ => OpR.pure rfl) (fun _ _ _ _ _ _ _ => rfl) ?_
   refine OpsS.cons' true ?_ (fun D hA env3 x j hj hD => match j, hj, hD with | 0, _, _ => rfl | 1, _, _ => rfl | 2, _, _ => rfl | 3, _, _ => rfl | 4, hj, _ => absurd rfl hj | _ + 5, _, _ => rfl) ?_
   · intro D env3 hA
     exact OpS.yes (o0 := [.lp b0 .ready none [92, 93] rfA10_1 rfB10_1 [(17, .val (.pointer (some ⟨b7, 0, none⟩))), (9, .val (.pointer (some ⟨b6, 0, none⟩))), (8, .val (.pointer (some ⟨b5, 0, none⟩))), (6, .val (.pointer (some ⟨b4, 0, none⟩))), (5, .nod [.val (.int .u8 (a0.toNat : Int))])] 149, .var b1 [.val (.int .i64 a1)] 3, .var b2 [.val (.int .i64 a2)] 3, .var b3 [(eOP a3)] 27, .var b4 [.val (.bool a4)] 4, .var b5 [.val v8] 22, .var b6 [.val (.int .i64 a5)] 3, .var b7 [.val (.int .i64 a6)] 3, .row v8 (List.map (eI .i64) a7) 1 3, .var (blk p2) [.val (.slice none 0 0)] 109]) (o1 := fun x => [.lp b0 .ready none [92, 93] rfA10_1 rfB10_1 [(17, .val (.pointer (some ⟨b7, 0, none⟩))), (9, .val (.pointer (some ⟨b6, 0, none⟩))), (8, .val (.pointer (some ⟨b5, 0, none⟩))), (6, .val (.pointer (some ⟨b4, 0, none⟩))), (5, .nod [.val (.int .u8 (a0.toNat : Int))])] 149, .var b1 [.val (.int .i64 a1)] 3, .var b2 [.val (.int .i64 a2)] 3, .var b3 [(eOP a3)] 27, .var b4 [.val (.bool a4)] 4, .var b5 [.val v8] 22, .var b6 [.val (.int .i64 a5)] 3, .var b7 [.val (.int .i64 a6)] 3, .row v8 (List.map (eI .i64) a7) 1 3, .var (blk p2) [.val (vn x 0)] 109, .row (vn x 0) (List.map e_walk_frame_int x5) 3 114]) (d := fun x => .tup []) (Want.plain rfl) (by first | rfl | simp only [hA.me, cond_true, cond_false, List.cons_append, List.nil_append, List.append_nil]) (fun x => by first | rfl | simp only [ins_self, upd_self, hA.me, cond_true, cond_false, List.cons_append, List.nil_append, List.append_nil]) (fun x => rfl) (OpR.call [9] fn69 (walk_stack_int_down_c hx5) rfl rfl rfl (fun _ => rfl))
   exact trivial
 intro env3
 show T X _ _ _
 refine T.seq ?_
 refine T.region ?_
 refine TL.op1 (OpR.loadPtr 2 rfl rfl rfl rfl) rfl ?_
 refine TL.op1 (OpR.pure rfl) rfl ?_
 refine TL.op1 (OpR.pure rfl) rfl ?_
 refine TL.nil ?_
 show T X _ _ _
 obtain ⟨t6, ht6, h0⟩ := bnd_some h0
 refine T.cutN (fun S' => ∃ u7, t6 = Ex.brk u7 ∧ S' = ⟨[], [.lp b0 .ready none [92, 93] rfA10_1 rfB10_1 [(17, .val (.pointer (some ⟨b7, 0, none⟩))), (9, .val (.pointer (some ⟨b6, 0, none⟩))), (8, .val (.pointer (some ⟨b5, 0, none⟩))), (6, .val (.pointer (some ⟨b4, 0, none⟩))), (5, .nod [.val (.int .u8 (a0.toNat : Int))])] 149, .var b1 [.val (.int .i64 a1)] 3, .var b2 [.val (.int .i64 a2)] 3, .var b3 [(eOP a3)] 27, .var b4 [.val (.bool a4)] 4, .var b5 [.val v8] 22, .var b6 [.val (.int .i64 a5)] 3, .var b7 [.val (.int .i64 u7)] 3, .row v8 (List.map (eI .i64) a7) 1 3], 54⟩) (fun _ _ g ⟨h, S', ds, g', r⟩ => ⟨h, S', ds, Gst.trans g g', r⟩) ?_ ?_
 rotate_left
 · rintro _ ⟨u7, rfl, rfl⟩
   obtain rfl := Option.some.inj h0
   exact PostG.finP (ks := [0, 1, 2, 3, 4, 5, 6, 7, 8]) (Gst.only [] rfl) undef ResL.nil rfl rfl rfl rfl
 refine T.block ?_
 obtain ⟨n10, n15⟩ := loop_some ht6
 refine T.loop (fun n S' => ∃ S'', Gst S' S'' ∧ ∃ y8 : Value, ∃ s9 : Int × Int × (List walk_frame_int), S'' = ⟨[(6, .val (.int .i64 s9.1)), (5, .val (.pointer (some ⟨(blk p2), 0, none⟩))), (1, .val (.pointer (some ⟨b1, 0, none⟩))), (0, .fn (.yield b0) [] [])], [.lp b0 .ready none [92, 93] rfA10_1 rfB10_1 [(17, .val (.pointer (some ⟨b7, 0, none⟩))), (9, .val (.pointer (some ⟨b6, 0, none⟩))), (8, .val (.pointer (some ⟨b5, 0, none⟩))), (6, .val (.pointer (some ⟨b4, 0, none⟩))), (5, .nod [.val (.int .u8 (a0.toNat : Int))])] 149, .var b1 [.val (.int .i64 a1)] 3, .var b2 [.val (.int .i64 a2)] 3, .var b3 [(eOP a3)] 27, .var b4 [.val (.bool a4)] 4, .var b5 [.val v8] 22, .var b6 [.val (.int .i64 a5)] 3, .var b7 [.val (.int .i64 s9.2.1)] 3, .row v8 (List.map (eI .i64) a7) 1 3, .var (blk p2) [.val y8] 109, .row y8 (List.map e_walk_frame_int s9.2.2) 3 114], 54⟩ ∧ iter (walk_Back_int_1.l1 a0 a1 a4 a5 a7) n s9 = some t6) n10 ?_ ?_
 · exact ⟨_, Gst.only [0, 1, 5, 6] rfl, (vn (env3 4) 0), (w64 (a2 - 1), a6, x5), rfl, n15⟩
 rintro n10 _ ⟨_, g, y8, s9, rfl, i14⟩
 refine T.ghost g ?_
 obtain ⟨m11, q12, rfl, q13, i14⟩ := iter_succ i14
 unfold walk_Back_int_1.l1 at q13
 refine T.seq ?_
 refine T.seq ?_
 refine T.region ?_
 refine TL.op1 (OpR.pure rfl) rfl ?_
 refine TL.op1 (OpR.loadPtr 1 rfl rfl rfl rfl) rfl ?_
 refine TL.op1 (OpR.pure rfl) rfl ?_
 refine TL.nil ?_
 show T X _ _ _
 rcases ite_some q13 with ⟨c17, q13⟩ | ⟨c17, q13⟩
 rotate_left
 · refine T.condF rfl (decide_eq_false c17) ?_
   refine T.exit ?_
   obtain rfl := Option.some.inj q13
   obtain rfl : _ = _ := i14
   exact ⟨_, Gst.trans (Gst.only [] rfl) (Gst.pick [0, 1, 2, 3, 4, 5, 6, 7, 8] rfl rfl), _, rfl, rfl⟩
 refine T.condT rfl (decide_eq_true c17) ?_
 refine T.skip ?_
 show T X _ _ _
 refine T.seq ?_
 refine T.block ?_
 refine T.seq ?_
 refine T.seq ?_
 refine T.region ?_
 obtain ⟨x18, hx18, q13⟩ := bnd_some q13
 refine TL.op1 (OpR.call [9, 10] fn70 (walk_stack_int_top_c hx18) rfl rfl rfl (fun _ => rfl)) rfl ?_
 refine TL.op1 (OpR.pure rfl) rfl ?_
 refine TL.op1 (OpR.pure rfl) rfl ?_
 obtain ⟨x19, hx19, q13⟩ := bnd_some q13
 refine TL.op1 (OpR.rowLoadM (j := x18) e_walk_frame_int 10 hx19 rfl rfl rfl rfl) rfl ?_
 refine TL.op1 (OpR.pure rfl) rfl ?_
 refine TL.nil ?_
 show T X _ _ _
 obtain ⟨t20, ht20, q13⟩ := bnd_some q13
 refine T.cutC (fun S' => ∃ y21 : Value, S' = ⟨[(6, .val (.int .i64 s9.1)), (5, .val (.pointer (some ⟨(blk p2), 0, none⟩))), (1, .val (.pointer (some ⟨b1, 0, none⟩))), (0, .fn (.yield b0) [] [])], [.lp b0 .ready none [92, 93] rfA10_1 rfB10_1 [(17, .val (.pointer (some ⟨b7, 0, none⟩))), (9, .val (.pointer (some ⟨b6, 0, none⟩))), (8, .val (.pointer (some ⟨b5, 0, none⟩))), (6, .val (.pointer (some ⟨b4, 0, none⟩))), (5, .nod [.val (.int .u8 (a0.toNat : Int))])] 149, .var b1 [.val (.int .i64 a1)] 3, .var b2 [.val (.int .i64 a2)] 3, .var b3 [(eOP a3)] 27, .var b4 [.val (.bool a4)] 4, .var b5 [.val v8] 22, .var b6 [.val (.int .i64 a5)] 3, .var b7 [.val (.int .i64 s9.2.1)] 3, .row v8 (List.map (eI .i64) a7) 1 3, .var (blk p2) [.val y21] 109, .row y21 (List.map e_walk_frame_int t20) 3 114], 54⟩) (fun _ h => h) ?_ ?_
 · rcases ite_some ht20 with ⟨c22, ht20⟩ | ⟨c22, ht20⟩
   rotate_left
   · refine T.condF rfl (decide_eq_false c22) ?_
     refine T.skip ?_
     obtain rfl := Option.some.inj ht20
     exact ⟨_, Gst.only [0, 1, 5, 6] rfl, y8, rfl⟩
   refine T.condT rfl (decide_eq_true c22) ?_
   refine T.region ?_
   obtain ⟨x23, hx23, ht20⟩ := bnd_some ht20
   refine TL.op (OpR.call [9, 10] fn73 (walk_stack_int_back_c hx23) rfl rfl rfl (fun _ => rfl)) rfl (fun w24 => ?_)
   refine TL.nil ?_
   obtain rfl := Option.some.inj ht20
   exact ⟨_, Gst.only [0, 1, 5, 6] rfl, (vn w24 0), rfl⟩
 rintro _ ⟨y21, rfl⟩
 show T X _ _ _
 refine T.seq ?_
 refine T.region ?_
 obtain ⟨x25, hx25, q13⟩ := bnd_some q13
 refine TL.op1 (OpR.call [9, 10] fn70 (walk_stack_int_top_c hx25) rfl rfl rfl (fun _ => rfl)) rfl ?_
 refine TL.op1 (OpR.pure rfl) rfl ?_
 refine TL.nil ?_
 show T X _ _ _
 refine T.seq ?_
 refine T.seq ?_
 obtain ⟨x26, hx26, q13⟩ := bnd_some q13
 obtain ⟨q27, hq27, q13⟩ := bnd_some q13
 rcases q27 with _ | z28
 · dsimp only at q13
   exact (by cases q13)
 dsimp only at q13
 obtain ⟨x30, hx30, q13⟩ := bnd_some q13
 rw [o_tree_Node_int_eq hx30] at hq27
 obtain ⟨x32, hx32, q13⟩ := bnd_some q13
 obtain ⟨x33, hx33, q13⟩ := bnd_some q13
 rcases x33 with x33 | (x33 | x33)
 · dsimp only at q13
   refine T.drawS drawsX (fun env31 => [.fn (.yield b0) [] [], .val (.int .i64 s9.1), .val (.pointer (some ⟨blk y21, x25.toNat * 3, none⟩)), .val (.pointer (some ⟨blk y21, x25.toNat * 3, none⟩)), .val (.pointer (some ⟨blk y21, x25.toNat * 3, none⟩)), .nod [.sl 1 (List.map eNP x30.fKids), .sl 1 (List.map (eI .i64) x30.fItems), .val (.int .i64 x30.fN)], .nod [.sl 1 (List.map eNP x30.fKids), .sl 1 (List.map (eI .i64) x30.fItems), .val (.int .i64 x30.fN)], .nod [.sl 1 (List.map (eI .i64) x30.fItems), .val (.int .i64 x30.fN)], .sl 1 (List.map (eI .i64) x30.fItems), .val (.pointer (some ⟨blk y21, x25.toNat * 3, none⟩)), .val (.pointer (some ⟨blk y21, x25.toNat * 3, none⟩)), .val (.pointer (some ⟨blk y21, x25.toNat * 3 + 2, none⟩)), .val (.int .i64 x26.fNext), .nod [.val (.int .i64 x32)], .val (.int .i64 x32), .val (.bool false), .val (.bool true)]) (fun D env31 => [(bif D 15 then .lp b0 .done (some (.ret)) [92, 93] rfA10_1 rfB10_1 [(17, .val (.pointer (some ⟨b7, 0, none⟩))), (9, .val (.pointer (some ⟨b6, 0, none⟩))), (8, .val (.pointer (some ⟨b5, 0, none⟩))), (6, .val (.pointer (some ⟨b4, 0, none⟩))), (5, .nod [.val (.int .u8 (a0.toNat : Int))])] 149 else .lp b0 .ready none [92, 93] rfA10_1 rfB10_1 [(17, .val (.pointer (some ⟨b7, 0, none⟩))), (9, .val (.pointer (some ⟨b6, 0, none⟩))), (8, .val (.pointer (some ⟨b5, 0, none⟩))), (6, .val (.pointer (some ⟨b4, 0, none⟩))), (5, .nod [.val (.int .u8 (a0.toNat : Int))])] 149), .var b1 [.val (.int .i64 a1)] 3, .var b2 [.val (.int .i64 a2)] 3, .var b3 [(eOP a3)] 27, (bif D 15 then .var b4 [.val (.bool x33)] 4 else .var b4 [.val (.bool a4)] 4), .var b5 [.val v8] 22, .var b6 [.val (.int .i64 a5)] 3, .var b7 [.val (.int .i64 s9.2.1)] 3, .row v8 (List.map (eI .i64) a7) 1 3, .var (blk p2) [.val y21] 109, .row y21 (List.map e_walk_frame_int t20) 3 114]) [0, 0, 0, 4, 12, 28, 60, 124, 252, 0, 512, 1536, 3584, 8188, 16380, 32767, 65535] [0, 1, 5, 6, 7, 29, 30, 31, 32, 33, 34, 35, 36, 37, 38, 39, 40, 41, 42, 43, 44, 45, 46] (fun env31 => [.lp b0 .done (some (.ret)) [92, 93] rfA10_1 rfB10_1 [(17, .val (.pointer (some ⟨b7, 0, none⟩))), (9, .val (.pointer (some ⟨b6, 0, none⟩))), (8, .val (.pointer (some ⟨b5, 0, none⟩))), (6, .val (.pointer (some ⟨b4, 0, none⟩))), (5, .nod [.val (.int .u8 (a0.toNat : Int))])] 149, .var b1 [.val (.int .i64 a1)] 3, .var b2 [.val (.int .i64 a2)] 3, .var b3 [(eOP a3)] 27, .var b4 [.val (.bool x33)] 4, .var b5 [.val v8] 22, .var b6 [.val (.int .i64 a5)] 3, .var b7 [.val (.int .i64 s9.2.1)] 3, .row v8 (List.map (eI .i64) a7) 1 3, .var (blk p2) [.val y21] 109, .row y21 (List.map e_walk_frame_int t20) 3 114]) (by decide +kernel) (by decide +kernel) (fun _ => rfl) (fun _ => rfl) ?_ (fun _ => rfl) (fun _ => rfl) ?_
   rotate_left
   · intro env31
     show T X _ _ _
     refine T.condT rfl rfl ?_
     refine T.ret ?_
     obtain rfl := Option.some.inj q13
     obtain rfl : _ = _ := i14
     obtain rfl := Option.some.inj h0
     exact PostG.retP (ks := [0, 1, 2, 3, 4, 5, 6, 7, 8]) (Gst.trans (Gst.only [] rfl) (Gst.pick [0, 1, 2, 3, 4, 5, 6, 7, 8] rfl rfl)) undef ResL.nil rfl rfl rfl rfl
   refine oS (d := .fn (.yield b0) [] []) (fun _ => Want.plain rfl) (fun _ => rfl) (fun _ _ _ => rfl) (fun _ _ => OpR.pure rfl) (fun _ _ _ _ _ _ _ => rfl) ?_
   refine oS (d := .val (.int .i64 s9.1)) (fun _ => Want.plain rfl) (fun _ => rfl) (fun _ _ _ => rfl) (fun _ _ => OpR.pure rfl) (fun _ _ _ _ _ _ _ => rfl) ?_
   refine oS (d := .val (.pointer (some ⟨blk y21, x25.toNat * 3, none⟩))) (fun _ => Want.plain rfl) (fun _ => rfl) (fun _ _ _ => rfl) (fun _ _ => OpR.pure rfl) (fun _ _ _ _ _ _ _ => rfl) ?_
   refine oS (d := .val (.pointer (some ⟨blk y21, x25.toNat * 3, none⟩))) (fun _ => Want.plain rfl) (fun _ => rfl) (fun _ _ _ => rfl) (fun _ _ => OpR.pure rfl) (fun _ _ _ _ _ _ _ => rfl) ?_
   refine oS (d := .val (.pointer (some ⟨blk y21, x25.toNat * 3, none⟩))) (fun _ => Want.plain rfl) (fun _ => rfl) (fun _ _ _ => rfl) (fun _ _ => OpR.pure rfl) (fun _ _ _ _ _ _ _ => rfl) ?_
   refine oS (d := .nod [.sl 1 (List.map eNP x30.fKids), .sl 1 (List.map (eI .i64) x30.fItems), .val (.int .i64 x30.fN)]) (fun _ => Want.plain rfl) (fun _ => rfl) (fun _ _ _ => rfl) (fun _ _ => OpR.cast (OpR.rowLoad0M (j := x25) e_walk_frame_int 10 hx26 rfl rfl rfl rfl) (congrArg eOP (Option.some.inj hq27))) (fun _ _ _ _ _ _ _ => rfl) ?_
   refine oS (d := .nod [.sl 1 (List.map eNP x30.fKids), .sl 1 (List.map (eI .i64) x30.fItems), .val (.int .i64 x30.fN)]) (fun _ => Want.plain rfl) (fun _ => rfl) (fun _ _ _ => rfl) (fun _ _ => OpR.pure rfl) (fun _ _ _ _ _ _ _ => rfl) ?_
   refine oS (d := .nod [.sl 1 (List.map (eI .i64) x30.fItems), .val (.int .i64 x30.fN)]) (fun _ => Want.plain rfl) (fun _ => rfl) (fun _ _ _ => rfl) (fun _ _ => OpR.pure rfl) (fun _ _ _ _ _ _ _ => rfl) ?_
   refine oS (d := .sl 1 (List.map (eI .i64) x30.fItems)) (fun _ => Want.plain rfl) (fun _ => rfl) (fun _ _ _ => rfl) (fun _ _ => OpR.pure rfl) (fun _ _ _ _ _ _ _ => rfl) ?_
   refine oS (d := .val (.pointer (some ⟨blk y21, x25.toNat * 3, none⟩))) (fun _ => Want.plain rfl) (fun _ => rfl) (fun _ _ _ => rfl) (fun _ _ => OpR.pure rfl) (fun _ _ _ _ _ _ _ => rfl) ?_
   refine oS (d := .val (.pointer (some ⟨blk y21, x25.toNat * 3, none⟩))) (fun _ => Want.plain rfl) (fun _ => rfl) (fun _ _ _ => rfl) (fun _ _ => OpR.pure rfl) (fun _ _ _ _ _ _ _ => rfl) ?_
   refine oS (d := .val (.pointer (some ⟨blk y21, x25.toNat * 3 + 2, none⟩))) (fun _ => Want.plain rfl) (fun _ => rfl) (fun _ _ _ => rfl) (fun _ _ => OpR.pure rfl) (fun _ _ _ _ _ _ _ => rfl) ?_
   refine oS (d := .val (.int .i64 x26.fNext)) (fun _ => Want.plain rfl) (fun _ => rfl) (fun _ _ _ => rfl) (fun _ _ => OpR.rowLoadM (j := x25) e_walk_frame_int 10 hx26 rfl rfl rfl rfl) (fun _ _ _ _ _ _ _ => rfl) ?_
   refine oS (d := .nod [.val (.int .i64 x32)]) (fun _ => Want.plain rfl) (fun _ => rfl) (fun _ _ _ => rfl) (fun _ _ => OpR.indexM (eI .i64) hx32 rfl rfl rfl rfl rfl) (fun _ _ _ _ _ _ _ => rfl) ?_
   refine oS (d := .val (.int .i64 x32)) (fun _ => Want.plain rfl) (fun _ => rfl) (fun _ _ _ => rfl) (fun _ _ => OpR.pure rfl) (fun _ _ _ _ _ _ _ => rfl) ?_
   refine OpsS.cons' true ?_ (fun _ _ _ _ _ _ _ => rfl) ?_
   · intro D env31 hA
     exact OpS.yes (o0 := [.lp b0 .ready none [92, 93] rfA10_1 rfB10_1 [(17, .val (.pointer (some ⟨b7, 0, none⟩))), (9, .val (.pointer (some ⟨b6, 0, none⟩))), (8, .val (.pointer (some ⟨b5, 0, none⟩))), (6, .val (.pointer (some ⟨b4, 0, none⟩))), (5, .nod [.val (.int .u8 (a0.toNat : Int))])] 149, .var b1 [.val (.int .i64 a1)] 3, .var b2 [.val (.int .i64 a2)] 3, .var b3 [(eOP a3)] 27, .var b4 [.val (.bool a4)] 4, .var b5 [.val v8] 22, .var b6 [.val (.int .i64 a5)] 3, .var b7 [.val (.int .i64 s9.2.1)] 3, .row v8 (List.map (eI .i64) a7) 1 3, .var (blk p2) [.val y21] 109, .row y21 (List.map e_walk_frame_int t20) 3 114]) (o1 := fun x => [.lp b0 .done (some (.ret)) [92, 93] rfA10_1 rfB10_1 [(17, .val (.pointer (some ⟨b7, 0, none⟩))), (9, .val (.pointer (some ⟨b6, 0, none⟩))), (8, .val (.pointer (some ⟨b5, 0, none⟩))), (6, .val (.pointer (some ⟨b4, 0, none⟩))), (5, .nod [.val (.int .u8 (a0.toNat : Int))])] 149, .var b1 [.val (.int .i64 a1)] 3, .var b2 [.val (.int .i64 a2)] 3, .var b3 [(eOP a3)] 27, .var b4 [.val (.bool x33)] 4, .var b5 [.val v8] 22, .var b6 [.val (.int .i64 a5)] 3, .var b7 [.val (.int .i64 s9.2.1)] 3, .row v8 (List.map (eI .i64) a7) 1 3, .var (blk p2) [.val y21] 109, .row y21 (List.map e_walk_frame_int t20) 3 114]) (d := fun x => .val (.bool false)) (Want.plain rfl) (by first | rfl | simp only [hA.me, cond_true, cond_false, List.cons_append, List.nil_append, List.append_nil]) (fun x => by first | rfl | simp only [ins_self, upd_self, hA.me, cond_true, cond_false, List.cons_append, List.nil_append, List.append_nil]) (fun x => rfl) (OpR.callY [0, 4, 5, 6, 7, 8] rfl (law10_WalkGoes_r1_cx1 hx33) rfl rfl rfl (fun _ => rfl))
   refine oS (d := .val (.bool true)) (fun _ => Want.plain rfl) (fun _ => rfl) (fun _ _ _ => rfl) (fun _ _ => OpR.pure rfl) (fun _ _ _ _ _ _ _ => rfl) ?_
   exact trivial
 · dsimp only at q13
   refine T.drawS drawsX (fun env31 => [.fn (.yield b0) [] [], .val (.int .i64 s9.1), .val (.pointer (some ⟨blk y21, x25.toNat * 3, none⟩)), .val (.pointer (some ⟨blk y21, x25.toNat * 3, none⟩)), .val (.pointer (some ⟨blk y21, x25.toNat * 3, none⟩)), .nod [.sl 1 (List.map eNP x30.fKids), .sl 1 (List.map (eI .i64) x30.fItems), .val (.int .i64 x30.fN)], .nod [.sl 1 (List.map eNP x30.fKids), .sl 1 (List.map (eI .i64) x30.fItems), .val (.int .i64 x30.fN)], .nod [.sl 1 (List.map (eI .i64) x30.fItems), .val (.int .i64 x30.fN)], .sl 1 (List.map (eI .i64) x30.fItems), .val (.pointer (some ⟨blk y21, x25.toNat * 3, none⟩)), .val (.pointer (some ⟨blk y21, x25.toNat * 3, none⟩)), .val (.pointer (some ⟨blk y21, x25.toNat * 3 + 2, none⟩)), .val (.int .i64 x26.fNext), .nod [.val (.int .i64 x32)], .val (.int .i64 x32), .val (.bool false), .val (.bool true)]) (fun D env31 => [(bif D 15 then .lp b0 .done (some (.exit 4)) [92, 93] rfA10_1 rfB10_1 [(17, .val (.pointer (some ⟨b7, 0, none⟩))), (9, .val (.pointer (some ⟨b6, 0, none⟩))), (8, .val (.pointer (some ⟨b5, 0, none⟩))), (6, .val (.pointer (some ⟨b4, 0, none⟩))), (5, .nod [.val (.int .u8 (a0.toNat : Int))])] 149 else .lp b0 .ready none [92, 93] rfA10_1 rfB10_1 [(17, .val (.pointer (some ⟨b7, 0, none⟩))), (9, .val (.pointer (some ⟨b6, 0, none⟩))), (8, .val (.pointer (some ⟨b5, 0, none⟩))), (6, .val (.pointer (some ⟨b4, 0, none⟩))), (5, .nod [.val (.int .u8 (a0.toNat : Int))])] 149), .var b1 [.val (.int .i64 a1)] 3, .var b2 [.val (.int .i64 a2)] 3, .var b3 [(eOP a3)] 27, .var b4 [.val (.bool a4)] 4, .var b5 [.val v8] 22, .var b6 [.val (.int .i64 a5)] 3, (bif D 15 then .var b7 [.val (.int .i64 x33)] 3 else .var b7 [.val (.int .i64 s9.2.1)] 3), .row v8 (List.map (eI .i64) a7) 1 3, .var (blk p2) [.val y21] 109, .row y21 (List.map e_walk_frame_int t20) 3 114]) [0, 0, 0, 4, 12, 28, 60, 124, 252, 0, 512, 1536, 3584, 8188, 16380, 32767, 65535] [0, 1, 5, 6, 7, 29, 30, 31, 32, 33, 34, 35, 36, 37, 38, 39, 40, 41, 42, 43, 44, 45, 46] (fun env31 => [.lp b0 .done (some (.exit 4)) [92, 93] rfA10_1 rfB10_1 [(17, .val (.pointer (some ⟨b7, 0, none⟩))), (9, .val (.pointer (some ⟨b6, 0, none⟩))), (8, .val (.pointer (some ⟨b5, 0, none⟩))), (6, .val (.pointer (some ⟨b4, 0, none⟩))), (5, .nod [.val (.int .u8 (a0.toNat : Int))])] 149, .var b1 [.val (.int .i64 a1)] 3, .var b2 [.val (.int .i64 a2)] 3, .var b3 [(eOP a3)] 27, .var b4 [.val (.bool a4)] 4, .var b5 [.val v8] 22, .var b6 [.val (.int .i64 a5)] 3, .var b7 [.val (.int .i64 x33)] 3, .row v8 (List.map (eI .i64) a7) 1 3, .var (blk p2) [.val y21] 109, .row y21 (List.map e_walk_frame_int t20) 3 114]) (by decide +kernel) (by decide +kernel) (fun _ => rfl) (fun _ => rfl) ?_ (fun _ => rfl) (fun _ => rfl) ?_
   rotate_left
   · intro env31
     show T X _ _ _
     refine T.condT rfl rfl ?_
     refine T.ret ?_
     obtain rfl := Option.some.inj q13
     obtain rfl : _ = _ := i14
     obtain rfl := Option.some.inj h0
     exact PostG.retP (ks := [0, 1, 2, 3, 4, 5, 6, 7, 8]) (Gst.trans (Gst.only [] rfl) (Gst.pick [0, 1, 2, 3, 4, 5, 6, 7, 8] rfl rfl)) undef ResL.nil rfl rfl rfl rfl
   refine oS (d := .fn (.yield b0) [] []) (fun _ => Want.plain rfl) (fun _ => rfl) (fun _ _ _ => rfl) (fun _ _ => OpR.pure rfl) (fun _ _ _ _ _ _ _ => rfl) ?_
   refine oS (d := .val (.int .i64 s9.1)) (fun _ => Want.plain rfl) (fun _ => rfl) (fun _ _ _ => rfl) (fun _ _ => OpR.pure rfl) (fun _ _ _ _ _ _ _ => rfl) ?_
   refine oS (d := .val (.pointer (some ⟨blk y21, x25.toNat * 3, none⟩))) (fun _ => Want.plain rfl) (fun _ => rfl) (fun _ _ _ => rfl) (fun _ _ => OpR.pure rfl) (fun _ _ _ _ _ _ _ => rfl) ?_
   refine oS (d := .val (.pointer (some ⟨blk y21, x25.toNat * 3, none⟩))) (fun _ => Want.plain rfl) (fun _ => rfl) (fun _ _ _ => rfl) (fun _ _ => OpR.pure rfl) (fun _ _ _ _ _ _ _ => rfl) ?_
   refine oS (d := .val (.pointer (some ⟨blk y21, x25.toNat * 3, none⟩))) (fun _ => Want.plain rfl) (fun _ => rfl) (fun _ _ _ => rfl) (fun _ _ => OpR.pure rfl) (fun _ _ _ _ _ _ _ => rfl) ?_
   refine oS (d := .nod [.sl 1 (List.map eNP x30.fKids), .sl 1 (List.map (eI .i64) x30.fItems), .val (.int .i64 x30.fN)]) (fun _ => Want.plain rfl) (fun _ => rfl) (fun _ _ _ => rfl) (fun _ _ => OpR.cast (OpR.rowLoad0M (j := x25) e_walk_frame_int 10 hx26 rfl rfl rfl rfl) (congrArg eOP (Option.some.inj hq27))) (fun _ _ _ _ _ _ _ => rfl) ?_
   refine oS (d := .nod [.sl 1 (List.map eNP x30.fKids), .sl 1 (List.map (eI .i64) x30.fItems), .val (.int .i64 x30.fN)]) (fun _ => Want.plain rfl) (fun _ => rfl) (fun _ _ _ => rfl) (fun _ _ => OpR.pure rfl) (fun _ _ _ _ _ _ _ => rfl) ?_
   refine oS (d := .nod [.sl 1 (List.map (eI .i64) x30.fItems), .val (.int .i64 x30.fN)]) (fun _ => Want.plain rfl) (fun _ => rfl) (fun _ _ _ => rfl) (fun _ _ => OpR.pure rfl) (fun _ _ _ _ _ _ _ => rfl) ?_
   refine oS (d := .sl 1 (List.map (eI .i64) x30.fItems)) (fun _ => Want.plain rfl) (fun _ => rfl) (fun _ _ _ => rfl) (fun _ _ => OpR.pure rfl) (fun _ _ _ _ _ _ _ => rfl) ?_
   refine oS (d := .val (.pointer (some ⟨blk y21, x25.toNat * 3, none⟩))) (fun _ => Want.plain rfl) (fun _ => rfl) (fun _ _ _ => rfl) (fun _ _ => OpR.pure rfl) (fun _ _ _ _ _ _ _ => rfl) ?_
   refine oS (d := .val (.pointer (some ⟨blk y21, x25.toNat * 3, none⟩))) (fun _ => Want.plain rfl) (fun _ => rfl) (fun _ _ _ => rfl) (fun _ _ => OpR.pure rfl) (fun _ _ _ _ _ _ _ => rfl) ?_
   refine oS (d := .val (.pointer (some ⟨blk y21, x25.toNat * 3 + 2, none⟩))) (fun _ => Want.plain rfl) (fun _ => rfl) (fun _ _ _ => rfl) (fun _ _ => OpR.pure rfl) (fun _ _ _ _ _ _ _ => rfl) ?_
   refine oS (d := .val (.int .i64 x26.fNext)) (fun _ => Want.plain rfl) (fun _ => rfl) (fun _ _ _ => rfl) (fun _ _ => OpR.rowLoadM (j := x25) e_walk_frame_int 10 hx26 rfl rfl rfl rfl) (fun _ _ _ _ _ _ _ => rfl) ?_
   refine oS (d := .nod [.val (.int .i64 x32)]) (fun _ => Want.plain rfl) (fun _ => rfl) (fun _ _ _ => rfl) (fun _ _ => OpR.indexM (eI .i64) hx32 rfl rfl rfl rfl rfl) (fun _ _ _ _ _ _ _ => rfl) ?_
   refine oS (d := .val (.int .i64 x32)) (fun _ => Want.plain rfl) (fun _ => rfl) (fun _ _ _ => rfl) (fun _ _ => OpR.pure rfl) (fun _ _ _ _ _ _ _ => rfl) ?_
   refine OpsS.cons' true ?_ (fun _ _ _ _ _ _ _ => rfl) ?_
   · intro D env31 hA
     exact OpS.yes (o0 := [.lp b0 .ready none [92, 93] rfA10_1 rfB10_1 [(17, .val (.pointer (some ⟨b7, 0, none⟩))), (9, .val (.pointer (some ⟨b6, 0, none⟩))), (8, .val (.pointer (some ⟨b5, 0, none⟩))), (6, .val (.pointer (some ⟨b4, 0, none⟩))), (5, .nod [.val (.int .u8 (a0.toNat : Int))])] 149, .var b1 [.val (.int .i64 a1)] 3, .var b2 [.val (.int .i64 a2)] 3, .var b3 [(eOP a3)] 27, .var b4 [.val (.bool a4)] 4, .var b5 [.val v8] 22, .var b6 [.val (.int .i64 a5)] 3, .var b7 [.val (.int .i64 s9.2.1)] 3, .row v8 (List.map (eI .i64) a7) 1 3, .var (blk p2) [.val y21] 109, .row y21 (List.map e_walk_frame_int t20) 3 114]) (o1 := fun x => [.lp b0 .done (some (.exit 4)) [92, 93] rfA10_1 rfB10_1 [(17, .val (.pointer (some ⟨b7, 0, none⟩))), (9, .val (.pointer (some ⟨b6, 0, none⟩))), (8, .val (.pointer (some ⟨b5, 0, none⟩))), (6, .val (.pointer (some ⟨b4, 0, none⟩))), (5, .nod [.val (.int .u8 (a0.toNat : Int))])] 149, .var b1 [.val (.int .i64 a1)] 3, .var b2 [.val (.int .i64 a2)] 3, .var b3 [(eOP a3)] 27, .var b4 [.val (.bool a4)] 4, .var b5 [.val v8] 22, .var b6 [.val (.int .i64 a5)] 3, .var b7 [.val (.int .i64 x33)] 3, .row v8 (List.map (eI .i64) a7) 1 3, .var (blk p2) [.val y21] 109, .row y21 (List.map e_walk_frame_int t20) 3 114]) (d := fun x => .val (.bool false)) (Want.plain rfl) (by first | rfl | simp only [hA.me, cond_true, cond_false, List.cons_append, List.nil_append, List.append_nil]) (fun x => by first | rfl | simp only [ins_self, upd_self, hA.me, cond_true, cond_false, List.cons_append, List.nil_append, List.append_nil]) (fun x => rfl) (OpR.callY [0, 4, 5, 6, 7, 8] rfl (law10_WalkGoes_r1_cx2 hx33) rfl rfl rfl (fun _ => rfl))
   refine oS (d := .val (.bool true)) (fun _ => Want.plain rfl) (fun _ => rfl) (fun _ _ _ => rfl) (fun _ _ => OpR.pure rfl) (fun _ _ _ _ _ _ _ => rfl) ?_
   exact trivial
 dsimp only at q13
 refine T.drawS drawsX (fun env31 => [.fn (.yield b0) [] [], .val (.int .i64 s9.1), .val (.pointer (some ⟨blk y21, x25.toNat * 3, none⟩)), .val (.pointer (some ⟨blk y21, x25.toNat * 3, none⟩)), .val (.pointer (some ⟨blk y21, x25.toNat * 3, none⟩)), .nod [.sl 1 (List.map eNP x30.fKids), .sl 1 (List.map (eI .i64) x30.fItems), .val (.int .i64 x30.fN)], .nod [.sl 1 (List.map eNP x30.fKids), .sl 1 (List.map (eI .i64) x30.fItems), .val (.int .i64 x30.fN)], .nod [.sl 1 (List.map (eI .i64) x30.fItems), .val (.int .i64 x30.fN)], .sl 1 (List.map (eI .i64) x30.fItems), .val (.pointer (some ⟨blk y21, x25.toNat * 3, none⟩)), .val (.pointer (some ⟨blk y21, x25.toNat * 3, none⟩)), .val (.pointer (some ⟨blk y21, x25.toNat * 3 + 2, none⟩)), .val (.int .i64 x26.fNext), .nod [.val (.int .i64 x32)], .val (.int .i64 x32), .val (.bool true), .val (.bool false)]) (fun D env31 => [.lp b0 .ready none [92, 93] rfA10_1 rfB10_1 [(17, .val (.pointer (some ⟨b7, 0, none⟩))), (9, .val (.pointer (some ⟨b6, 0, none⟩))), (8, .val (.pointer (some ⟨b5, 0, none⟩))), (6, .val (.pointer (some ⟨b4, 0, none⟩))), (5, .nod [.val (.int .u8 (a0.toNat : Int))])] 149, .var b1 [.val (.int .i64 a1)] 3, .var b2 [.val (.int .i64 a2)] 3, .var b3 [(eOP a3)] 27, .var b4 [.val (.bool a4)] 4, .var b5 [.val v8] 22, .var b6 [.val (.int .i64 a5)] 3, (bif D 15 then .var b7 [.val (.int .i64 x33)] 3 else .var b7 [.val (.int .i64 s9.2.1)] 3), .row v8 (List.map (eI .i64) a7) 1 3, .var (blk p2) [.val y21] 109, .row y21 (List.map e_walk_frame_int t20) 3 114]) [0, 0, 0, 4, 12, 28, 60, 124, 252, 0, 512, 1536, 3584, 8188, 16380, 32767, 65535] [0, 1, 5, 6, 7, 29, 30, 31, 32, 33, 34, 35, 36, 37, 38, 39, 40, 41, 42, 43, 44, 45, 46] (fun env31 => [.lp b0 .ready none [92, 93] rfA10_1 rfB10_1 [(17, .val (.pointer (some ⟨b7, 0, none⟩))), (9, .val (.pointer (some ⟨b6, 0, none⟩))), (8, .val (.pointer (some ⟨b5, 0, none⟩))), (6, .val (.pointer (some ⟨b4, 0, none⟩))), (5, .nod [.val (.int .u8 (a0.toNat : Int))])] 149, .var b1 [.val (.int .i64 a1)] 3, .var b2 [.val (.int .i64 a2)] 3, .var b3 [(eOP a3)] 27, .var b4 [.val (.bool a4)] 4, .var b5 [.val v8] 22, .var b6 [.val (.int .i64 a5)] 3, .var b7 [.val (.int .i64 x33)] 3, .row v8 (List.map (eI .i64) a7) 1 3, .var (blk p2) [.val y21] 109, .row y21 (List.map e_walk_frame_int t20) 3 114]) (by decide +kernel) (by decide +kernel) (fun _ => rfl) (fun _ => rfl) ?_ (fun _ => rfl) (fun _ => rfl) ?_
 rotate_left
 · intro env31
   show T X _ _ _
   refine T.condF rfl rfl ?_
   refine T.skip ?_
   show T X _ _ _
   refine T.region ?_
   refine TL.op1 (OpR.pure rfl) rfl ?_
   refine TL.op1 (OpR.pure rfl) rfl ?_
   refine TL.op1 (OpR.pure rfl) rfl ?_
   refine TL.op1 (OpR.rowLoadM (j := x25) e_walk_frame_int 10 hx26 rfl rfl rfl rfl) rfl ?_
   refine TL.op1 (OpR.pure rfl) rfl ?_
   refine TL.op1 (OpR.pure rfl) rfl ?_
   refine TL.op1 (OpR.pure rfl) rfl ?_
   refine TL.op0 (OpR.rowStoreM (j := x25) e_walk_frame_int (⟨x26.fN, x26.fFirst, w64 (x26.fNext - 1)⟩ : walk_frame_int) 10 hx26 rfl rfl rfl rfl rfl rfl rfl rfl rfl) ?_
   refine TL.nil ?_
   show T X _ _ _
   refine T.region ?_
   refine TL.op1 (OpR.pure rfl) rfl ?_
   refine TL.op1 (OpR.pure rfl) rfl ?_
   refine TL.op1 (OpR.pure rfl) rfl ?_
   refine TL.nil ?_
   obtain rfl := Option.some.inj q13
   exact ⟨m11, Nat.lt_succ_self _, _, Gst.only [0, 1, 5, 6] rfl, y21, (w64 (s9.1 - 1), x33, (t20.set x25.toNat (⟨x26.fN, x26.fFirst, w64 (x26.fNext - 1)⟩ : walk_frame_int))), rfl, i14⟩
 refine oS (d := .fn (.yield b0) [] []) (fun _ => Want.plain rfl) (fun _ => rfl) (fun _ _ _ => rfl) (fun _ _ => OpR.pure rfl) (fun _ _ _ _ _ _ _ => rfl) ?_
 refine oS (d := .val (.int .i64 s9.1)) (fun _ => Want.plain rfl) (fun _ => rfl) (fun _ _ _ => rfl) (fun _ _ => OpR.pure rfl) (fun _ _ _ _ _ _ _ => rfl) ?_
 refine oS (d := .val (.pointer (some ⟨blk y21, x25.toNat * 3, none⟩))) (fun _ => Want.plain rfl) (fun _ => rfl) (fun _ _ _ => rfl) (fun _ _ => OpR.pure rfl) (fun _ _ _ _ _ _ _ => rfl) ?_
 refine oS (d := .val (.pointer (some ⟨blk y21, x25.toNat * 3, none⟩))) (fun _ => Want.plain rfl) (fun _ => rfl) (fun _ _ _ => rfl) (fun _ _ => OpR.pure rfl) (fun _ _ _ _ _ _ _ => rfl) ?_
 refine oS (d := .val (.pointer (some ⟨blk y21, x25.toNat * 3, none⟩))) (fun _ => Want.plain rfl) (fun _ => rfl) (fun _ _ _ => rfl) (fun _ _ => OpR.pure rfl) (fun _ _ _ _ _ _ _ => rfl) ?_
 refine oS (d := .nod [.sl 1 (List.map eNP x30.fKids), .sl 1 (List.map (eI .i64) x30.fItems), .val (.int .i64 x30.fN)]) (fun _ => Want.plain rfl) (fun _ => rfl) (fun _ _ _ => rfl) (fun _ _ => OpR.cast (OpR.rowLoad0M (j := x25) e_walk_frame_int 10 hx26 rfl rfl rfl rfl) (congrArg eOP (Option.some.inj hq27))) (fun _ _ _ _ _ _ _ => rfl) ?_
 refine oS (d := .nod [.sl 1 (List.map eNP x30.fKids), .sl 1 (List.map (eI .i64) x30.fItems), .val (.int .i64 x30.fN)]) (fun _ => Want.plain rfl) (fun _ => rfl) (fun _ _ _ => rfl) (fun _ _ => OpR.pure rfl) (fun _ _ _ _ _ _ _ => rfl) ?_
 refine oS (d := .nod [.sl 1 (List.map (eI .i64) x30.fItems), .val (.int .i64 x30.fN)]) (fun _ => Want.plain rfl) (fun _ => rfl) (fun _ _ _ => rfl) (fun _ _ => OpR.pure rfl) (fun _ _ _ _ _ _ _ => rfl) ?_
 refine oS (d := .sl 1 (List.map (eI .i64) x30.fItems)) (fun _ => Want.plain rfl) (fun _ => rfl) (fun _ _ _ => rfl) (fun _ _ => OpR.pure rfl) (fun _ _ _ _ _ _ _ => rfl) ?_
 refine oS (d := .val (.pointer (some ⟨blk y21, x25.toNat * 3, none⟩))) (fun _ => Want.plain rfl) (fun _ => rfl) (fun _ _ _ => rfl) (fun _ _ => OpR.pure rfl) (fun _ _ _ _ _ _ _ => rfl) ?_
 refine oS (d := .val (.pointer (some ⟨blk y21, x25.toNat * 3, none⟩))) (fun _ => Want.plain rfl) (fun _ => rfl) (fun _ _ _ => rfl) (fun _ _ => OpR.pure rfl) (fun _ _ _ _ _ _ _ => rfl) ?_
 refine oS (d := .val (.pointer (some ⟨blk y21, x25.toNat * 3 + 2, none⟩))) (fun _ => Want.plain rfl) (fun _ => rfl) (fun _ _ _ => rfl) (fun _ _ => OpR.pure rfl) (fun _ _ _ _ _ _ _ => rfl) ?_
 refine oS (d := .val (.int .i64 x26.fNext)) (fun _ => Want.plain rfl) (fun _ => rfl) (fun _ _ _ => rfl) (fun _ _ => OpR.rowLoadM (j := x25) e_walk_frame_int 10 hx26 rfl rfl rfl rfl) (fun _ _ _ _ _ _ _ => rfl) ?_
 refine oS (d := .nod [.val (.int .i64 x32)]) (fun _ => Want.plain rfl) (fun _ => rfl) (fun _ _ _ => rfl) (fun _ _ => OpR.indexM (eI .i64) hx32 rfl rfl rfl rfl rfl) (fun _ _ _ _ _ _ _ => rfl) ?_
 refine oS (d := .val (.int .i64 x32)) (fun _ => Want.plain rfl) (fun _ => rfl) (fun _ _ _ => rfl) (fun _ _ => OpR.pure rfl) (fun _ _ _ _ _ _ _ => rfl) ?_
 refine OpsS.cons' true ?_ (fun _ _ _ _ _ _ _ => rfl) ?_
 · intro D env31 hA
   exact OpS.yes (o0 := [.lp b0 .ready none [92, 93] rfA10_1 rfB10_1 [(17, .val (.pointer (some ⟨b7, 0, none⟩))), (9, .val (.pointer (some ⟨b6, 0, none⟩))), (8, .val (.pointer (some ⟨b5, 0, none⟩))), (6, .val (.pointer (some ⟨b4, 0, none⟩))), (5, .nod [.val (.int .u8 (a0.toNat : Int))])] 149, .var b1 [.val (.int .i64 a1)] 3, .var b2 [.val (.int .i64 a2)] 3, .var b3 [(eOP a3)] 27, .var b4 [.val (.bool a4)] 4, .var b5 [.val v8] 22, .var b6 [.val (.int .i64 a5)] 3, .var b7 [.val (.int .i64 s9.2.1)] 3, .row v8 (List.map (eI .i64) a7) 1 3, .var (blk p2) [.val y21] 109, .row y21 (List.map e_walk_frame_int t20) 3 114]) (o1 := fun x => [.lp b0 .ready none [92, 93] rfA10_1 rfB10_1 [(17, .val (.pointer (some ⟨b7, 0, none⟩))), (9, .val (.pointer (some ⟨b6, 0, none⟩))), (8, .val (.pointer (some ⟨b5, 0, none⟩))), (6, .val (.pointer (some ⟨b4, 0, none⟩))), (5, .nod [.val (.int .u8 (a0.toNat : Int))])] 149, .var b1 [.val (.int .i64 a1)] 3, .var b2 [.val (.int .i64 a2)] 3, .var b3 [(eOP a3)] 27, .var b4 [.val (.bool a4)] 4, .var b5 [.val v8] 22, .var b6 [.val (.int .i64 a5)] 3, .var b7 [.val (.int .i64 x33)] 3, .row v8 (List.map (eI .i64) a7) 1 3, .var (blk p2) [.val y21] 109, .row y21 (List.map e_walk_frame_int t20) 3 114]) (d := fun x => .val (.bool true)) (Want.plain rfl) (by first | rfl | simp only [hA.me, cond_true, cond_false, List.cons_append, List.nil_append, List.append_nil]) (fun x => by first | rfl | simp only [ins_self, upd_self, hA.me, cond_true, cond_false, List.cons_append, List.nil_append, List.append_nil]) (fun x => rfl) (OpR.callY [0, 4, 5, 6, 7, 8] rfl (law10_WalkGoes_r1_cx3 hx33) rfl rfl rfl (fun _ => rfl))
 refine oS (d := .val (.bool false)) (fun _ => Want.plain rfl) (fun _ => rfl) (fun _ _ _ => rfl) (fun _ _ => OpR.pure rfl) (fun _ _ _ _ _ _ _ => rfl) ?_
 exact trivial
theorem walk_Back_int_1_cx1 {a0 : UInt8} {a1 : Int} {a2 : Int} {a3 : Option NP} {a4 : Bool} {a5 : Int} {a6 : Int} {a7 : List Int} {b0 : Nat} {b1 : Nat} {b2 : Nat} {b3 : Nat} {b4 : Nat} {b5 : Nat} {b6 : Nat} {b7 : Nat} {v8 : Value} {res : Int} (h0 : walk_Back_int_1 a0 a1 a2 a3 a4 a5 a6 a7 = some (Sum.inl res)) : CallF X 72 [.fn (.yield b0) [] [], .val (.pointer (some ⟨b1, 0, none⟩)), .val (.pointer (some ⟨b2, 0, none⟩)), .val (.pointer (some ⟨b3, 0, none⟩))] [.lp b0 .ready none [92, 93] rfA10_1 rfB10_1 [(17, .val (.pointer (some ⟨b7, 0, none⟩))), (9, .val (.pointer (some ⟨b6, 0, none⟩))), (8, .val (.pointer (some ⟨b5, 0, none⟩))), (6, .val (.pointer (some ⟨b4, 0, none⟩))), (5, .nod [.val (.int .u8 (a0.toNat : Int))])] 149, .var b1 [.val (.int .i64 a1)] 3, .var b2 [.val (.int .i64 a2)] 3, .var b3 [(eOP a3)] 27, .var b4 [.val (.bool a4)] 4, .var b5 [.val v8] 22, .var b6 [.val (.int .i64 a5)] 3, .var b7 [.val (.int .i64 a6)] 3, .row v8 (List.map (eI .i64) a7) 1 3] (fun x => .tup []) (fun x => [.lp b0 .ready none [92, 93] rfA10_1 rfB10_1 [(17, .val (.pointer (some ⟨b7, 0, none⟩))), (9, .val (.pointer (some ⟨b6, 0, none⟩))), (8, .val (.pointer (some ⟨b5, 0, none⟩))), (6, .val (.pointer (some ⟨b4, 0, none⟩))), (5, .nod [.val (.int .u8 (a0.toNat : Int))])] 149, .var b1 [.val (.int .i64 a1)] 3, .var b2 [.val (.int .i64 a2)] 3, .var b3 [(eOP a3)] 27, .var b4 [.val (.bool a4)] 4, .var b5 [.val v8] 22, .var b6 [.val (.int .i64 a5)] 3, .var b7 [.val (.int .i64 res)] 3, .row v8 (List.map (eI .i64) a7) 1 3]) := walk_Back_int_1_c h0
theorem walk_Back_int_1_cx2 {a0 : UInt8} {a1 : Int} {a2 : Int} {a3 : Option NP} {a4 : Bool} {a5 : Int} {a6 : Int} {a7 : List Int} {b0 : Nat} {b1 : Nat} {b2 : Nat} {b3 : Nat} {b4 : Nat} {b5 : Nat} {b6 : Nat} {b7 : Nat} {v8 : Value} {res : Bool × Int} (h0 : walk_Back_int_1 a0 a1 a2 a3 a4 a5 a6 a7 = some (Sum.inr (Sum.inl res))) : CallF X 72 [.fn (.yield b0) [] [], .val (.pointer (some ⟨b1, 0, none⟩)), .val (.pointer (some ⟨b2, 0, none⟩)), .val (.pointer (some ⟨b3, 0, none⟩))] [.lp b0 .ready none [92, 93] rfA10_1 rfB10_1 [(17, .val (.pointer (some ⟨b7, 0, none⟩))), (9, .val (.pointer (some ⟨b6, 0, none⟩))), (8, .val (.pointer (some ⟨b5, 0, none⟩))), (6, .val (.pointer (some ⟨b4, 0, none⟩))), (5, .nod [.val (.int .u8 (a0.toNat : Int))])] 149, .var b1 [.val (.int .i64 a1)] 3, .var b2 [.val (.int .i64 a2)] 3, .var b3 [(eOP a3)] 27, .var b4 [.val (.bool a4)] 4, .var b5 [.val v8] 22, .var b6 [.val (.int .i64 a5)] 3, .var b7 [.val (.int .i64 a6)] 3, .row v8 (List.map (eI .i64) a7) 1 3] (fun x => .tup []) (fun x => [.lp b0 .done (some (.ret)) [92, 93] rfA10_1 rfB10_1 [(17, .val (.pointer (some ⟨b7, 0, none⟩))), (9, .val (.pointer (some ⟨b6, 0, none⟩))), (8, .val (.pointer (some ⟨b5, 0, none⟩))), (6, .val (.pointer (some ⟨b4, 0, none⟩))), (5, .nod [.val (.int .u8 (a0.toNat : Int))])] 149, .var b1 [.val (.int .i64 a1)] 3, .var b2 [.val (.int .i64 a2)] 3, .var b3 [(eOP a3)] 27, .var b4 [.val (.bool res.1)] 4, .var b5 [.val v8] 22, .var b6 [.val (.int .i64 a5)] 3, .var b7 [.val (.int .i64 res.2)] 3, .row v8 (List.map (eI .i64) a7) 1 3]) := walk_Back_int_1_c h0
theorem walk_Back_int_1_cx3 {a0 : UInt8} {a1 : Int} {a2 : Int} {a3 : Option NP} {a4 : Bool} {a5 : Int} {a6 : Int} {a7 : List Int} {b0 : Nat} {b1 : Nat} {b2 : Nat} {b3 : Nat} {b4 : Nat} {b5 : Nat} {b6 : Nat} {b7 : Nat} {v8 : Value} {res : Int} (h0 : walk_Back_int_1 a0 a1 a2 a3 a4 a5 a6 a7 = some (Sum.inr (Sum.inr res))) : CallF X 72 [.fn (.yield b0) [] [], .val (.pointer (some ⟨b1, 0, none⟩)), .val (.pointer (some ⟨b2, 0, none⟩)), .val (.pointer (some ⟨b3, 0, none⟩))] [.lp b0 .ready none [92, 93] rfA10_1 rfB10_1 [(17, .val (.pointer (some ⟨b7, 0, none⟩))), (9, .val (.pointer (some ⟨b6, 0, none⟩))), (8, .val (.pointer (some ⟨b5, 0, none⟩))), (6, .val (.pointer (some ⟨b4, 0, none⟩))), (5, .nod [.val (.int .u8 (a0.toNat : Int))])] 149, .var b1 [.val (.int .i64 a1)] 3, .var b2 [.val (.int .i64 a2)] 3, .var b3 [(eOP a3)] 27, .var b4 [.val (.bool a4)] 4, .var b5 [.val v8] 22, .var b6 [.val (.int .i64 a5)] 3, .var b7 [.val (.int .i64 a6)] 3, .row v8 (List.map (eI .i64) a7) 1 3] (fun x => .tup []) (fun x => [.lp b0 .done (some (.exit 4)) [92, 93] rfA10_1 rfB10_1 [(17, .val (.pointer (some ⟨b7, 0, none⟩))), (9, .val (.pointer (some ⟨b6, 0, none⟩))), (8, .val (.pointer (some ⟨b5, 0, none⟩))), (6, .val (.pointer (some ⟨b4, 0, none⟩))), (5, .nod [.val (.int .u8 (a0.toNat : Int))])] 149, .var b1 [.val (.int .i64 a1)] 3, .var b2 [.val (.int .i64 a2)] 3, .var b3 [(eOP a3)] 27, .var b4 [.val (.bool a4)] 4, .var b5 [.val v8] 22, .var b6 [.val (.int .i64 a5)] 3, .var b7 [.val (.int .i64 res)] 3, .row v8 (List.map (eI .i64) a7) 1 3]) := walk_Back_int_1_c h0
noncomputable def law10_WalkGoes.l1 (a2 : UInt8) (x5 : (List Int)) (x8 : Int × Int) (x11 : Int × Int × (Option NP)) (x12 : Int × Int × (Option NP)) (s15 : Int) : Option (Lp Int (Ex Unit Bool)) :=
  if s15 < 2 then
    bnd (bnd (walk_Range_int_1_4 a2 x11.1 x11.2.1 x11.2.2 false x8.1 0 x5) fun x28 =>
    match x28 with
    | .inl x28 =>
        some (Ex.brk x28)
    | .inr (.inl x28) =>
        some (Ex.ret x28.1)
    | .inr (.inr x28) =>
        some (Ex.brk x28) : Option (Ex Int Bool)) fun t25 => match t25 with
      | .brk u26 =>
        bnd (bnd (walk_Back_int_1 a2 x12.1 x12.2.1 x12.2.2 false x8.1 0 x5) fun x36 =>
        match x36 with
        | .inl x36 =>
            some (Ex.brk x36)
        | .inr (.inl x36) =>
            some (Ex.ret x36.1)
        | .inr (.inr x36) =>
            some (Ex.brk x36) : Option (Ex Int Bool)) fun t33 => match t33 with
          | .brk u34 =>
            bnd (if (a2.toNat : Int) > 0 then
              some (decide ((a2.toNat : Int) < (x5.length : Int)))
            else
              some false : Option Bool) fun t40 =>
            bnd (if t40 = true then
              some (a2.toNat : Int)
            else
              some (x5.length : Int) : Option Int) fun t42 =>
            bnd (if u26 = t42 then
              some (!(u34 == t42))
            else
              some true : Option Bool) fun t44 =>
            if t44 = true then
              some (Lp.done (Ex.ret false))
            else
              some (Lp.next (w64 (s15 + 1)))
          | .ret u34 => some (Lp.done (Ex.ret u34))
      | .ret u26 => some (Lp.done (Ex.ret u26))
  else
    some (Lp.done (Ex.brk ()))
noncomputable def law10_WalkGoes (a0 : List Int) (a1 : Int × Int) (a2 : UInt8) : Option Bool :=
  bnd (law10_few a0) fun x2 =>
  bnd (tree_Of_int x2) fun x3 =>
  bnd (ref10_Slice x2 a1.1 a1.2) fun x5 =>
  bnd (ref10_Stretch x2 a1.1 a1.2) fun x8 =>
  bnd (walk_Range_int x3 a1.1 a1.2) fun x11 =>
  bnd (walk_Back_int x3 a1.1 a1.2) fun x12 =>
  bnd (loop (law10_WalkGoes.l1 a2 x5 x8 x11 x12) 0 : Option (Ex Unit Bool)) fun t13 => match t13 with
    | .brk u14 =>
      bnd (bnd (walk_All_int x3) fun x48 =>
      bnd (ref09_Same x48 x2) fun x49 =>
      if x49 = true then
        bnd (law10_awake) fun x51 =>
        some x51
      else
        some false : Option Bool) fun t47 =>
      some t47
    | .ret u14 => some u14
set_option maxHeartbeats 4000000 in
theorem law10_WalkGoes_c {a0 : List Int} {a1 : Int × Int} {a2 : UInt8} {res : Bool} (h0 : law10_WalkGoes a0 a1 a2 = some res) : CallF X 10 [.sl 1 (List.map (eI .i64) a0), .agg [.val (.int .i64 a1.1), .val (.int .i64 a1.2)], .val (.int .u8 (a2.toNat : Int))] [] (fun x => .val (.bool res)) (fun x => []) := by
 unfold law10_WalkGoes at h0
 refine CallF.mkG (X := X) rfl Try.func10 rfl rfl Try.ntmps10 rfl rfl ?_
 refine T.seq ?_
 refine T.region ?_
 refine TL.op1 (OpR.boxImm rfl rfl) rfl ?_
 refine TL.op1 (OpR.boxImm rfl rfl) rfl ?_
 refine TL.op (OpR.alloc rfl rfl (fun _ => rfl)) rfl (fun p1 => ?_)
 refine TL.nil ?_
 show T X _ _ _
 refine T.seq ?_
 refine T.region ?_
 refine TL.op1 (OpR.pure rfl) rfl ?_
 obtain ⟨x2, hx2, h0⟩ := bnd_some h0
 refine TL.op1 (OpR.call0 fn26 (law10_few_c hx2) rfl) rfl ?_
 refine TL.op1 (OpR.pure rfl) rfl ?_
 refine TL.nil ?_
 show T X _ _ _
 refine T.seq ?_
 refine T.region ?_
 refine TL.op1 (OpR.pure rfl) rfl ?_
 obtain ⟨x3, hx3, h0⟩ := bnd_some h0
 refine TL.op1 (OpR.call0 fn12 (tree_Of_int_c hx3) rfl) rfl ?_
 refine TL.op (OpR.alloc rfl rfl (fun _ => rfl)) rfl (fun p4 => ?_)
 refine TL.op0 (OpR.store 1 rfl rfl rfl rfl rfl rfl rfl rfl) ?_
 refine TL.nil ?_
 show T X _ _ _
 refine T.seq ?_
 refine T.region ?_
 refine TL.op1 (OpR.pure rfl) rfl ?_
 refine TL.op1 (OpR.indexNod rfl rfl rfl rfl rfl ⟨by decide, by decide⟩ rfl) rfl ?_
 refine TL.op1 (OpR.pure rfl) rfl ?_
 refine TL.op1 (OpR.indexNod rfl rfl rfl rfl rfl ⟨by decide, by decide⟩ rfl) rfl ?_
 refine TL.op1 (OpR.pure rfl) rfl ?_
 obtain ⟨x5, hx5, h0⟩ := bnd_some h0
 refine TL.op (OpR.call [] fn28 (ref10_Slice_c hx5) rfl rfl rfl (fun _ => rfl)) rfl (fun w6 => ?_)
 refine TL.op (OpR.alloc rfl rfl (fun _ => rfl)) rfl (fun p7 => ?_)
 refine TL.op0 (OpR.store 3 rfl rfl rfl rfl rfl rfl rfl rfl) ?_
 refine TL.nil ?_
 show T X _ _ _
 refine T.seq ?_
 refine T.region ?_
 refine TL.op1 (OpR.pure rfl) rfl ?_
 refine TL.op1 (OpR.indexNod rfl rfl rfl rfl rfl ⟨by decide, by decide⟩ rfl) rfl ?_
 refine TL.op1 (OpR.pure rfl) rfl ?_
 refine TL.op1 (OpR.indexNod rfl rfl rfl rfl rfl ⟨by decide, by decide⟩ rfl) rfl ?_
 refine TL.op1 (OpR.pure rfl) rfl ?_
 obtain ⟨x8, hx8, h0⟩ := bnd_some h0
 refine TL.op1 (OpR.call0 fn34 (ref10_Stretch_c hx8) rfl) rfl ?_
 refine TL.op1 (OpR.pure rfl) rfl ?_
 refine TL.op1 (OpR.pure rfl) rfl ?_
 refine TL.op1 (OpR.pure rfl) rfl ?_
 refine TL.op (OpR.alloc rfl rfl (fun _ => rfl)) rfl (fun p9 => ?_)
 refine TL.op0 (OpR.store 4 rfl rfl rfl rfl rfl rfl rfl rfl) ?_
 refine TL.op1 (OpR.pure rfl) rfl ?_
 refine TL.nil ?_
 show T X _ _ _
 refine T.seq ?_
 obtain ⟨x11, hx11, h0⟩ := bnd_some h0
 obtain ⟨x12, hx12, h0⟩ := bnd_some h0
 refine T.drawS drawsX (fun env10 => [.agg [(eOP x3.fRoot)], .nod [.val (.int .i64 a1.1), .val (.int .i64 a1.2)], .val (.int .i64 a1.1), .nod [.val (.int .i64 a1.2)], .val (.int .i64 a1.2), .fn (.func 68) [] [.val (.pointer (some ⟨(blk (vn (env10 5) 0)), 0, none⟩)), .val (.pointer (some ⟨(blk (vn (env10 5) 1)), 0, none⟩)), .val (.pointer (some ⟨(blk (vn (env10 5) 2)), 0, none⟩))], .agg [(eOP x3.fRoot)], .nod [.val (.int .i64 a1.1), .val (.int .i64 a1.2)], .val (.int .i64 a1.1), .nod [.val (.int .i64 a1.2)], .val (.int .i64 a1.2), .fn (.func 72) [] [.val (.pointer (some ⟨(blk (vn (env10 11) 0)), 0, none⟩)), .val (.pointer (some ⟨(blk (vn (env10 11) 1)), 0, none⟩)), .val (.pointer (some ⟨(blk (vn (env10 11) 2)), 0, none⟩))], .fn (.func 68) [] [.val (.pointer (some ⟨(blk (vn (env10 5) 0)), 0, none⟩)), .val (.pointer (some ⟨(blk (vn (env10 5) 1)), 0, none⟩)), .val (.pointer (some ⟨(blk (vn (env10 5) 2)), 0, none⟩))], .fn (.func 72) [] [.val (.pointer (some ⟨(blk (vn (env10 11) 0)), 0, none⟩)), .val (.pointer (some ⟨(blk (vn (env10 11) 1)), 0, none⟩)), .val (.pointer (some ⟨(blk (vn (env10 11) 2)), 0, none⟩))]]) (fun D env10 => [.var (blk p1) [.val (.bool false)] 4, .var (blk p4) [(eOP x3.fRoot)] 27, .row (vn w6 0) (List.map (eI .i64) x5) 1 3, .var (blk p7) [.val (vn w6 0)] 22, .var (blk p9) [.val (.int .i64 x8.1)] 3] ++ (bif D 5 then [.var (blk (vn (env10 5) 0)) [.val (.int .i64 x11.1)] 3] else []) ++ (bif D 5 then [.var (blk (vn (env10 5) 1)) [.val (.int .i64 x11.2.1)] 3] else []) ++ (bif D 5 then [.var (blk (vn (env10 5) 2)) [(eOP x11.2.2)] 27] else []) ++ (bif D 11 then [.var (blk (vn (env10 11) 0)) [.val (.int .i64 x12.1)] 3] else []) ++ (bif D 11 then [.var (blk (vn (env10 11) 1)) [.val (.int .i64 x12.2.1)] 3] else []) ++ (bif D 11 then [.var (blk (vn (env10 11) 2)) [(eOP x12.2.2)] 27] else [])) [0, 0, 2, 0, 8, 31, 0, 0, 128, 0, 512, 2047, 4095, 8191] [0, 1, 2, 4, 5, 6, 7, 8, 9, 10, 11, 12, 22, 23, 24, 25, 26, 27, 28, 29, 30, 31, 32, 33, 34, 35, 36, 37, 38, 39, 40, 41, 42, 43, 44, 45, 46, 47, 48, 49, 50, 51, 52] (fun env10 => [.var (blk p1) [.val (.bool false)] 4, .var (blk p4) [(eOP x3.fRoot)] 27, .row (vn w6 0) (List.map (eI .i64) x5) 1 3, .var (blk p7) [.val (vn w6 0)] 22, .var (blk p9) [.val (.int .i64 x8.1)] 3, .var (blk (vn (env10 5) 0)) [.val (.int .i64 x11.1)] 3, .var (blk (vn (env10 5) 1)) [.val (.int .i64 x11.2.1)] 3, .var (blk (vn (env10 5) 2)) [(eOP x11.2.2)] 27, .var (blk (vn (env10 11) 0)) [.val (.int .i64 x12.1)] 3, .var (blk (vn (env10 11) 1)) [.val (.int .i64 x12.2.1)] 3, .var (blk (vn (env10 11) 2)) [(eOP x12.2.2)] 27]) (by decide +kernel) (by decide +kernel) (fun _ => rfl) (fun _ => rfl) ?_ (fun _ => rfl) (fun _ => rfl) ?_
 · refine oS (d := .agg [(eOP x3.fRoot)]) (fun _ => Want.plain rfl) (fun _ => rfl) (fun _ _ _ => rfl) (fun _ _ => OpR.loadPtr 1 rfl rfl rfl rfl) (fun _ _ _ _ _ _ _ => rfl) ?_
   refine oS (d := .nod [.val (.int .i64 a1.1), .val (.int .i64 a1.2)]) (fun _ => Want.plain rfl) (fun _ => rfl) (fun _ _ _ => rfl) (fun _ _ => OpR.indexNod rfl rfl rfl rfl rfl ⟨by decide, by decide⟩ rfl) (fun _ _ _ _ _ _ _ => rfl) ?_
   refine oS (d := .val (.int .i64 a1.1)) (fun _ => Want.plain rfl) (fun _ => rfl) (fun _ _ _ => rfl) (fun _ _ => OpR.pure rfl) (fun _ _ _ _ _ _ _ => rfl) ?_
   refine oS (d := .nod [.val (.int .i64 a1.2)]) (fun _ => Want.plain rfl) (fun _ => rfl) (fun _ _ _ => rfl) (fun _ _ => OpR.indexNod rfl rfl rfl rfl rfl ⟨by decide, by decide⟩ rfl) (fun _ _ _ _ _ _ _ => rfl) ?_
   refine oS (d := .val (.int .i64 a1.2)) (fun _ => Want.plain rfl) (fun _ => rfl) (fun _ _ _ => rfl) (fun _ _ => OpR.pure rfl) (fun _ _ _ _ _ _ _ => rfl) ?_
   refine OpsS.cons' true ?_ (fun D hA env10 x j hj hD => match j, hj, hD with | 0, _, _ => rfl | 1, _, _ => rfl | 2, _, _ => rfl | 3, _, _ => rfl | 4, _, _ => rfl | 5, hj, _ => absurd rfl hj | 6, _, _ => rfl | 7, _, _ => rfl | 8, _, _ => rfl | 9, _, _ => rfl | 10, _, _ => rfl | 11, _, _ => rfl | 12, _, hD => absurd hD (by rw [hA.no 12 _ rfl rfl]; decide) | 13, _, _ => rfl | _ + 14, _, _ => rfl) ?_
   · intro D env10 hA
     have e11 : D 11 = false := hA.no 11 _ rfl rfl
     exact OpS.yes (o0 := [.var (blk p1) [.val (.bool false)] 4, .var (blk p4) [(eOP x3.fRoot)] 27, .row (vn w6 0) (List.map (eI .i64) x5) 1 3, .var (blk p7) [.val (vn w6 0)] 22, .var (blk p9) [.val (.int .i64 x8.1)] 3]) (o1 := fun x => [.var (blk p1) [.val (.bool false)] 4, .var (blk p4) [(eOP x3.fRoot)] 27, .row (vn w6 0) (List.map (eI .i64) x5) 1 3, .var (blk p7) [.val (vn w6 0)] 22, .var (blk p9) [.val (.int .i64 x8.1)] 3, .var (blk (vn x 0)) [.val (.int .i64 x11.1)] 3, .var (blk (vn x 1)) [.val (.int .i64 x11.2.1)] 3, .var (blk (vn x 2)) [(eOP x11.2.2)] 27]) (d := fun x => .fn (.func 68) [] [.val (.pointer (some ⟨(blk (vn x 0)), 0, none⟩)), .val (.pointer (some ⟨(blk (vn x 1)), 0, none⟩)), .val (.pointer (some ⟨(blk (vn x 2)), 0, none⟩))]) (Want.plain rfl) (by first | rfl | simp only [e11, hA.me, cond_true, cond_false, List.cons_append, List.nil_append, List.append_nil]) (fun x => by first | rfl | simp only [ins_self, ins_ne D (show 5 ≠ 11 by decide), upd_self, upd_ne env10 x (show 5 ≠ 11 by decide), e11, hA.me, cond_true, cond_false, List.cons_append, List.nil_append, List.append_nil]) (fun x => rfl) (OpR.call [] fn40 (walk_Range_int_c hx11) rfl rfl rfl (fun _ => rfl))
   refine oS (d := .agg [(eOP x3.fRoot)]) (fun _ => Want.plain rfl) (fun _ => rfl) (fun _ _ _ => rfl) (fun _ _ => OpR.loadPtr 1 rfl rfl rfl rfl) (fun _ _ _ _ _ _ _ => rfl) ?_
   refine oS (d := .nod [.val (.int .i64 a1.1), .val (.int .i64 a1.2)]) (fun _ => Want.plain rfl) (fun _ => rfl) (fun _ _ _ => rfl) (fun _ _ => OpR.indexNod rfl rfl rfl rfl rfl ⟨by decide, by decide⟩ rfl) (fun _ _ _ _ _ _ _ => rfl) ?_
   refine oS (d := .val (.int .i64 a1.1)) (fun _ => Want.plain rfl) (fun _ => rfl) (fun _ _ _ => rfl) (fun _ _ => OpR.pure rfl) (fun _ _ _ _ _ _ _ => rfl) ?_
   refine oS (d := .nod [.val (.int .i64 a1.2)]) (fun _ => Want.plain rfl) (fun _ => rfl) (fun _ _ _ => rfl) (fun _ _ => OpR.indexNod rfl rfl rfl rfl rfl ⟨by decide, by decide⟩ rfl) (fun _ _ _ _ _ _ _ => rfl) ?_
   refine oS (d := .val (.int .i64 a1.2)) (fun _ => Want.plain rfl) (fun _ => rfl) (fun _ _ _ => rfl) (fun _ _ => OpR.pure rfl) (fun _ _ _ _ _ _ _ => rfl) ?_
   refine OpsS.cons' true ?_ (fun D hA env10 x j hj hD => match j, hj, hD with | 0, _, _ => rfl | 1, _, _ => rfl | 2, _, _ => rfl | 3, _, _ => rfl | 4, _, _ => rfl | 5, _, _ => rfl | 6, _, _ => rfl | 7, _, _ => rfl | 8, _, _ => rfl | 9, _, _ => rfl | 10, _, _ => rfl | 11, hj, _ => absurd rfl hj | 12, _, _ => rfl | 13, _, hD => absurd hD (by rw [hA.no 13 _ rfl rfl]; decide) | _ + 14, _, _ => rfl) ?_
   · intro D env10 hA
     have e5 : D 5 = true := hA.yes 5 _ rfl rfl
     exact OpS.yes (o0 := [.var (blk p1) [.val (.bool false)] 4, .var (blk p4) [(eOP x3.fRoot)] 27, .row (vn w6 0) (List.map (eI .i64) x5) 1 3, .var (blk p7) [.val (vn w6 0)] 22, .var (blk p9) [.val (.int .i64 x8.1)] 3, .var (blk (vn (env10 5) 0)) [.val (.int .i64 x11.1)] 3, .var (blk (vn (env10 5) 1)) [.val (.int .i64 x11.2.1)] 3, .var (blk (vn (env10 5) 2)) [(eOP x11.2.2)] 27]) (o1 := fun x => [.var (blk p1) [.val (.bool false)] 4, .var (blk p4) [(eOP x3.fRoot)] 27, .row (vn w6 0) (List.map (eI .i64) x5) 1 3, .var (blk p7) [.val (vn w6 0)] 22, .var (blk p9) [.val (.int .i64 x8.1)] 3, .var (blk (vn (env10 5) 0)) [.val (.int .i64 x11.1)] 3, .var (blk (vn (env10 5) 1)) [.val (.int .i64 x11.2.1)] 3, .var (blk (vn (env10 5) 2)) [(eOP x11.2.2)] 27, .var (blk (vn x 0)) [.val (.int .i64 x12.1)] 3, .var (blk (vn x 1)) [.val (.int .i64 x12.2.1)] 3, .var (blk (vn x 2)) [(eOP x12.2.2)] 27]) (d := fun x => .fn (.func 72) [] [.val (.pointer (some ⟨(blk (vn x 0)), 0, none⟩)), .val (.pointer (some ⟨(blk (vn x 1)), 0, none⟩)), .val (.pointer (some ⟨(blk (vn x 2)), 0, none⟩))]) (Want.plain rfl) (by first | rfl | simp only [e5, hA.me, cond_true, cond_false, List.cons_append, List.nil_append, List.append_nil]) (fun x => by first | rfl | simp only [ins_self, ins_ne D (show 11 ≠ 5 by decide), upd_self, upd_ne env10 x (show 11 ≠ 5 by decide), e5, hA.me, cond_true, cond_false, List.cons_append, List.nil_append, List.append_nil]) (fun x => rfl) (OpR.call [] fn41 (walk_Back_int_c hx12) rfl rfl rfl (fun _ => rfl))
   refine OpsS.cons' true (fun D env10 hA => OpS.same (d := .fn (.func 68) [] [.val (.pointer (some ⟨(blk (vn (env10 5) 0)), 0, none⟩)), .val (.pointer (some ⟨(blk (vn (env10 5) 1)), 0, none⟩)), .val (.pointer (some ⟨(blk (vn (env10 5) 2)), 0, none⟩))]) (Want.plain rfl) (fun x => rfl) (fun x => rfl) (OpR.pure rfl)) (fun _ _ _ _ _ _ _ => rfl) ?_
   refine OpsS.cons' true (fun D env10 hA => OpS.same (d := .fn (.func 72) [] [.val (.pointer (some ⟨(blk (vn (env10 11) 0)), 0, none⟩)), .val (.pointer (some ⟨(blk (vn (env10 11) 1)), 0, none⟩)), .val (.pointer (some ⟨(blk (vn (env10 11) 2)), 0, none⟩))]) (Want.plain rfl) (fun x => rfl) (fun x => rfl) (OpR.pure rfl)) (fun _ _ _ _ _ _ _ => rfl) ?_
   exact trivial
 intro env10
 show T X _ _ _
 refine T.seq ?_
 refine T.seq ?_
 refine T.region ?_
 refine TL.op1 (OpR.pure rfl) rfl ?_
 refine TL.op1 (OpR.fnNil rfl rfl rfl) rfl ?_
 refine TL.op1 (OpR.pure rfl) rfl ?_
 refine TL.on rfl rfl rfl rfl rfl ?_
 refine TL.op1 (OpR.pure rfl) rfl ?_
 refine TL.on rfl rfl rfl rfl rfl ?_
 refine TL.op1 (OpR.fnNil rfl rfl rfl) rfl ?_
 refine TL.op1 (OpR.pickF rfl rfl rfl) rfl ?_
 refine TL.nil ?_
 show T X _ _ _
 refine T.condF rfl rfl ?_
 refine T.skip ?_
 show T X _ _ _
 refine T.seq ?_
 refine T.seq ?_
 refine T.region ?_
 refine TL.op1 (OpR.pure rfl) rfl ?_
 refine TL.nil ?_
 show T X _ _ _
 obtain ⟨t13, ht13, h0⟩ := bnd_some h0
 refine T.cutC (fun S' => ∃ u14, t13 = Ex.brk u14 ∧ S' = ⟨[(7, .val (.pointer (some ⟨(blk p4), 0, none⟩))), (6, .val (.pointer (some ⟨(blk p1), 0, none⟩))), (0, .sl 1 (List.map (eI .i64) x2))], [.var (blk p1) [.val (.bool false)] 4, .var (blk p4) [(eOP x3.fRoot)] 27], 149⟩) (fun _ h => h) ?_ ?_
 rotate_left
 · rintro _ ⟨u14, rfl, rfl⟩
   show T X _ _ _
   refine T.seq ?_
   obtain ⟨t47, ht47, h0⟩ := bnd_some h0
   refine T.cutC (fun S' => S' = ⟨[(6, .val (.pointer (some ⟨(blk p1), 0, none⟩)))], [.var (blk p1) [.val (.bool t47)] 4], 149⟩) (fun _ h => h) ?_ ?_
   rotate_left
   · rintro _ rfl
     show T X _ _ _
     refine T.ret ?_
     obtain rfl := Option.some.inj h0
     exact PostG.retP (ks := []) (Gst.only [6] rfl) undef (ResL.cons (ResV.var 0 rfl rfl rfl rfl) ResL.nil) rfl rfl rfl rfl
   refine T.region ?_
   refine TL.op1 (OpR.loadPtr 1 rfl rfl rfl rfl) rfl ?_
   obtain ⟨x48, hx48, ht47⟩ := bnd_some ht47
   refine TL.op1 (OpR.call0 fn42 (walk_All_int_c hx48) rfl) rfl ?_
   refine TL.op1 (OpR.pure rfl) rfl ?_
   obtain ⟨x49, hx49, ht47⟩ := bnd_some ht47
   refine TL.op1 (OpR.call0 fn15 (ref09_Same_c hx49) rfl) rfl ?_
   refine TL.op1 (OpR.pure rfl) rfl ?_
   rcases ite_some ht47 with ⟨c50, ht47⟩ | ⟨c50, ht47⟩
   rotate_left
   · refine TL.off rfl rfl rfl rfl (eq_false_of_ne_true c50) rfl rfl ?_
     refine TL.op1 (OpR.pickF rfl (eq_false_of_ne_true c50) rfl) rfl ?_
     refine TL.op0 (OpR.store 0 rfl rfl rfl rfl rfl rfl rfl rfl) ?_
     refine TL.nil ?_
     obtain rfl := Option.some.inj ht47
     exact ⟨_, Gst.trans (Gst.only [6] rfl) (Gst.pick [0] rfl rfl), rfl⟩
   refine TL.on rfl rfl rfl rfl (c50) ?_
   obtain ⟨x51, hx51, ht47⟩ := bnd_some ht47
   refine TL.op1 (OpR.call0 fn33 (law10_awake_c hx51) rfl) rfl ?_
   refine TL.op1 (OpR.pickT rfl (c50) rfl) rfl ?_
   refine TL.op0 (OpR.store 0 rfl rfl rfl rfl rfl rfl rfl rfl) ?_
   refine TL.nil ?_
   obtain rfl := Option.some.inj ht47
   exact ⟨_, Gst.trans (Gst.only [6] rfl) (Gst.pick [0] rfl rfl), rfl⟩
 refine T.block ?_
 obtain ⟨n16, n21⟩ := loop_some ht13
 refine T.loop (fun n S' => ∃ S'', Gst S' S'' ∧ ∃ s15 : Int, S'' = ⟨[(13, .val (.int .i64 s15)), (12, .fn (.func 72) [] [.val (.pointer (some ⟨(blk (vn (env10 11) 0)), 0, none⟩)), .val (.pointer (some ⟨(blk (vn (env10 11) 1)), 0, none⟩)), .val (.pointer (some ⟨(blk (vn (env10 11) 2)), 0, none⟩))]), (11, .fn (.func 68) [] [.val (.pointer (some ⟨(blk (vn (env10 5) 0)), 0, none⟩)), .val (.pointer (some ⟨(blk (vn (env10 5) 1)), 0, none⟩)), .val (.pointer (some ⟨(blk (vn (env10 5) 2)), 0, none⟩))]), (9, .val (.pointer (some ⟨(blk p9), 0, none⟩))), (8, .val (.pointer (some ⟨(blk p7), 0, none⟩))), (7, .val (.pointer (some ⟨(blk p4), 0, none⟩))), (6, .val (.pointer (some ⟨(blk p1), 0, none⟩))), (5, .nod [.val (.int .u8 (a2.toNat : Int))]), (0, .sl 1 (List.map (eI .i64) x2))], [.var (blk p1) [.val (.bool false)] 4, .var (blk p4) [(eOP x3.fRoot)] 27, .var (blk p7) [.val (vn w6 0)] 22, .var (blk p9) [.val (.int .i64 x8.1)] 3, .var (blk (vn (env10 5) 0)) [.val (.int .i64 x11.1)] 3, .var (blk (vn (env10 5) 1)) [.val (.int .i64 x11.2.1)] 3, .var (blk (vn (env10 5) 2)) [(eOP x11.2.2)] 27, .var (blk (vn (env10 11) 0)) [.val (.int .i64 x12.1)] 3, .var (blk (vn (env10 11) 1)) [.val (.int .i64 x12.2.1)] 3, .var (blk (vn (env10 11) 2)) [(eOP x12.2.2)] 27, .row (vn w6 0) (List.map (eI .i64) x5) 1 3], 149⟩ ∧ iter (law10_WalkGoes.l1 a2 x5 x8 x11 x12) n s15 = some t13) n16 ?_ ?_
 · exact ⟨_, Gst.trans (Gst.only [0, 5, 6, 7, 8, 9, 11, 12, 13] rfl) (Gst.pick [0, 1, 3, 4, 5, 6, 7, 8, 9, 10, 2] rfl rfl), 0, rfl, n21⟩
 rintro n16 _ ⟨_, g, s15, rfl, i20⟩
 refine T.ghost g ?_
 obtain ⟨m17, q18, rfl, q19, i20⟩ := iter_succ i20
 unfold law10_WalkGoes.l1 at q19
 refine T.seq ?_
 refine T.seq ?_
 refine T.region ?_
 refine TL.op1 (OpR.pure rfl) rfl ?_
 refine TL.op1 (OpR.pure rfl) rfl ?_
 refine TL.nil ?_
 show T X _ _ _
 rcases ite_some q19 with ⟨c23, q19⟩ | ⟨c23, q19⟩
 rotate_left
 · refine T.condF rfl (decide_eq_false c23) ?_
   refine T.exit ?_
   obtain rfl := Option.some.inj q19
   obtain rfl : _ = _ := i20
   exact ⟨_, Gst.trans (Gst.only [0, 6, 7] rfl) (Gst.pick [0, 1] rfl rfl), _, rfl, rfl⟩
 refine T.condT rfl (decide_eq_true c23) ?_
 refine T.skip ?_
 show T X _ _ _
 refine T.seq ?_
 refine T.block ?_
 refine T.seq ?_
 refine T.region ?_
 refine TL.op (OpR.alloc rfl rfl (fun _ => rfl)) rfl (fun p24 => ?_)
 refine TL.op0 (OpR.store 11 rfl rfl rfl rfl rfl rfl rfl rfl) ?_
 refine TL.nil ?_
 show T X _ _ _
 refine T.seq ?_
 refine T.seq ?_
 refine T.region ?_
 refine TL.op1 (OpR.pure rfl) rfl ?_
 refine TL.nil ?_
 show T X _ _ _
 obtain ⟨t25, ht25, q19⟩ := bnd_some q19
 refine T.cutC (fun S' => ∃ u26, t25 = Ex.brk u26 ∧ S' = ⟨[(14, .val (.pointer (some ⟨(blk p24), 0, none⟩))), (13, .val (.int .i64 s15)), (12, .fn (.func 72) [] [.val (.pointer (some ⟨(blk (vn (env10 11) 0)), 0, none⟩)), .val (.pointer (some ⟨(blk (vn (env10 11) 1)), 0, none⟩)), .val (.pointer (some ⟨(blk (vn (env10 11) 2)), 0, none⟩))]), (11, .fn (.func 68) [] [.val (.pointer (some ⟨(blk (vn (env10 5) 0)), 0, none⟩)), .val (.pointer (some ⟨(blk (vn (env10 5) 1)), 0, none⟩)), .val (.pointer (some ⟨(blk (vn (env10 5) 2)), 0, none⟩))]), (9, .val (.pointer (some ⟨(blk p9), 0, none⟩))), (8, .val (.pointer (some ⟨(blk p7), 0, none⟩))), (7, .val (.pointer (some ⟨(blk p4), 0, none⟩))), (6, .val (.pointer (some ⟨(blk p1), 0, none⟩))), (5, .nod [.val (.int .u8 (a2.toNat : Int))]), (0, .sl 1 (List.map (eI .i64) x2))], [.var (blk p1) [.val (.bool false)] 4, .var (blk p4) [(eOP x3.fRoot)] 27, .var (blk p7) [.val (vn w6 0)] 22, .var (blk p9) [.val (.int .i64 x8.1)] 3, .var (blk (vn (env10 5) 0)) [.val (.int .i64 x11.1)] 3, .var (blk (vn (env10 5) 1)) [.val (.int .i64 x11.2.1)] 3, .var (blk (vn (env10 5) 2)) [(eOP x11.2.2)] 27, .var (blk (vn (env10 11) 0)) [.val (.int .i64 x12.1)] 3, .var (blk (vn (env10 11) 1)) [.val (.int .i64 x12.2.1)] 3, .var (blk (vn (env10 11) 2)) [(eOP x12.2.2)] 27, .var (blk p24) [.val (.int .i64 u26)] 3, .row (vn w6 0) (List.map (eI .i64) x5) 1 3], 149⟩) (fun _ h => h) ?_ ?_
 · refine T.block ?_
   obtain ⟨x28, hx28, ht25⟩ := bnd_some ht25
   rcases x28 with x28 | (x28 | x28)
   · dsimp only at ht25
     refine T.rangeN (A := rfA10_0) (B := rfB10_0) [5, 6, 8, 9, 14] [4, 5, 6, 0, 2, 3, 11, 10] (.inl rfl) rfl rfl rfl rfl rfl fn68 rfl rfl (fun l27 => (walk_Range_int_1_4_cx1 hx28)) (fun _ => rfl) (fun w29 => ?_)
     obtain rfl := Option.some.inj ht25
     exact ⟨_, Gst.trans (Gst.only [0, 5, 6, 7, 8, 9, 11, 12, 13, 14] rfl) (Gst.pick [0, 1, 2, 3, 4, 5, 6, 7, 8, 9, 11, 10] rfl rfl), _, rfl, rfl⟩
   · dsimp only at ht25
     refine T.rangeJ (A := rfA10_0) (B := rfB10_0) (.ret) [5, 6, 8, 9, 14] [4, 5, 6, 0, 2, 3, 11, 10] (.inl rfl) rfl rfl rfl rfl rfl fn68 rfl rfl (fun l27 => (walk_Range_int_1_4_cx2 hx28)) (fun _ => rfl) (fun w30 => ?_)
     refine T.ret ?_
     obtain rfl := Option.some.inj ht25
     obtain rfl := Option.some.inj q19
     obtain rfl : _ = _ := i20
     obtain rfl := Option.some.inj h0
     exact PostG.retP (ks := []) (Gst.trans (Gst.only [6] rfl) (Gst.pick [0] rfl rfl)) undef (ResL.cons (ResV.var 0 rfl rfl rfl rfl) ResL.nil) rfl rfl rfl rfl
   dsimp only at ht25
   refine T.rangeJ (A := rfA10_0) (B := rfB10_0) (.exit 2) [5, 6, 8, 9, 14] [4, 5, 6, 0, 2, 3, 11, 10] (.inl rfl) rfl rfl rfl rfl rfl fn68 rfl rfl (fun l27 => (walk_Range_int_1_4_cx3 hx28)) (fun _ => rfl) (fun w31 => ?_)
   refine T.exit ?_
   obtain rfl := Option.some.inj ht25
   exact ⟨_, Gst.trans (Gst.only [0, 5, 6, 7, 8, 9, 11, 12, 13, 14] rfl) (Gst.pick [0, 1, 2, 3, 4, 5, 6, 7, 8, 9, 11, 10] rfl rfl), _, rfl, rfl⟩
 rintro _ ⟨u26, rfl, rfl⟩
 show T X _ _ _
 refine T.seq ?_
 refine T.region ?_
 refine TL.op (OpR.alloc rfl rfl (fun _ => rfl)) rfl (fun p32 => ?_)
 refine TL.op0 (OpR.store 12 rfl rfl rfl rfl rfl rfl rfl rfl) ?_
 refine TL.nil ?_
 show T X _ _ _
 refine T.seq ?_
 refine T.seq ?_
 refine T.region ?_
 refine TL.op1 (OpR.pure rfl) rfl ?_
 refine TL.nil ?_
 show T X _ _ _
 obtain ⟨t33, ht33, q19⟩ := bnd_some q19
 refine T.cutC (fun S' => ∃ u34, t33 = Ex.brk u34 ∧ S' = ⟨[(17, .val (.pointer (some ⟨(blk p32), 0, none⟩))), (14, .val (.pointer (some ⟨(blk p24), 0, none⟩))), (13, .val (.int .i64 s15)), (12, .fn (.func 72) [] [.val (.pointer (some ⟨(blk (vn (env10 11) 0)), 0, none⟩)), .val (.pointer (some ⟨(blk (vn (env10 11) 1)), 0, none⟩)), .val (.pointer (some ⟨(blk (vn (env10 11) 2)), 0, none⟩))]), (11, .fn (.func 68) [] [.val (.pointer (some ⟨(blk (vn (env10 5) 0)), 0, none⟩)), .val (.pointer (some ⟨(blk (vn (env10 5) 1)), 0, none⟩)), .val (.pointer (some ⟨(blk (vn (env10 5) 2)), 0, none⟩))]), (9, .val (.pointer (some ⟨(blk p9), 0, none⟩))), (8, .val (.pointer (some ⟨(blk p7), 0, none⟩))), (7, .val (.pointer (some ⟨(blk p4), 0, none⟩))), (6, .val (.pointer (some ⟨(blk p1), 0, none⟩))), (5, .nod [.val (.int .u8 (a2.toNat : Int))]), (0, .sl 1 (List.map (eI .i64) x2))], [.var (blk p1) [.val (.bool false)] 4, .var (blk p4) [(eOP x3.fRoot)] 27, .var (blk p7) [.val (vn w6 0)] 22, .var (blk p9) [.val (.int .i64 x8.1)] 3, .var (blk (vn (env10 5) 0)) [.val (.int .i64 x11.1)] 3, .var (blk (vn (env10 5) 1)) [.val (.int .i64 x11.2.1)] 3, .var (blk (vn (env10 5) 2)) [(eOP x11.2.2)] 27, .var (blk (vn (env10 11) 0)) [.val (.int .i64 x12.1)] 3, .var (blk (vn (env10 11) 1)) [.val (.int .i64 x12.2.1)] 3, .var (blk (vn (env10 11) 2)) [(eOP x12.2.2)] 27, .var (blk p24) [.val (.int .i64 u26)] 3, .var (blk p32) [.val (.int .i64 u34)] 3, .row (vn w6 0) (List.map (eI .i64) x5) 1 3], 149⟩) (fun _ h => h) ?_ ?_
 · refine T.block ?_
   obtain ⟨x36, hx36, ht33⟩ := bnd_some ht33
   rcases x36 with x36 | (x36 | x36)
   · dsimp only at ht33
     refine T.rangeN (A := rfA10_1) (B := rfB10_1) [5, 6, 8, 9, 17] [7, 8, 9, 0, 2, 3, 12, 11] (.inl rfl) rfl rfl rfl rfl rfl fn72 rfl rfl (fun l35 => (walk_Back_int_1_cx1 hx36)) (fun _ => rfl) (fun w37 => ?_)
     obtain rfl := Option.some.inj ht33
     exact ⟨_, Gst.trans (Gst.only [0, 5, 6, 7, 8, 9, 11, 12, 13, 14, 17] rfl) (Gst.pick [0, 1, 2, 3, 4, 5, 6, 7, 8, 9, 10, 12, 11] rfl rfl), _, rfl, rfl⟩
   · dsimp only at ht33
     refine T.rangeJ (A := rfA10_1) (B := rfB10_1) (.ret) [5, 6, 8, 9, 17] [7, 8, 9, 0, 2, 3, 12, 11] (.inl rfl) rfl rfl rfl rfl rfl fn72 rfl rfl (fun l35 => (walk_Back_int_1_cx2 hx36)) (fun _ => rfl) (fun w38 => ?_)
     refine T.ret ?_
     obtain rfl := Option.some.inj ht33
     obtain rfl := Option.some.inj q19
     obtain rfl : _ = _ := i20
     obtain rfl := Option.some.inj h0
     exact PostG.retP (ks := []) (Gst.trans (Gst.only [6] rfl) (Gst.pick [0] rfl rfl)) undef (ResL.cons (ResV.var 0 rfl rfl rfl rfl) ResL.nil) rfl rfl rfl rfl
   dsimp only at ht33
   refine T.rangeJ (A := rfA10_1) (B := rfB10_1) (.exit 4) [5, 6, 8, 9, 17] [7, 8, 9, 0, 2, 3, 12, 11] (.inl rfl) rfl rfl rfl rfl rfl fn72 rfl rfl (fun l35 => (walk_Back_int_1_cx3 hx36)) (fun _ => rfl) (fun w39 => ?_)
   refine T.exit ?_
   obtain rfl := Option.some.inj ht33
   exact ⟨_, Gst.trans (Gst.only [0, 5, 6, 7, 8, 9, 11, 12, 13, 14, 17] rfl) (Gst.pick [0, 1, 2, 3, 4, 5, 6, 7, 8, 9, 10, 12, 11] rfl rfl), _, rfl, rfl⟩
 rintro _ ⟨u34, rfl, rfl⟩
 show T X _ _ _
 refine T.seq ?_
 refine T.region ?_
 refine TL.op1 (OpR.loadPtr 2 rfl rfl rfl rfl) rfl ?_
 refine TL.op1 (OpR.rowLenM (eI .i64) 12 rfl rfl rfl rfl) rfl ?_
 refine TL.op1 (OpR.pure rfl) rfl ?_
 refine TL.nil ?_
 show T X _ _ _
 refine T.seq ?_
 refine T.seq ?_
 obtain ⟨t40, ht40, q19⟩ := bnd_some q19
 refine T.cutC (fun S' => S' = ⟨[(131, .val (.bool t40)), (21, .val (.int .i64 (x5.length : Int))), (17, .val (.pointer (some ⟨(blk p32), 0, none⟩))), (14, .val (.pointer (some ⟨(blk p24), 0, none⟩))), (13, .val (.int .i64 s15)), (12, .fn (.func 72) [] [.val (.pointer (some ⟨(blk (vn (env10 11) 0)), 0, none⟩)), .val (.pointer (some ⟨(blk (vn (env10 11) 1)), 0, none⟩)), .val (.pointer (some ⟨(blk (vn (env10 11) 2)), 0, none⟩))]), (11, .fn (.func 68) [] [.val (.pointer (some ⟨(blk (vn (env10 5) 0)), 0, none⟩)), .val (.pointer (some ⟨(blk (vn (env10 5) 1)), 0, none⟩)), .val (.pointer (some ⟨(blk (vn (env10 5) 2)), 0, none⟩))]), (9, .val (.pointer (some ⟨(blk p9), 0, none⟩))), (8, .val (.pointer (some ⟨(blk p7), 0, none⟩))), (7, .val (.pointer (some ⟨(blk p4), 0, none⟩))), (6, .val (.pointer (some ⟨(blk p1), 0, none⟩))), (5, .nod [.val (.int .u8 (a2.toNat : Int))]), (0, .sl 1 (List.map (eI .i64) x2))], [.var (blk p1) [.val (.bool false)] 4, .var (blk p4) [(eOP x3.fRoot)] 27, .var (blk p7) [.val (vn w6 0)] 22, .var (blk p9) [.val (.int .i64 x8.1)] 3, .var (blk (vn (env10 5) 0)) [.val (.int .i64 x11.1)] 3, .var (blk (vn (env10 5) 1)) [.val (.int .i64 x11.2.1)] 3, .var (blk (vn (env10 5) 2)) [(eOP x11.2.2)] 27, .var (blk (vn (env10 11) 0)) [.val (.int .i64 x12.1)] 3, .var (blk (vn (env10 11) 1)) [.val (.int .i64 x12.2.1)] 3, .var (blk (vn (env10 11) 2)) [(eOP x12.2.2)] 27, .var (blk p24) [.val (.int .i64 u26)] 3, .var (blk p32) [.val (.int .i64 u34)] 3, .row (vn w6 0) (List.map (eI .i64) x5) 1 3], 149⟩) (fun _ h => h) ?_ ?_
 · refine T.region ?_
   refine TL.op1 (OpR.pure rfl) rfl ?_
   refine TL.op1 (OpR.pure rfl) rfl ?_
   refine TL.op1 (OpR.pure rfl) rfl ?_
   rcases ite_some ht40 with ⟨c41, ht40⟩ | ⟨c41, ht40⟩
   rotate_left
   · refine TL.off rfl rfl rfl rfl (decide_eq_false c41) rfl rfl ?_
     refine TL.off rfl rfl rfl rfl (decide_eq_false c41) rfl rfl ?_
     refine TL.off rfl rfl rfl rfl (decide_eq_false c41) rfl rfl ?_
     refine TL.off rfl rfl rfl rfl (decide_eq_false c41) rfl rfl ?_
     refine TL.op1 (OpR.pickF rfl (decide_eq_false c41) rfl) rfl ?_
     refine TL.nil ?_
     obtain rfl := Option.some.inj ht40
     exact ⟨_, Gst.only [0, 5, 6, 7, 8, 9, 11, 12, 13, 14, 17, 21, 131] rfl, rfl⟩
   refine TL.on rfl rfl rfl rfl (decide_eq_true c41) ?_
   refine TL.op1 (OpR.pure rfl) rfl ?_
   refine TL.on rfl rfl rfl rfl (decide_eq_true c41) ?_
   refine TL.op1 (OpR.cast (OpR.pure rfl) (intE (w64_u8 _))) rfl ?_
   refine TL.on rfl rfl rfl rfl (decide_eq_true c41) ?_
   refine TL.op1 (OpR.pure rfl) rfl ?_
   refine TL.on rfl rfl rfl rfl (decide_eq_true c41) ?_
   refine TL.op1 (OpR.pure rfl) rfl ?_
   refine TL.op1 (OpR.pickT rfl (decide_eq_true c41) rfl) rfl ?_
   refine TL.nil ?_
   obtain rfl := Option.some.inj ht40
   exact ⟨_, Gst.only [0, 5, 6, 7, 8, 9, 11, 12, 13, 14, 17, 21, 131] rfl, rfl⟩
 rintro _ rfl
 show T X _ _ _
 obtain ⟨t42, ht42, q19⟩ := bnd_some q19
 refine T.cutC (fun S' => S' = ⟨[(21, .val (.int .i64 t42)), (17, .val (.pointer (some ⟨(blk p32), 0, none⟩))), (14, .val (.pointer (some ⟨(blk p24), 0, none⟩))), (13, .val (.int .i64 s15)), (12, .fn (.func 72) [] [.val (.pointer (some ⟨(blk (vn (env10 11) 0)), 0, none⟩)), .val (.pointer (some ⟨(blk (vn (env10 11) 1)), 0, none⟩)), .val (.pointer (some ⟨(blk (vn (env10 11) 2)), 0, none⟩))]), (11, .fn (.func 68) [] [.val (.pointer (some ⟨(blk (vn (env10 5) 0)), 0, none⟩)), .val (.pointer (some ⟨(blk (vn (env10 5) 1)), 0, none⟩)), .val (.pointer (some ⟨(blk (vn (env10 5) 2)), 0, none⟩))]), (9, .val (.pointer (some ⟨(blk p9), 0, none⟩))), (8, .val (.pointer (some ⟨(blk p7), 0, none⟩))), (7, .val (.pointer (some ⟨(blk p4), 0, none⟩))), (6, .val (.pointer (some ⟨(blk p1), 0, none⟩))), (5, .nod [.val (.int .u8 (a2.toNat : Int))]), (0, .sl 1 (List.map (eI .i64) x2))], [.var (blk p1) [.val (.bool false)] 4, .var (blk p4) [(eOP x3.fRoot)] 27, .var (blk p7) [.val (vn w6 0)] 22, .var (blk p9) [.val (.int .i64 x8.1)] 3, .var (blk (vn (env10 5) 0)) [.val (.int .i64 x11.1)] 3, .var (blk (vn (env10 5) 1)) [.val (.int .i64 x11.2.1)] 3, .var (blk (vn (env10 5) 2)) [(eOP x11.2.2)] 27, .var (blk (vn (env10 11) 0)) [.val (.int .i64 x12.1)] 3, .var (blk (vn (env10 11) 1)) [.val (.int .i64 x12.2.1)] 3, .var (blk (vn (env10 11) 2)) [(eOP x12.2.2)] 27, .var (blk p24) [.val (.int .i64 u26)] 3, .var (blk p32) [.val (.int .i64 u34)] 3, .row (vn w6 0) (List.map (eI .i64) x5) 1 3], 149⟩) (fun _ h => h) ?_ ?_
 · rcases ite_some ht42 with ⟨c43, ht42⟩ | ⟨c43, ht42⟩
   rotate_left
   · refine T.condF rfl (eq_false_of_ne_true c43) ?_
     refine T.skip ?_
     obtain rfl := Option.some.inj ht42
     exact ⟨_, Gst.only [0, 5, 6, 7, 8, 9, 11, 12, 13, 14, 17, 21] rfl, rfl⟩
   refine T.condT rfl (c43) ?_
   refine T.region ?_
   refine TL.op1 (OpR.pure rfl) rfl ?_
   refine TL.op1 (OpR.cast (OpR.pure rfl) (intE (w64_u8 _))) rfl ?_
   refine TL.op1 (OpR.pure rfl) rfl ?_
   refine TL.nil ?_
   obtain rfl := Option.some.inj ht42
   exact ⟨_, Gst.only [0, 5, 6, 7, 8, 9, 11, 12, 13, 14, 17, 21] rfl, rfl⟩
 rintro _ rfl
 show T X _ _ _
 refine T.seq ?_
 obtain ⟨t44, ht44, q19⟩ := bnd_some q19
 refine T.cutC (fun S' => S' = ⟨[(141, .val (.bool t44)), (13, .val (.int .i64 s15)), (12, .fn (.func 72) [] [.val (.pointer (some ⟨(blk (vn (env10 11) 0)), 0, none⟩)), .val (.pointer (some ⟨(blk (vn (env10 11) 1)), 0, none⟩)), .val (.pointer (some ⟨(blk (vn (env10 11) 2)), 0, none⟩))]), (11, .fn (.func 68) [] [.val (.pointer (some ⟨(blk (vn (env10 5) 0)), 0, none⟩)), .val (.pointer (some ⟨(blk (vn (env10 5) 1)), 0, none⟩)), .val (.pointer (some ⟨(blk (vn (env10 5) 2)), 0, none⟩))]), (9, .val (.pointer (some ⟨(blk p9), 0, none⟩))), (8, .val (.pointer (some ⟨(blk p7), 0, none⟩))), (7, .val (.pointer (some ⟨(blk p4), 0, none⟩))), (6, .val (.pointer (some ⟨(blk p1), 0, none⟩))), (5, .nod [.val (.int .u8 (a2.toNat : Int))]), (0, .sl 1 (List.map (eI .i64) x2))], [.var (blk p1) [.val (.bool false)] 4, .var (blk p4) [(eOP x3.fRoot)] 27, .var (blk p7) [.val (vn w6 0)] 22, .var (blk p9) [.val (.int .i64 x8.1)] 3, .var (blk (vn (env10 5) 0)) [.val (.int .i64 x11.1)] 3, .var (blk (vn (env10 5) 1)) [.val (.int .i64 x11.2.1)] 3, .var (blk (vn (env10 5) 2)) [(eOP x11.2.2)] 27, .var (blk (vn (env10 11) 0)) [.val (.int .i64 x12.1)] 3, .var (blk (vn (env10 11) 1)) [.val (.int .i64 x12.2.1)] 3, .var (blk (vn (env10 11) 2)) [(eOP x12.2.2)] 27, .row (vn w6 0) (List.map (eI .i64) x5) 1 3], 149⟩) (fun _ h => h) ?_ ?_
 rotate_left
 · rintro _ rfl
   show T X _ _ _
   rcases ite_some q19 with ⟨c46, q19⟩ | ⟨c46, q19⟩
   rotate_left
   · refine T.condF rfl (eq_false_of_ne_true c46) ?_
     refine T.skip ?_
     show T X _ _ _
     refine T.region ?_
     refine TL.op1 (OpR.pure rfl) rfl ?_
     refine TL.op1 (OpR.pure rfl) rfl ?_
     refine TL.op1 (OpR.pure rfl) rfl ?_
     refine TL.nil ?_
     obtain rfl := Option.some.inj q19
     exact ⟨m17, Nat.lt_succ_self _, _, Gst.only [0, 5, 6, 7, 8, 9, 11, 12, 13] rfl, w64 (s15 + 1), rfl, i20⟩
   refine T.condT rfl (c46) ?_
   refine T.seq ?_
   refine T.region ?_
   refine TL.op0 (OpR.store 0 rfl rfl rfl rfl rfl rfl rfl rfl) ?_
   refine TL.nil ?_
   show T X _ _ _
   refine T.ret ?_
   obtain rfl := Option.some.inj q19
   obtain rfl : _ = _ := i20
   obtain rfl := Option.some.inj h0
   exact PostG.retP (ks := []) (Gst.trans (Gst.only [6] rfl) (Gst.pick [0] rfl rfl)) undef (ResL.cons (ResV.var 0 rfl rfl rfl rfl) ResL.nil) rfl rfl rfl rfl
 refine T.region ?_
 refine TL.op1 (OpR.loadPtr 10 rfl rfl rfl rfl) rfl ?_
 refine TL.op1 (OpR.pure rfl) rfl ?_
 refine TL.op1 (OpR.pure rfl) rfl ?_
 refine TL.op1 (OpR.pure rfl) rfl ?_
 rcases ite_some ht44 with ⟨c45, ht44⟩ | ⟨c45, ht44⟩
 rotate_left
 · refine TL.off rfl rfl rfl rfl (not_f (beq_eq_false_iff_ne.2 c45)) rfl rfl ?_
   refine TL.off rfl rfl rfl rfl (not_f (beq_eq_false_iff_ne.2 c45)) rfl rfl ?_
   refine TL.off rfl rfl rfl rfl (not_f (beq_eq_false_iff_ne.2 c45)) rfl rfl ?_
   refine TL.op1 (OpR.pickT rfl (not_f (beq_eq_false_iff_ne.2 c45)) rfl) rfl ?_
   refine TL.nil ?_
   obtain rfl := Option.some.inj ht44
   exact ⟨_, Gst.trans (Gst.only [0, 5, 6, 7, 8, 9, 11, 12, 13, 141] rfl) (Gst.pick [0, 1, 2, 3, 4, 5, 6, 7, 8, 9, 12] rfl rfl), rfl⟩
 refine TL.on rfl rfl rfl rfl (not_t (beq_iff_eq.2 c45)) ?_
 refine TL.op1 (OpR.loadPtr 11 rfl rfl rfl rfl) rfl ?_
 refine TL.on rfl rfl rfl rfl (not_t (beq_iff_eq.2 c45)) ?_
 refine TL.op1 (OpR.pure rfl) rfl ?_
 refine TL.on rfl rfl rfl rfl (not_t (beq_iff_eq.2 c45)) ?_
 refine TL.op1 (OpR.pure rfl) rfl ?_
 refine TL.op1 (OpR.pickF rfl (not_t (beq_iff_eq.2 c45)) rfl) rfl ?_
 refine TL.nil ?_
 obtain rfl := Option.some.inj ht44
 exact ⟨_, Gst.trans (Gst.only [0, 5, 6, 7, 8, 9, 11, 12, 13, 141] rfl) (Gst.pick [0, 1, 2, 3, 4, 5, 6, 7, 8, 9, 12] rfl rfl), rfl⟩
end Go.Proofs.Ytkmdfaodbiknlaa.S
