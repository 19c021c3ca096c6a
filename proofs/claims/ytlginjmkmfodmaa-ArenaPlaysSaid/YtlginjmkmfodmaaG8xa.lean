/- Printed by a program of this session's own (gen.py): Lean functions for Go functions, and the proofs that the Go code comes to their answers. -/
import Derived.Test.YtlginjmkmfodmaaG0
set_option linter.unusedVariables false
set_option linter.unusedSimpArgs false
namespace Go.Proofs.Ytlginjmkmfodmaa.S
open Go Go.Sm
attribute [local irreducible] T TL OpR CallT iter loop
noncomputable def arena_Arena_Add_2 (a0 : List UInt8) : Option (arena_Span × Int) :=
  some ((⟨0, 0⟩ : arena_Span), 2)
set_option maxHeartbeats 4000000 in
theorem arena_Arena_Add_2_c {a0 : List UInt8} {res : arena_Span × Int} (h0 : arena_Arena_Add_2 a0 = some res) : CallF X 17 [.val (.pointer none), .sl 1 (List.map byteD a0)] [] (fun x => .tup [.agg [.val (.int .i64 res.1.fAt), .val (.int .i64 res.1.fN)], .val (.int .i64 res.2)]) (fun x => []) := by
 unfold arena_Arena_Add_2 at h0
 refine CallF.mkG (X := X) Try.func17 rfl rfl Try.ntmps17 rfl rfl ?_
 refine T.seq ?_
 refine T.region ?_
 refine TL.op (OpR.alloc rfl rfl (fun _ => rfl)) rfl (fun p1 => ?_)
 refine TL.op1 (OpR.pure rfl) rfl ?_
 refine TL.nil ?_
 show T X _ _ _
 refine T.seq ?_
 refine T.block ?_
 refine T.seq ?_
 refine T.region ?_
 refine TL.op1 (OpR.pure rfl) rfl ?_
 refine TL.op1 (OpR.ptrNil rfl rfl rfl) rfl ?_
 refine TL.op1 (OpR.pure rfl) rfl ?_
 refine TL.nil ?_
 show T X _ _ _
 refine T.condT rfl rfl ?_
 refine T.seq ?_
 refine T.region ?_
 refine TL.op1 (OpR.build rfl rfl rfl rfl rfl) rfl ?_
 refine TL.op0 (OpR.store 0 rfl rfl rfl rfl rfl rfl rfl rfl) ?_
 refine TL.op1 (OpR.pure rfl) rfl ?_
 refine TL.nil ?_
 show T X _ _ _
 refine T.ret ?_
 obtain rfl := Option.some.inj h0
 exact PostG.retP (ks := []) (Gst.only [4, 5] rfl) undef (ResL.cons (ResV.var 0 rfl rfl rfl rfl) (ResL.cons (ResV.tmp rfl) ResL.nil)) rfl rfl rfl rfl
noncomputable def arena_Arena_Keep_2 (a0 : List UInt8) : Option (arena_Span × Int) :=
  bnd (arena_Arena_Add_2 a0) fun x2 =>
  some (x2.1, x2.2)
set_option maxHeartbeats 4000000 in
theorem arena_Arena_Keep_2_c {a0 : List UInt8} {res : arena_Span × Int} (h0 : arena_Arena_Keep_2 a0 = some res) : CallF X 29 [.val (.pointer none), .sl 1 (List.map byteD a0)] [] (fun x => .tup [.agg [.val (.int .i64 res.1.fAt), .val (.int .i64 res.1.fN)], .val (.int .i64 res.2)]) (fun x => []) := by
 unfold arena_Arena_Keep_2 at h0
 refine CallF.mkG (X := X) Try.func29 rfl rfl Try.ntmps29 rfl rfl ?_
 refine T.seq ?_
 refine T.region ?_
 refine TL.op (OpR.alloc rfl rfl (fun _ => rfl)) rfl (fun p1 => ?_)
 refine TL.op1 (OpR.pure rfl) rfl ?_
 refine TL.nil ?_
 show T X _ _ _
 refine T.seq ?_
 refine T.seq ?_
 refine T.region ?_
 refine TL.op1 (OpR.pure rfl) rfl ?_
 refine TL.op1 (OpR.ptrNe rfl rfl rfl) rfl ?_
 refine TL.op1 (OpR.pure rfl) rfl ?_
 refine TL.off rfl rfl rfl rfl rfl rfl rfl ?_
 refine TL.off rfl rfl rfl rfl rfl rfl rfl ?_
 refine TL.off rfl rfl rfl rfl rfl rfl rfl ?_
 refine TL.op1 (OpR.pickF rfl rfl rfl) rfl ?_
 refine TL.nil ?_
 show T X _ _ _
 refine T.condF rfl rfl ?_
 refine T.skip ?_
 show T X _ _ _
 refine T.seq ?_
 refine T.region ?_
 refine TL.op1 (OpR.pure rfl) rfl ?_
 refine TL.op1 (OpR.pure rfl) rfl ?_
 obtain ⟨x2, hx2, h0⟩ := bnd_some h0
 refine TL.op1 (OpR.call0 fn17 (arena_Arena_Add_2_c hx2) rfl) rfl ?_
 refine TL.op1 (OpR.pure rfl) rfl ?_
 refine TL.op1 (OpR.pure rfl) rfl ?_
 refine TL.op0 (OpR.store 0 rfl rfl rfl rfl rfl rfl rfl rfl) ?_
 refine TL.op1 (OpR.pure rfl) rfl ?_
 refine TL.nil ?_
 show T X _ _ _
 refine T.ret ?_
 obtain rfl := Option.some.inj h0
 exact PostG.retP (ks := []) (Gst.only [4, 5] rfl) undef (ResL.cons (ResV.var 0 rfl rfl rfl rfl) (ResL.cons (ResV.tmp rfl) ResL.nil)) rfl rfl rfl rfl
noncomputable def arena_Arena_Len_2 : Option Int :=
  some 0
set_option maxHeartbeats 4000000 in
theorem arena_Arena_Len_2_c {res : Int} (h0 : arena_Arena_Len_2 = some res) : CallF X 19 [.val (.pointer none)] [] (fun x => .val (.int .i64 res)) (fun x => []) := by
 unfold arena_Arena_Len_2 at h0
 refine CallF.mkG (X := X) Try.func19 rfl rfl Try.ntmps19 rfl rfl ?_
 refine T.seq ?_
 refine T.region ?_
 refine TL.op1 (OpR.pure rfl) rfl ?_
 refine TL.nil ?_
 show T X _ _ _
 refine T.seq ?_
 refine T.seq ?_
 refine T.region ?_
 refine TL.op1 (OpR.pure rfl) rfl ?_
 refine TL.op1 (OpR.ptrNil rfl rfl rfl) rfl ?_
 refine TL.nil ?_
 show T X _ _ _
 refine T.condT rfl rfl ?_
 refine T.seq ?_
 refine T.region ?_
 refine TL.op1 (OpR.pure rfl) rfl ?_
 refine TL.nil ?_
 show T X _ _ _
 refine T.ret ?_
 obtain rfl := Option.some.inj h0
 exact PostG.retP (ks := []) (Gst.only [2] rfl) undef (ResL.cons (ResV.tmp rfl) ResL.nil) rfl rfl rfl rfl
noncomputable def arena_Arena_Room_2 : Option Int :=
  some 0
set_option maxHeartbeats 4000000 in
theorem arena_Arena_Room_2_c {res : Int} (h0 : arena_Arena_Room_2 = some res) : CallF X 23 [.val (.pointer none)] [] (fun x => .val (.int .i64 res)) (fun x => []) := by
 unfold arena_Arena_Room_2 at h0
 refine CallF.mkG (X := X) Try.func23 rfl rfl Try.ntmps23 rfl rfl ?_
 refine T.seq ?_
 refine T.region ?_
 refine TL.op1 (OpR.pure rfl) rfl ?_
 refine TL.nil ?_
 show T X _ _ _
 refine T.seq ?_
 refine T.seq ?_
 refine T.region ?_
 refine TL.op1 (OpR.pure rfl) rfl ?_
 refine TL.op1 (OpR.ptrNil rfl rfl rfl) rfl ?_
 refine TL.nil ?_
 show T X _ _ _
 refine T.condT rfl rfl ?_
 refine T.seq ?_
 refine T.region ?_
 refine TL.op1 (OpR.pure rfl) rfl ?_
 refine TL.nil ?_
 show T X _ _ _
 refine T.ret ?_
 obtain rfl := Option.some.inj h0
 exact PostG.retP (ks := []) (Gst.only [2] rfl) undef (ResL.cons (ResV.tmp rfl) ResL.nil) rfl rfl rfl rfl
noncomputable def arena_Arena_Right_2 (a0 : arena_Span) : Option Bool :=
  some false
set_option maxHeartbeats 4000000 in
theorem arena_Arena_Right_2_c {a0 : arena_Span} {res : Bool} (h0 : arena_Arena_Right_2 a0 = some res) : CallF X 26 [.val (.pointer none), .agg [.val (.int .i64 a0.fAt), .val (.int .i64 a0.fN)]] [] (fun x => .val (.bool res)) (fun x => []) := by
 unfold arena_Arena_Right_2 at h0
 refine CallF.mkG (X := X) Try.func26 rfl rfl Try.ntmps26 rfl rfl ?_
 refine T.seq ?_
 refine T.region ?_
 refine TL.op1 (OpR.boxImm rfl rfl) rfl ?_
 refine TL.op1 (OpR.pure rfl) rfl ?_
 refine TL.nil ?_
 show T X _ _ _
 refine T.seq ?_
 refine T.seq ?_
 refine T.region ?_
 refine TL.op1 (OpR.pure rfl) rfl ?_
 refine TL.op1 (OpR.ptrNil rfl rfl rfl) rfl ?_
 refine TL.nil ?_
 show T X _ _ _
 refine T.condT rfl rfl ?_
 refine T.seq ?_
 refine T.region ?_
 refine TL.op1 (OpR.pure rfl) rfl ?_
 refine TL.nil ?_
 show T X _ _ _
 refine T.ret ?_
 obtain rfl := Option.some.inj h0
 exact PostG.retP (ks := []) (Gst.only [4] rfl) undef (ResL.cons (ResV.tmp rfl) ResL.nil) rfl rfl rfl rfl
noncomputable def arena_Arena_part_2 (a0 : arena_Span) : Option (List UInt8) :=
  bnd (arena_Arena_Right_2 a0) fun x1 =>
  if x1 = true then
    none
  else
    some []
set_option maxHeartbeats 4000000 in
theorem arena_Arena_part_2_c {a0 : arena_Span} {res : (List UInt8)} (h0 : arena_Arena_part_2 a0 = some res) : CallF X 39 [.val (.pointer none), .agg [.val (.int .i64 a0.fAt), .val (.int .i64 a0.fN)]] [] (fun x => .sl 1 (List.map byteD res)) (fun x => []) := by
 unfold arena_Arena_part_2 at h0
 refine CallF.mkG (X := X) Try.func39 rfl rfl Try.ntmps39 rfl rfl ?_
 refine T.seq ?_
 refine T.region ?_
 refine TL.op1 (OpR.boxImm rfl rfl) rfl ?_
 refine TL.op1 (OpR.pure rfl) rfl ?_
 refine TL.nil ?_
 show T X _ _ _
 refine T.seq ?_
 refine T.seq ?_
 refine T.region ?_
 refine TL.op1 (OpR.pure rfl) rfl ?_
 refine TL.op1 (OpR.pure rfl) rfl ?_
 obtain ⟨x1, hx1, h0⟩ := bnd_some h0
 refine TL.op1 (OpR.call0 fn26 (arena_Arena_Right_2_c hx1) rfl) rfl ?_
 refine TL.op1 (OpR.pure rfl) rfl ?_
 refine TL.nil ?_
 show T X _ _ _
 rcases ite_some h0 with ⟨c2, h0⟩ | ⟨c2, h0⟩
 · refine T.condF rfl (not_t (c2)) ?_
   refine T.skip ?_
   show T X _ _ _
   refine T.seq ?_
   exact (by cases h0)
 refine T.condT rfl (not_f (eq_false_of_ne_true c2)) ?_
 refine T.seq ?_
 refine T.region ?_
 refine TL.op1 (OpR.pure rfl) rfl ?_
 refine TL.nil ?_
 show T X _ _ _
 refine T.ret ?_
 obtain rfl := Option.some.inj h0
 exact PostG.retP (ks := []) (Gst.trans (Gst.only [4] rfl) (Gst.denil (ReS.cons (Re.base .nil) ReS.nil) ReO.nil)) undef (ResL.cons (ResV.tmp rfl) ResL.nil) rfl rfl rfl rfl
noncomputable def arena_Arena_Byte (a0 : Int) : Option (UInt8 × Bool) :=
  bnd (arena_Arena_part_2 (⟨a0, 1⟩ : arena_Span)) fun x1 =>
  if (x1.length : Int) = 0 then
    some (0, false)
  else
    bnd (idx x1 0) fun x3 =>
    some (x3, true)
set_option maxHeartbeats 4000000 in
theorem arena_Arena_Byte_c {a0 : Int} {res : UInt8 × Bool} (h0 : arena_Arena_Byte a0 = some res) : CallF X 24 [.val (.pointer none), .val (.int .i64 a0)] [] (fun x => .tup [.val (.int .u8 (res.1.toNat : Int)), .val (.bool res.2)]) (fun x => []) := by
 unfold arena_Arena_Byte at h0
 refine CallF.mkG (X := X) Try.func24 rfl rfl Try.ntmps24 rfl rfl ?_
 refine T.seq ?_
 refine T.region ?_
 refine TL.op1 (OpR.pure rfl) rfl ?_
 refine TL.op1 (OpR.pure rfl) rfl ?_
 refine TL.nil ?_
 show T X _ _ _
 refine T.seq ?_
 refine T.region ?_
 refine TL.op1 (OpR.pure rfl) rfl ?_
 refine TL.op1 (OpR.pure rfl) rfl ?_
 refine TL.op1 (OpR.build rfl rfl rfl rfl rfl) rfl ?_
 obtain ⟨x1, hx1, h0⟩ := bnd_some h0
 refine TL.op1 (OpR.call0 fn39 (arena_Arena_part_2_c hx1) rfl) rfl ?_
 refine TL.op1 (OpR.pure rfl) rfl ?_
 refine TL.nil ?_
 show T X _ _ _
 refine T.seq ?_
 refine T.seq ?_
 refine T.region ?_
 refine TL.op1 (OpR.pure rfl) rfl ?_
 refine TL.op1 (OpR.cast (OpR.pure rfl) (intE (lenM _ _))) rfl ?_
 refine TL.op1 (OpR.pure rfl) rfl ?_
 refine TL.nil ?_
 show T X _ _ _
 rcases ite_some h0 with ⟨c2, h0⟩ | ⟨c2, h0⟩
 · refine T.condT rfl (beq_iff_eq.2 c2) ?_
   refine T.seq ?_
   refine T.region ?_
   refine TL.op1 (OpR.pure rfl) rfl ?_
   refine TL.op1 (OpR.pure rfl) rfl ?_
   refine TL.nil ?_
   show T X _ _ _
   refine T.ret ?_
   obtain rfl := Option.some.inj h0
   exact PostG.retP (ks := []) (Gst.only [4, 5] rfl) undef (ResL.cons (ResV.tmp rfl) (ResL.cons (ResV.tmp rfl) ResL.nil)) rfl rfl rfl rfl
 refine T.condF rfl (beq_eq_false_iff_ne.2 c2) ?_
 refine T.skip ?_
 show T X _ _ _
 refine T.seq ?_
 refine T.region ?_
 refine TL.op1 (OpR.pure rfl) rfl ?_
 obtain ⟨x3, hx3, h0⟩ := bnd_some h0
 refine TL.op1 (OpR.indexM byteD hx3 rfl rfl rfl rfl rfl) rfl ?_
 refine TL.op1 (OpR.pure rfl) rfl ?_
 refine TL.op1 (OpR.pure rfl) rfl ?_
 refine TL.op1 (OpR.pure rfl) rfl ?_
 refine TL.nil ?_
 show T X _ _ _
 refine T.ret ?_
 obtain rfl := Option.some.inj h0
 exact PostG.retP (ks := []) (Gst.only [4, 5] rfl) undef (ResL.cons (ResV.tmp rfl) (ResL.cons (ResV.tmp rfl) ResL.nil)) rfl rfl rfl rfl
noncomputable def arena_Arena_Bytes_2 (a0 : arena_Span) : Option (List UInt8) :=
  bnd (arena_Arena_part_2 a0) fun x1 =>
  bnd (mkz 1 (x1.length : Int) (0 : UInt8)) fun x2 =>
  some (over x2 x1)
set_option maxHeartbeats 4000000 in
theorem arena_Arena_Bytes_2_c {a0 : arena_Span} {res : (List UInt8)} (h0 : arena_Arena_Bytes_2 a0 = some res) : CallF X 18 [.val (.pointer none), .agg [.val (.int .i64 a0.fAt), .val (.int .i64 a0.fN)]] [] (fun x => .val (vn x 0)) (fun x => [.row (vn x 0) (List.map byteD res) 1 5]) := by
 unfold arena_Arena_Bytes_2 at h0
 refine CallF.mkG (X := X) Try.func18 rfl rfl Try.ntmps18 rfl rfl ?_
 refine T.seq ?_
 refine T.region ?_
 refine TL.op1 (OpR.boxImm rfl rfl) rfl ?_
 refine TL.op1 (OpR.pure rfl) rfl ?_
 refine TL.nil ?_
 show T X _ _ _
 refine T.seq ?_
 refine T.region ?_
 refine TL.op1 (OpR.pure rfl) rfl ?_
 refine TL.op1 (OpR.pure rfl) rfl ?_
 obtain ⟨x1, hx1, h0⟩ := bnd_some h0
 refine TL.op1 (OpR.call0 fn39 (arena_Arena_part_2_c hx1) rfl) rfl ?_
 refine TL.op1 (OpR.pure rfl) rfl ?_
 refine TL.nil ?_
 show T X _ _ _
 refine T.seq ?_
 refine T.region ?_
 refine TL.op1 (OpR.pure rfl) rfl ?_
 refine TL.op1 (OpR.cast (OpR.pure rfl) (intE (lenM _ _))) rfl ?_
 obtain ⟨x2, hx2, h0⟩ := bnd_some h0
 refine TL.op (OpR.makeM byteD hx2 rfl rfl rfl rfl rfl rfl rfl rfl rfl rfl rfl (fun _ => rfl)) rfl (fun v3 => ?_)
 refine TL.op1 (OpR.pure rfl) rfl ?_
 refine TL.nil ?_
 show T X _ _ _
 refine T.seq ?_
 refine T.region ?_
 refine TL.op1 (OpR.pure rfl) rfl ?_
 refine TL.op1 (OpR.pure rfl) rfl ?_
 refine TL.op1 (OpR.copyM byteD 0 rfl rfl rfl rfl rfl rfl rfl rfl) rfl ?_
 refine TL.nil ?_
 show T X _ _ _
 refine T.seq ?_
 refine T.region ?_
 refine TL.op1 (OpR.pure rfl) rfl ?_
 refine TL.op1 (OpR.pure rfl) rfl ?_
 refine TL.nil ?_
 show T X _ _ _
 refine T.ret ?_
 obtain rfl := Option.some.inj h0
 exact PostG.retP (ks := [0]) (Gst.only [4] rfl) (.tuple #[v3]) (ResL.cons (ResV.tmp rfl) ResL.nil) rfl rfl rfl rfl
end Go.Proofs.Ytlginjmkmfodmaa.S
