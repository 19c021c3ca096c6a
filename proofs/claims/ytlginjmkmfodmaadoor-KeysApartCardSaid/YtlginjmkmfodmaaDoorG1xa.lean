/- Printed by a program of this session's own (gen.py): Lean functions for Go functions, and the proofs that the Go code comes to their answers. -/
import Derived.Test.YtlginjmkmfodmaaDoorG0
set_option maxHeartbeats 4000000
set_option linter.unusedVariables false
set_option linter.unusedSimpArgs false
set_option maxRecDepth 20000
namespace Go.Proofs.YtlginjmkmfodmaaDoor.S
open Go Go.Sm
attribute [local irreducible] T TL OpR CallT iter loop
noncomputable def utf_scalar (a0 : Int) : Option Bool :=
  bnd (if a0 ≥ 0 then
    if a0 ≤ 1114111 then
      if a0 < 55296 then
        some true
      else
        some (decide (a0 > 57343))
    else
      some false
  else
    some false : Option Bool) fun t1 =>
  some t1
theorem utf_scalar_c {a0 : Int} {res : Bool} (h0 : utf_scalar a0 = some res) : CallF X 35 [dN a0] [] (fun x => (dT res)) (fun x => []) := by
 unfold utf_scalar at h0
 refine CallF.mkG (X := X) rfl Tryd.func35 rfl rfl Tryd.ntmps35 rfl rfl ?_
 refine aS ?_
 refine aA rfl rfl ?_
 refine aN rfl ?_
 refine T.seq ?_
 obtain ⟨t1, ht1, h0⟩ := bS h0
 refine T.cutC (fun S' => S' = ⟨[(2, (dT t1))], [], 17⟩) (fun _ h => h) ?_ ?_
 rotate_left
 · rintro _ rfl
   show T X _ _ _
   refine T.ret ?_
   obtain rfl := Option.some.inj h0
   exact rO [] [2] rfl undef (cT rfl ResL.nil) rfl rfl rfl rfl
 refine T.region ?_
 iterate 3 refine aA rfl rfl ?_
 rcases ite_some ht1 with ⟨c2, ht1⟩ | ⟨c2, ht1⟩
 rotate_left
 · refine TL.off rfl rfl rfl rfl (decide_eq_false c2) rfl rfl ?_
   refine TL.off rfl rfl rfl rfl (decide_eq_false c2) rfl rfl ?_
   refine TL.op1 (OpR.pickF rfl (decide_eq_false c2) rfl) rfl ?_
   refine aA rfl rfl ?_
   refine TL.off rfl rfl rfl rfl rfl rfl rfl ?_
   refine TL.off rfl rfl rfl rfl rfl rfl rfl ?_
   refine TL.off rfl rfl rfl rfl rfl rfl rfl ?_
   refine TL.offU rfl rfl rfl rfl rfl rfl ?_
   refine TL.offU rfl rfl rfl rfl rfl rfl ?_
   refine TL.off rfl rfl rfl rfl rfl rfl rfl ?_
   refine TL.op1 (OpR.pickF rfl rfl rfl) rfl ?_
   refine aA rfl rfl ?_
   refine TL.nil ?_
   obtain rfl := Option.some.inj ht1
   exact ⟨_, Gst.only [2] rfl, rfl⟩
 refine TL.on rfl rfl rfl rfl (decide_eq_true c2) ?_
 refine aA rfl rfl ?_
 refine TL.on rfl rfl rfl rfl (decide_eq_true c2) ?_
 refine aA rfl rfl ?_
 refine TL.op1 (OpR.pickT rfl (decide_eq_true c2) rfl) rfl ?_
 refine aA rfl rfl ?_
 rcases ite_some ht1 with ⟨c3, ht1⟩ | ⟨c3, ht1⟩
 rotate_left
 · refine TL.off rfl rfl rfl rfl (decide_eq_false c3) rfl rfl ?_
   refine TL.off rfl rfl rfl rfl (decide_eq_false c3) rfl rfl ?_
   refine TL.off rfl rfl rfl rfl (decide_eq_false c3) rfl rfl ?_
   refine TL.offU rfl rfl rfl rfl rfl rfl ?_
   refine TL.offU rfl rfl rfl rfl rfl rfl ?_
   refine TL.off rfl rfl rfl rfl (decide_eq_false c3) rfl rfl ?_
   refine TL.op1 (OpR.pickF rfl (decide_eq_false c3) rfl) rfl ?_
   refine aA rfl rfl ?_
   refine TL.nil ?_
   obtain rfl := Option.some.inj ht1
   exact ⟨_, Gst.only [2] rfl, rfl⟩
 refine TL.on rfl rfl rfl rfl (decide_eq_true c3) ?_
 refine aA rfl rfl ?_
 refine TL.on rfl rfl rfl rfl (decide_eq_true c3) ?_
 refine aA rfl rfl ?_
 refine TL.on rfl rfl rfl rfl (decide_eq_true c3) ?_
 refine aA rfl rfl ?_
 rcases ite_some ht1 with ⟨c4, ht1⟩ | ⟨c4, ht1⟩
 · refine TL.off rfl rfl rfl rfl (decide_eq_true c4) rfl rfl ?_
   refine TL.off rfl rfl rfl rfl (decide_eq_true c4) rfl rfl ?_
   refine TL.on rfl rfl rfl rfl (decide_eq_true c3) ?_
   refine TL.op1 (OpR.pickT rfl (decide_eq_true c4) rfl) rfl ?_
   refine TL.op1 (OpR.pickT rfl (decide_eq_true c3) rfl) rfl ?_
   refine aA rfl rfl ?_
   refine TL.nil ?_
   obtain rfl := Option.some.inj ht1
   exact ⟨_, Gst.only [2] rfl, rfl⟩
 refine TL.on rfl rfl rfl rfl (decide_eq_false c4) ?_
 refine aA rfl rfl ?_
 refine TL.on rfl rfl rfl rfl (decide_eq_false c4) ?_
 refine aA rfl rfl ?_
 refine TL.on rfl rfl rfl rfl (decide_eq_true c3) ?_
 refine TL.op1 (OpR.pickF rfl (decide_eq_false c4) rfl) rfl ?_
 refine TL.op1 (OpR.pickT rfl (decide_eq_true c3) rfl) rfl ?_
 refine aA rfl rfl ?_
 refine TL.nil ?_
 obtain rfl := Option.some.inj ht1
 exact ⟨_, Gst.only [2] rfl, rfl⟩
noncomputable def utf_head (a0 : Int) : Option utf_first :=
  if a0 = 0 then
    some (⟨0, 128⟩ : utf_first)
  else
    if a0 = 1 then
      some (⟨192, 32⟩ : utf_first)
    else
      if a0 = 2 then
        some (⟨224, 16⟩ : utf_first)
      else
        some (⟨240, 8⟩ : utf_first)
theorem utf_head_c {a0 : Int} {res : utf_first} (h0 : utf_head a0 = some res) : CallF X 36 [dN a0] [] (fun x => .agg [dN res.fMark, dN res.fRoom]) (fun x => []) := by
 unfold utf_head at h0
 refine CallF.mkG (X := X) rfl Tryd.func36 rfl rfl Tryd.ntmps36 rfl rfl ?_
 refine aS ?_
 refine TL.op (OpR.alloc rfl rfl (fun _ => rfl)) rfl (fun p1 => ?_)
 refine aN rfl ?_
 refine T.seq ?_
 refine aS ?_
 refine aA rfl rfl ?_
 refine aN rfl ?_
 refine T.block ?_
 refine aS ?_
 iterate 2 refine aA rfl rfl ?_
 refine aN rfl ?_
 rcases ite_some h0 with ⟨c2, h0⟩ | ⟨c2, h0⟩
 · refine T.condT rfl (beq_iff_eq.2 c2) ?_
   refine aS ?_
   refine TL.op1 (OpR.build rfl rfl rfl rfl rfl) rfl ?_
   refine TL.op0 (OpR.store 0 rfl rfl rfl rfl rfl rfl rfl rfl) ?_
   refine aN rfl ?_
   refine T.ret ?_
   obtain rfl := Option.some.inj h0
   exact rO [] [2] rfl undef (cV 0 rfl rfl rfl rfl ResL.nil) rfl rfl rfl rfl
 refine T.condF rfl (beq_eq_false_iff_ne.2 c2) ?_
 refine aS ?_
 iterate 2 refine aA rfl rfl ?_
 refine aN rfl ?_
 rcases ite_some h0 with ⟨c3, h0⟩ | ⟨c3, h0⟩
 · refine T.condT rfl (beq_iff_eq.2 c3) ?_
   refine aS ?_
   refine TL.op1 (OpR.build rfl rfl rfl rfl rfl) rfl ?_
   refine TL.op0 (OpR.store 0 rfl rfl rfl rfl rfl rfl rfl rfl) ?_
   refine aN rfl ?_
   refine T.ret ?_
   obtain rfl := Option.some.inj h0
   exact rO [] [2] rfl undef (cV 0 rfl rfl rfl rfl ResL.nil) rfl rfl rfl rfl
 refine T.condF rfl (beq_eq_false_iff_ne.2 c3) ?_
 refine aS ?_
 iterate 2 refine aA rfl rfl ?_
 refine aN rfl ?_
 rcases ite_some h0 with ⟨c4, h0⟩ | ⟨c4, h0⟩
 · refine T.condT rfl (beq_iff_eq.2 c4) ?_
   refine aS ?_
   refine TL.op1 (OpR.build rfl rfl rfl rfl rfl) rfl ?_
   refine TL.op0 (OpR.store 0 rfl rfl rfl rfl rfl rfl rfl rfl) ?_
   refine aN rfl ?_
   refine T.ret ?_
   obtain rfl := Option.some.inj h0
   exact rO [] [2] rfl undef (cV 0 rfl rfl rfl rfl ResL.nil) rfl rfl rfl rfl
 refine T.condF rfl (beq_eq_false_iff_ne.2 c4) ?_
 refine aK rfl ?_
 refine aS ?_
 refine TL.op1 (OpR.build rfl rfl rfl rfl rfl) rfl ?_
 refine TL.op0 (OpR.store 0 rfl rfl rfl rfl rfl rfl rfl rfl) ?_
 refine aN rfl ?_
 refine T.ret ?_
 obtain rfl := Option.some.inj h0
 exact rO [] [2] rfl undef (cV 0 rfl rfl rfl rfl ResL.nil) rfl rfl rfl rfl
noncomputable def utf_Put.l1 (s5 : Int × Int × UInt8 × UInt8 × UInt8 × UInt8) : Option (Lp (Int × Int × UInt8 × UInt8 × UInt8 × UInt8) (Int × Int × UInt8 × UInt8 × UInt8 × UInt8)) :=
  bnd (utf_head (w64 (3 - s5.2.1))) fun x13 =>
  if s5.1 ≥ x13.fRoom then
    bnd (idx ([s5.2.2.1, s5.2.2.2.1, s5.2.2.2.2.1, s5.2.2.2.2.2] : List UInt8) s5.2.1) fun x15 =>
    some (Lp.next (ishr .i64 s5.1 6, w64 (s5.2.1 - 1), (if s5.2.1 = 0 then (ub (w64 (ior .i64 128 (w64 (iand .i64 s5.1 63))))) else s5.2.2.1), (if s5.2.1 - 1 = 0 then (ub (w64 (ior .i64 128 (w64 (iand .i64 s5.1 63))))) else s5.2.2.2.1), (if s5.2.1 - 1 - 1 = 0 then (ub (w64 (ior .i64 128 (w64 (iand .i64 s5.1 63))))) else s5.2.2.2.2.1), (if s5.2.1 - 1 - 1 - 1 = 0 then (ub (w64 (ior .i64 128 (w64 (iand .i64 s5.1 63))))) else s5.2.2.2.2.2)))
  else
    some (Lp.done (s5.1, s5.2.1, s5.2.2.1, s5.2.2.2.1, s5.2.2.2.2.1, s5.2.2.2.2.2))
noncomputable def utf_Put (a0 : Int) : Option (List UInt8) :=
  bnd (utf_scalar a0) fun x1 =>
  if x1 = true then
    bnd (loop utf_Put.l1 (a0, 3, 0, 0, 0, 0) : Option (Int × Int × UInt8 × UInt8 × UInt8 × UInt8)) fun t4 =>
    bnd (utf_head (w64 (3 - t4.2.1))) fun x16 =>
    bnd (idx ([t4.2.2.1, t4.2.2.2.1, t4.2.2.2.2.1, t4.2.2.2.2.2] : List UInt8) t4.2.1) fun x17 =>
    bnd (cut ([(if t4.2.1 = 0 then (ub (w64 (ior .i64 t4.1 x16.fMark))) else t4.2.2.1), (if t4.2.1 - 1 = 0 then (ub (w64 (ior .i64 t4.1 x16.fMark))) else t4.2.2.2.1), (if t4.2.1 - 1 - 1 = 0 then (ub (w64 (ior .i64 t4.1 x16.fMark))) else t4.2.2.2.2.1), (if t4.2.1 - 1 - 1 - 1 = 0 then (ub (w64 (ior .i64 t4.1 x16.fMark))) else t4.2.2.2.2.2)] : List UInt8) t4.2.1 4) fun x18 =>
    some x18
  else
    some []
theorem utf_Put_c {a0 : Int} {res : (List UInt8)} (h0 : utf_Put a0 = some res) : CallF X 27 [dN a0] [] (fun x => .sl 1 (lB res)) (fun x => []) := by
 unfold utf_Put at h0
 refine CallF.mkG (X := X) rfl Tryd.func27 rfl rfl Tryd.ntmps27 rfl rfl ?_
 refine aS ?_
 refine aA rfl rfl ?_
 refine aN rfl ?_
 refine T.seq ?_
 refine aS ?_
 refine aA rfl rfl ?_
 obtain ⟨x1, hx1, h0⟩ := bS h0
 refine TL.op1 (OpR.call0 fn35 (utf_scalar_c hx1) rfl) rfl ?_
 refine aA rfl rfl ?_
 refine aN rfl ?_
 rcases ite_some h0 with ⟨c2, h0⟩ | ⟨c2, h0⟩
 rotate_left
 · refine T.condT rfl (not_f (eq_false_of_ne_true c2)) ?_
   refine aS ?_
   refine aA rfl rfl ?_
   refine aN rfl ?_
   refine T.ret ?_
   obtain rfl := Option.some.inj h0
   exact PostG.retP (ks := []) (Gst.trans (Gst.only [2] rfl) (Gst.denil (ReS.cons (Re.base .nil) ReS.nil) ReO.nil)) undef (cT rfl ResL.nil) rfl rfl rfl rfl
 refine T.condF rfl (not_t (c2)) ?_
 refine aK rfl ?_
 refine aS ?_
 refine TL.op (OpR.alloc rfl rfl (fun _ => rfl)) rfl (fun p3 => ?_)
 refine aN rfl ?_
 refine aS ?_
 refine aA rfl rfl ?_
 refine aN rfl ?_
 refine T.seq ?_
 obtain ⟨t4, ht4, h0⟩ := bS h0
 refine T.cutC (fun S' => S' = ⟨[(4, (dN t4.2.1)), (3, (dP (blk p3))), (2, .val (.slice none 0 0)), (0, (dN t4.1))], [.var (blk p3) [.val (.int .u8 (t4.2.2.1.toNat : Int)), .val (.int .u8 (t4.2.2.2.1.toNat : Int)), .val (.int .u8 (t4.2.2.2.2.1.toNat : Int)), .val (.int .u8 (t4.2.2.2.2.2.toNat : Int))] 61], 35⟩) (fun _ h => h) ?_ ?_
 rotate_left
 · rintro _ rfl
   show T X _ _ _
   refine aS ?_
   iterate 4 refine aA rfl rfl ?_
   obtain ⟨x16, hx16, h0⟩ := bS h0
   refine TL.op1 (OpR.call0 fn36 (utf_head_c hx16) rfl) rfl ?_
   iterate 2 refine aA rfl rfl ?_
   refine TL.op1 (OpR.cast (OpR.pure rfl) (intE (ub_wrap _))) rfl ?_
   obtain ⟨x17, hx17, h0⟩ := bS h0
   refine TL.op1 (OpR.indexVarM (l := ([t4.2.2.1, t4.2.2.2.1, t4.2.2.2.2.1, t4.2.2.2.2.2] : List UInt8)) hx17 rfl rfl rfl rfl rfl rfl rfl) rfl ?_
   refine TL.op0 (OpR.arrStoreM (off := 0) (j := t4.2.1) (a' := (ub (w64 (ior .i64 t4.1 x16.fMark)))) (l := ([t4.2.2.1, t4.2.2.2.1, t4.2.2.2.2.1, t4.2.2.2.2.2] : List UInt8)) (pre := []) (rest := []) byteD 0 hx17 rfl rfl rfl rfl rfl (fun _ => rfl) rfl rfl rfl rfl) ?_
   refine aN rfl ?_
   refine aS ?_
   refine aA rfl rfl ?_
   obtain ⟨x18, hx18, h0⟩ := bS h0
   refine TL.op1 (OpR.sliceArrM (n := 4) (l := ([(if t4.2.1 = 0 then (ub (w64 (ior .i64 t4.1 x16.fMark))) else t4.2.2.1), (if t4.2.1 - 1 = 0 then (ub (w64 (ior .i64 t4.1 x16.fMark))) else t4.2.2.2.1), (if t4.2.1 - 1 - 1 = 0 then (ub (w64 (ior .i64 t4.1 x16.fMark))) else t4.2.2.2.2.1), (if t4.2.1 - 1 - 1 - 1 = 0 then (ub (w64 (ior .i64 t4.1 x16.fMark))) else t4.2.2.2.2.2)] : List UInt8)) byteD 0 hx18 rfl rfl rfl rfl rfl rfl rfl rfl (fun _ => rfl) rfl rfl rfl rfl) rfl ?_
   refine aA rfl rfl ?_
   refine aN rfl ?_
   refine T.ret ?_
   obtain rfl := Option.some.inj h0
   exact rP [] [2] [] rfl rfl rfl undef (cT rfl ResL.nil) rfl rfl rfl rfl
 refine T.block ?_
 obtain ⟨n6, n11⟩ := loop_some ht4
 refine T.loop (fun n S' => ∃ S'', Gst S' S'' ∧ ∃ s5 : Int × Int × UInt8 × UInt8 × UInt8 × UInt8, S'' = ⟨[(4, (dN s5.2.1)), (3, (dP (blk p3))), (2, .val (.slice none 0 0)), (0, (dN s5.1))], [.var (blk p3) [.val (.int .u8 (s5.2.2.1.toNat : Int)), .val (.int .u8 (s5.2.2.2.1.toNat : Int)), .val (.int .u8 (s5.2.2.2.2.1.toNat : Int)), .val (.int .u8 (s5.2.2.2.2.2.toNat : Int))] 61], 35⟩ ∧ iter utf_Put.l1 n s5 = some t4) n6 ?_ ?_
 · exact ⟨_, Gst.only [0, 2, 3, 4] rfl, (a0, 3, 0, 0, 0, 0), rfl, n11⟩
 rintro n6 _ ⟨_, g, s5, rfl, i10⟩
 refine T.ghost g ?_
 obtain ⟨m7, q8, rfl, q9, i10⟩ := iter_succ i10
 unfold utf_Put.l1 at q9
 refine T.seq ?_
 refine aS ?_
 iterate 3 refine aA rfl rfl ?_
 obtain ⟨x13, hx13, q9⟩ := bS q9
 refine TL.op1 (OpR.call0 fn36 (utf_head_c hx13) rfl) rfl ?_
 iterate 2 refine aA rfl rfl ?_
 refine aN rfl ?_
 rcases ite_some q9 with ⟨c14, q9⟩ | ⟨c14, q9⟩
 rotate_left
 · refine T.condF rfl (decide_eq_false c14) ?_
   refine T.exit ?_
   obtain rfl := Option.some.inj q9
   obtain rfl : _ = _ := i10
   exact ⟨_, Gst.only [0, 2, 3, 4] rfl, rfl⟩
 refine T.condT rfl (decide_eq_true c14) ?_
 refine aK rfl ?_
 refine T.seq ?_
 refine T.block ?_
 refine aS ?_
 iterate 4 refine aA rfl rfl ?_
 refine TL.op1 (OpR.cast (OpR.pure rfl) (intE (ub_wrap _))) rfl ?_
 obtain ⟨x15, hx15, q9⟩ := bS q9
 refine TL.op1 (OpR.indexVarM (l := ([s5.2.2.1, s5.2.2.2.1, s5.2.2.2.2.1, s5.2.2.2.2.2] : List UInt8)) hx15 rfl rfl rfl rfl rfl rfl rfl) rfl ?_
 refine TL.op0 (OpR.arrStoreM (off := 0) (j := s5.2.1) (a' := (ub (w64 (ior .i64 128 (w64 (iand .i64 s5.1 63)))))) (l := ([s5.2.2.1, s5.2.2.2.1, s5.2.2.2.2.1, s5.2.2.2.2.2] : List UInt8)) (pre := []) (rest := []) byteD 0 hx15 rfl rfl rfl rfl rfl (fun _ => rfl) rfl rfl rfl rfl) ?_
 refine aN rfl ?_
 refine T.region ?_
 iterate 3 refine aA rfl rfl ?_
 refine aN rfl ?_
 refine T.region ?_
 iterate 3 refine aA rfl rfl ?_
 refine TL.nil ?_
 obtain rfl := Option.some.inj q9
 exact ⟨m7, Nat.lt_succ_self _, _, Gst.only [0, 2, 3, 4] rfl, (ishr .i64 s5.1 6, w64 (s5.2.1 - 1), (if s5.2.1 = 0 then (ub (w64 (ior .i64 128 (w64 (iand .i64 s5.1 63))))) else s5.2.2.1), (if s5.2.1 - 1 = 0 then (ub (w64 (ior .i64 128 (w64 (iand .i64 s5.1 63))))) else s5.2.2.2.1), (if s5.2.1 - 1 - 1 = 0 then (ub (w64 (ior .i64 128 (w64 (iand .i64 s5.1 63))))) else s5.2.2.2.2.1), (if s5.2.1 - 1 - 1 - 1 = 0 then (ub (w64 (ior .i64 128 (w64 (iand .i64 s5.1 63))))) else s5.2.2.2.2.2)), rfl, i10⟩
noncomputable def keys_Types (a0 : Int) : Option Bool :=
  bnd (if a0 ≥ 32 then
    if a0 = 127 then
      some false
    else
      bnd (utf_Put a0) fun x4 =>
      some (decide ((x4.length : Int) > 0))
  else
    some false : Option Bool) fun t1 =>
  some t1
theorem keys_Types_c {a0 : Int} {res : Bool} (h0 : keys_Types a0 = some res) : CallF X 16 [dN a0] [] (fun x => (dT res)) (fun x => []) := by
 unfold keys_Types at h0
 refine CallF.mkG (X := X) rfl Tryd.func16 rfl rfl Tryd.ntmps16 rfl rfl ?_
 refine aS ?_
 refine aA rfl rfl ?_
 refine aN rfl ?_
 refine T.seq ?_
 obtain ⟨t1, ht1, h0⟩ := bS h0
 refine T.cutC (fun S' => S' = ⟨[(2, (dT t1))], [], 15⟩) (fun _ h => h) ?_ ?_
 rotate_left
 · rintro _ rfl
   show T X _ _ _
   refine T.ret ?_
   obtain rfl := Option.some.inj h0
   exact rO [] [2] rfl undef (cT rfl ResL.nil) rfl rfl rfl rfl
 refine T.region ?_
 iterate 3 refine aA rfl rfl ?_
 rcases ite_some ht1 with ⟨c2, ht1⟩ | ⟨c2, ht1⟩
 rotate_left
 · refine TL.off rfl rfl rfl rfl (decide_eq_false c2) rfl rfl ?_
   refine TL.off rfl rfl rfl rfl (decide_eq_false c2) rfl rfl ?_
   refine TL.op1 (OpR.pickF rfl (decide_eq_false c2) rfl) rfl ?_
   refine aA rfl rfl ?_
   refine TL.off rfl rfl rfl rfl rfl rfl rfl ?_
   refine TL.off rfl rfl rfl rfl rfl rfl rfl ?_
   refine TL.off rfl rfl rfl rfl rfl rfl rfl ?_
   refine TL.off rfl rfl rfl rfl rfl rfl rfl ?_
   refine TL.op1 (OpR.pickF rfl rfl rfl) rfl ?_
   refine aA rfl rfl ?_
   refine TL.nil ?_
   obtain rfl := Option.some.inj ht1
   exact ⟨_, Gst.only [2] rfl, rfl⟩
 refine TL.on rfl rfl rfl rfl (decide_eq_true c2) ?_
 refine aA rfl rfl ?_
 refine TL.on rfl rfl rfl rfl (decide_eq_true c2) ?_
 refine aA rfl rfl ?_
 refine TL.op1 (OpR.pickT rfl (decide_eq_true c2) rfl) rfl ?_
 refine aA rfl rfl ?_
 rcases ite_some ht1 with ⟨c3, ht1⟩ | ⟨c3, ht1⟩
 · refine TL.off rfl rfl rfl rfl (not_t (beq_iff_eq.2 c3)) rfl rfl ?_
   refine TL.off rfl rfl rfl rfl (not_t (beq_iff_eq.2 c3)) rfl rfl ?_
   refine TL.off rfl rfl rfl rfl (not_t (beq_iff_eq.2 c3)) rfl rfl ?_
   refine TL.off rfl rfl rfl rfl (not_t (beq_iff_eq.2 c3)) rfl rfl ?_
   refine TL.op1 (OpR.pickF rfl (not_t (beq_iff_eq.2 c3)) rfl) rfl ?_
   refine aA rfl rfl ?_
   refine TL.nil ?_
   obtain rfl := Option.some.inj ht1
   exact ⟨_, Gst.only [2] rfl, rfl⟩
 refine TL.on rfl rfl rfl rfl (not_f (beq_eq_false_iff_ne.2 c3)) ?_
 refine aA rfl rfl ?_
 refine TL.on rfl rfl rfl rfl (not_f (beq_eq_false_iff_ne.2 c3)) ?_
 obtain ⟨x4, hx4, ht1⟩ := bS ht1
 refine TL.op1 (OpR.call0 fn27 (utf_Put_c hx4) rfl) rfl ?_
 refine TL.on rfl rfl rfl rfl (not_f (beq_eq_false_iff_ne.2 c3)) ?_
 refine TL.op1 (OpR.cast (OpR.pure rfl) (intE (lenM _ _))) rfl ?_
 refine TL.on rfl rfl rfl rfl (not_f (beq_eq_false_iff_ne.2 c3)) ?_
 refine aA rfl rfl ?_
 refine TL.op1 (OpR.pickT rfl (not_f (beq_eq_false_iff_ne.2 c3)) rfl) rfl ?_
 refine aA rfl rfl ?_
 refine TL.nil ?_
 obtain rfl := Option.some.inj ht1
 exact ⟨_, Gst.only [2] rfl, rfl⟩
noncomputable def keys_Text.l1 (a0 : Int) (s3 : Int) : Option (Lp Int (Ex Unit (List UInt8))) :=
  if s3 < 12 then
    bnd (idx tab_keys_names s3) fun x12 =>
    if x12.fKey = a0 then
      bnd (catS [60] x12.fText) fun x15 =>
      bnd (catS x15 [62]) fun x16 =>
      some (Lp.done (Ex.ret x16))
    else
      some (Lp.next (w64 (s3 + 1)))
  else
    some (Lp.done (Ex.brk ()))
noncomputable def keys_Text (a0 : Int) : Option (List UInt8) :=
  bnd (loop (keys_Text.l1 a0) 0 : Option (Ex Unit (List UInt8))) fun t1 => match t1 with
    | .brk u2 =>
      bnd (if a0 ≥ 1 then
        some (decide (a0 ≤ 26))
      else
        some false : Option Bool) fun t17 =>
      if t17 = true then
        bnd (catS [60, 67, 45] [ub (w64 ((w64 (97 + a0)) - 1))]) fun x20 =>
        bnd (catS x20 [62]) fun x21 =>
        some x21
      else
        bnd (keys_Types a0) fun x22 =>
        if x22 = true then
          bnd (utf_Put a0) fun x24 =>
          some x24
        else
          some []
    | .ret u2 => some u2
theorem keys_Text_c {a0 : Int} {res : (List UInt8)} (h0 : keys_Text a0 = some res) : CallF X 18 [dN a0] [] (fun x => .val (.string (bs res))) (fun x => []) := by
 unfold keys_Text at h0
 refine CallF.mkG (X := X) rfl Tryd.func18 rfl rfl Tryd.ntmps18 rfl rfl ?_
 refine aS ?_
 refine aA rfl rfl ?_
 refine aN rfl ?_
 refine T.seq ?_
 refine aS ?_
 iterate 2 refine aA rfl rfl ?_
 refine aN rfl ?_
 obtain ⟨t1, ht1, h0⟩ := bS h0
 refine T.cutC (fun S' => ∃ u2, t1 = Ex.brk u2 ∧ S' = ⟨[(2, .val (.string (bs []))), (0, (dN a0))], [], 39⟩) (fun _ h => h) ?_ ?_
 · refine T.block ?_
   obtain ⟨n4, n9⟩ := loop_some ht1
   refine T.loop (fun n S' => ∃ S'', Gst S' S'' ∧ ∃ s3 : Int, S'' = ⟨[(6, (dN s3)), (5, .agg ((List.map e_keys_name tab_keys_names).flatMap Dat.cells)), (2, .val (.string (bs []))), (0, (dN a0))], [], 39⟩ ∧ iter (keys_Text.l1 a0) n s3 = some t1) n4 ?_ ?_
   · exact ⟨_, Gst.only [0, 2, 5, 6] rfl, 0, rfl, n9⟩
   rintro n4 _ ⟨_, g, s3, rfl, i8⟩
   refine T.ghost g ?_
   obtain ⟨m5, q6, rfl, q7, i8⟩ := iter_succ i8
   unfold keys_Text.l1 at q7
   refine aS ?_
   refine aA rfl rfl ?_
   refine aN rfl ?_
   refine T.seq ?_
   rcases ite_some q7 with ⟨c11, q7⟩ | ⟨c11, q7⟩
   rotate_left
   · refine T.condF rfl (decide_eq_false c11) ?_
     refine T.exit ?_
     obtain rfl := Option.some.inj q7
     obtain rfl : _ = _ := i8
     exact ⟨_, Gst.only [0, 2] rfl, _, rfl, rfl⟩
   refine T.condT rfl (decide_eq_true c11) ?_
   refine aK rfl ?_
   refine T.seq ?_
   refine T.block ?_
   refine aS ?_
   obtain ⟨x12, hx12, q7⟩ := bS q7
   refine TL.op1 (OpR.indexAggM e_keys_name (l := tab_keys_names) hx12 rfl rfl rfl rfl rfl rfl rfl (fun _ => rfl) rfl rfl) rfl ?_
   refine TL.op (OpR.alloc rfl rfl (fun _ => rfl)) rfl (fun p13 => ?_)
   refine TL.op0 (OpR.store 0 rfl rfl rfl rfl rfl rfl rfl rfl) ?_
   refine aN rfl ?_
   refine aS ?_
   refine aA rfl rfl ?_
   refine TL.op1 (OpR.loadPtr 0 rfl rfl rfl rfl) rfl ?_
   iterate 2 refine aA rfl rfl ?_
   refine aN rfl ?_
   rcases ite_some q7 with ⟨c14, q7⟩ | ⟨c14, q7⟩
   rotate_left
   · refine T.condF rfl (beq_eq_false_iff_ne.2 c14) ?_
     refine aK rfl ?_
     refine T.region ?_
     iterate 2 refine aA rfl rfl ?_
     refine TL.nil ?_
     obtain rfl := Option.some.inj q7
     exact ⟨m5, Nat.lt_succ_self _, _, gP [0, 2, 5, 6] [] rfl rfl rfl, w64 (s3 + 1), rfl, i8⟩
   refine T.condT rfl (beq_iff_eq.2 c14) ?_
   refine aS ?_
   refine aA rfl rfl ?_
   refine TL.op1 (OpR.loadPtr 0 rfl rfl rfl rfl) rfl ?_
   obtain ⟨x15, hx15, q7⟩ := bS q7
   refine TL.op1 (OpR.concatM hx15 rfl rfl) rfl ?_
   obtain ⟨x16, hx16, q7⟩ := bS q7
   refine TL.op1 (OpR.concatM hx16 rfl rfl) rfl ?_
   refine aA rfl rfl ?_
   refine aN rfl ?_
   refine T.ret ?_
   obtain rfl := Option.some.inj q7
   obtain rfl : _ = _ := i8
   obtain rfl := Option.some.inj h0
   exact rP [] [2] [] rfl rfl rfl undef (cT rfl ResL.nil) rfl rfl rfl rfl
 rintro _ ⟨u2, rfl, rfl⟩
 show T X _ _ _
 refine T.seq ?_
 refine T.block ?_
 refine T.seq ?_
 obtain ⟨t17, ht17, h0⟩ := bS h0
 refine T.cutC (fun S' => S' = ⟨[(18, (dT t17)), (2, .val (.string (bs []))), (0, (dN a0))], [], 39⟩) (fun _ h => h) ?_ ?_
 · refine T.region ?_
   iterate 3 refine aA rfl rfl ?_
   rcases ite_some ht17 with ⟨c18, ht17⟩ | ⟨c18, ht17⟩
   rotate_left
   · refine TL.off rfl rfl rfl rfl (decide_eq_false c18) rfl rfl ?_
     refine TL.off rfl rfl rfl rfl (decide_eq_false c18) rfl rfl ?_
     refine TL.op1 (OpR.pickF rfl (decide_eq_false c18) rfl) rfl ?_
     refine aA rfl rfl ?_
     refine TL.nil ?_
     obtain rfl := Option.some.inj ht17
     exact ⟨_, Gst.only [0, 2, 18] rfl, rfl⟩
   refine TL.on rfl rfl rfl rfl (decide_eq_true c18) ?_
   refine aA rfl rfl ?_
   refine TL.on rfl rfl rfl rfl (decide_eq_true c18) ?_
   refine aA rfl rfl ?_
   refine TL.op1 (OpR.pickT rfl (decide_eq_true c18) rfl) rfl ?_
   refine aA rfl rfl ?_
   refine TL.nil ?_
   obtain rfl := Option.some.inj ht17
   exact ⟨_, Gst.only [0, 2, 18] rfl, rfl⟩
 rintro _ rfl
 show T X _ _ _
 rcases ite_some h0 with ⟨c19, h0⟩ | ⟨c19, h0⟩
 · refine T.condT rfl (c19) ?_
   refine aS ?_
   iterate 3 refine aA rfl rfl ?_
   refine TL.op1 (OpR.cast (OpR.pure rfl) (intE (ub_wrap _))) rfl ?_
   refine TL.op1 (OpR.lit rfl rfl rfl rfl rfl rfl rfl) rfl ?_
   refine TL.op1 (OpR.toStr (bs := [ub (w64 ((w64 (97 + a0)) - 1))]) rfl rfl rfl rfl rfl rfl rfl) rfl ?_
   obtain ⟨x20, hx20, h0⟩ := bS h0
   refine TL.op1 (OpR.concatM hx20 rfl rfl) rfl ?_
   obtain ⟨x21, hx21, h0⟩ := bS h0
   refine TL.op1 (OpR.concatM hx21 rfl rfl) rfl ?_
   refine aA rfl rfl ?_
   refine aN rfl ?_
   refine T.ret ?_
   obtain rfl := Option.some.inj h0
   exact rO [] [2] rfl undef (cT rfl ResL.nil) rfl rfl rfl rfl
 refine T.condF rfl (eq_false_of_ne_true c19) ?_
 refine aS ?_
 refine aA rfl rfl ?_
 obtain ⟨x22, hx22, h0⟩ := bS h0
 refine TL.op1 (OpR.call0 fn16 (keys_Types_c hx22) rfl) rfl ?_
 refine aA rfl rfl ?_
 refine aN rfl ?_
 rcases ite_some h0 with ⟨c23, h0⟩ | ⟨c23, h0⟩
 rotate_left
 · refine T.condF rfl (eq_false_of_ne_true c23) ?_
   refine aK rfl ?_
   refine aS ?_
   refine aA rfl rfl ?_
   refine aN rfl ?_
   refine T.ret ?_
   obtain rfl := Option.some.inj h0
   exact rO [] [2] rfl undef (cT rfl ResL.nil) rfl rfl rfl rfl
 refine T.condT rfl (c23) ?_
 refine aS ?_
 refine aA rfl rfl ?_
 obtain ⟨x24, hx24, h0⟩ := bS h0
 refine TL.op1 (OpR.call0 fn27 (utf_Put_c hx24) rfl) rfl ?_
 refine TL.op1 (OpR.toStr (bs := x24) rfl rfl rfl rfl rfl rfl rfl) rfl ?_
 refine aA rfl rfl ?_
 refine aN rfl ?_
 refine T.ret ?_
 obtain rfl := Option.some.inj h0
 exact rO [] [2] rfl undef (cT rfl ResL.nil) rfl rfl rfl rfl
noncomputable def keys_Ctrl (a0 : UInt8) : Option Int :=
  bnd (if (a0.toNat : Int) < 97 then
    some true
  else
    some (decide ((a0.toNat : Int) > 122)) : Option Bool) fun t1 =>
  if t1 = true then
    some 0
  else
    some (w64 (((ub ((a0.toNat : Int) - 97)).toNat : Int) + 1))
theorem keys_Ctrl_c {a0 : UInt8} {res : Int} (h0 : keys_Ctrl a0 = some res) : CallF X 20 [.val (.int .u8 (a0.toNat : Int))] [] (fun x => (dN res)) (fun x => []) := by
 unfold keys_Ctrl at h0
 refine CallF.mkG (X := X) rfl Tryd.func20 rfl rfl Tryd.ntmps20 rfl rfl ?_
 refine aS ?_
 refine aA rfl rfl ?_
 refine aN rfl ?_
 refine T.seq ?_
 refine T.seq ?_
 obtain ⟨t1, ht1, h0⟩ := bS h0
 refine T.cutC (fun S' => S' = ⟨[(8, (dT t1)), (2, (dN 0)), (0, .val (.int .u8 (a0.toNat : Int)))], [], 13⟩) (fun _ h => h) ?_ ?_
 · refine T.region ?_
   iterate 3 refine aA rfl rfl ?_
   rcases ite_some ht1 with ⟨c2, ht1⟩ | ⟨c2, ht1⟩
   · refine TL.off rfl rfl rfl rfl (decide_eq_true c2) rfl rfl ?_
     refine TL.off rfl rfl rfl rfl (decide_eq_true c2) rfl rfl ?_
     refine TL.op1 (OpR.pickT rfl (decide_eq_true c2) rfl) rfl ?_
     refine TL.nil ?_
     obtain rfl := Option.some.inj ht1
     exact ⟨_, Gst.only [0, 2, 8] rfl, rfl⟩
   refine TL.on rfl rfl rfl rfl (decide_eq_false c2) ?_
   refine aA rfl rfl ?_
   refine TL.on rfl rfl rfl rfl (decide_eq_false c2) ?_
   refine aA rfl rfl ?_
   refine TL.op1 (OpR.pickF rfl (decide_eq_false c2) rfl) rfl ?_
   refine TL.nil ?_
   obtain rfl := Option.some.inj ht1
   exact ⟨_, Gst.only [0, 2, 8] rfl, rfl⟩
 rintro _ rfl
 show T X _ _ _
 rcases ite_some h0 with ⟨c3, h0⟩ | ⟨c3, h0⟩
 · refine T.condT rfl (c3) ?_
   refine aS ?_
   refine aA rfl rfl ?_
   refine aN rfl ?_
   refine T.ret ?_
   obtain rfl := Option.some.inj h0
   exact rO [] [2] rfl undef (cT rfl ResL.nil) rfl rfl rfl rfl
 refine T.condF rfl (eq_false_of_ne_true c3) ?_
 refine aK rfl ?_
 refine aS ?_
 refine aA rfl rfl ?_
 refine TL.op1 (OpR.cast (OpR.pure rfl) (intE (ub_wrap _))) rfl ?_
 refine TL.op1 (OpR.cast (OpR.pure rfl) (intE (w64_u8 _))) rfl ?_
 iterate 2 refine aA rfl rfl ?_
 refine aN rfl ?_
 refine T.ret ?_
 obtain rfl := Option.some.inj h0
 exact rO [] [2] rfl undef (cT rfl ResL.nil) rfl rfl rfl rfl
noncomputable def internal_stringslite_HasPrefix (a0 : List UInt8) (a1 : List UInt8) : Option Bool :=
  bnd (if (a0.length : Int) ≥ (a1.length : Int) then
    bnd (cut a0 0 (a1.length : Int)) fun x3 =>
    some (x3 == a1)
  else
    some false : Option Bool) fun t1 =>
  some t1
theorem internal_stringslite_HasPrefix_c {a0 : List UInt8} {a1 : List UInt8} {res : Bool} (h0 : internal_stringslite_HasPrefix a0 a1 = some res) : CallF X 43 [.val (.string (bs a0)), .val (.string (bs a1))] [] (fun x => (dT res)) (fun x => []) := by
 unfold internal_stringslite_HasPrefix at h0
 refine CallF.mkG (X := X) rfl Tryd.func43 rfl rfl Tryd.ntmps43 rfl rfl ?_
 refine aS ?_
 refine aA rfl rfl ?_
 refine aN rfl ?_
 refine T.seq ?_
 obtain ⟨t1, ht1, h0⟩ := bS h0
 refine T.cutC (fun S' => S' = ⟨[(4, (dT t1))], [], 18⟩) (fun _ h => h) ?_ ?_
 rotate_left
 · rintro _ rfl
   show T X _ _ _
   refine T.ret ?_
   obtain rfl := Option.some.inj h0
   exact rO [] [4] rfl undef (cT rfl ResL.nil) rfl rfl rfl rfl
 refine T.region ?_
 refine aA rfl rfl ?_
 refine TL.op1 (OpR.cast (OpR.pure rfl) (intE (lenS _))) rfl ?_
 refine aA rfl rfl ?_
 refine TL.op1 (OpR.cast (OpR.pure rfl) (intE (lenS _))) rfl ?_
 iterate 2 refine aA rfl rfl ?_
 rcases ite_some ht1 with ⟨c2, ht1⟩ | ⟨c2, ht1⟩
 rotate_left
 · refine TL.off rfl rfl rfl rfl (decide_eq_false c2) rfl rfl ?_
   refine TL.off rfl rfl rfl rfl (decide_eq_false c2) rfl rfl ?_
   refine TL.off rfl rfl rfl rfl (decide_eq_false c2) rfl rfl ?_
   refine TL.off rfl rfl rfl rfl (decide_eq_false c2) rfl rfl ?_
   refine TL.off rfl rfl rfl rfl (decide_eq_false c2) rfl rfl ?_
   refine TL.off rfl rfl rfl rfl (decide_eq_false c2) rfl rfl ?_
   refine TL.op1 (OpR.pickF rfl (decide_eq_false c2) rfl) rfl ?_
   refine aA rfl rfl ?_
   refine TL.nil ?_
   obtain rfl := Option.some.inj ht1
   exact ⟨_, Gst.only [4] rfl, rfl⟩
 refine TL.on rfl rfl rfl rfl (decide_eq_true c2) ?_
 refine aA rfl rfl ?_
 refine TL.on rfl rfl rfl rfl (decide_eq_true c2) ?_
 refine aA rfl rfl ?_
 refine TL.on rfl rfl rfl rfl (decide_eq_true c2) ?_
 refine TL.op1 (OpR.cast (OpR.pure rfl) (intE (lenS _))) rfl ?_
 refine TL.on rfl rfl rfl rfl (decide_eq_true c2) ?_
 obtain ⟨x3, hx3, ht1⟩ := bS ht1
 refine TL.op1 (OpR.sliceS hx3 rfl rfl rfl BdM.none (BdM.some rfl)) rfl ?_
 refine TL.on rfl rfl rfl rfl (decide_eq_true c2) ?_
 refine aA rfl rfl ?_
 refine TL.on rfl rfl rfl rfl (decide_eq_true c2) ?_
 refine TL.op1 (OpR.cast (OpR.pure rfl) (boolE (strEq _ _))) rfl ?_
 refine TL.op1 (OpR.pickT rfl (decide_eq_true c2) rfl) rfl ?_
 refine aA rfl rfl ?_
 refine TL.nil ?_
 obtain rfl := Option.some.inj ht1
 exact ⟨_, Gst.only [4] rfl, rfl⟩
noncomputable def internal_stringslite_CutPrefix (a0 : List UInt8) (a1 : List UInt8) : Option ((List UInt8) × Bool) :=
  bnd (internal_stringslite_HasPrefix a0 a1) fun x1 =>
  if x1 = true then
    bnd (cut a0 (a1.length : Int) (a0.length : Int)) fun x3 =>
    some (x3, true)
  else
    some (a0, false)
theorem internal_stringslite_CutPrefix_c {a0 : List UInt8} {a1 : List UInt8} {res : (List UInt8) × Bool} (h0 : internal_stringslite_CutPrefix a0 a1 = some res) : CallF X 38 [.val (.string (bs a0)), .val (.string (bs a1))] [] (fun x => .tup [.val (.string (bs res.1)), dT res.2]) (fun x => []) := by
 unfold internal_stringslite_CutPrefix at h0
 refine CallF.mkG (X := X) rfl Tryd.func38 rfl rfl Tryd.ntmps38 rfl rfl ?_
 refine aS ?_
 iterate 2 refine aA rfl rfl ?_
 refine aN rfl ?_
 refine T.seq ?_
 refine aS ?_
 iterate 2 refine aA rfl rfl ?_
 obtain ⟨x1, hx1, h0⟩ := bS h0
 refine TL.op1 (OpR.call0 fn43 (internal_stringslite_HasPrefix_c hx1) rfl) rfl ?_
 refine aA rfl rfl ?_
 refine aN rfl ?_
 rcases ite_some h0 with ⟨c2, h0⟩ | ⟨c2, h0⟩
 rotate_left
 · refine T.condT rfl (not_f (eq_false_of_ne_true c2)) ?_
   refine aS ?_
   iterate 3 refine aA rfl rfl ?_
   refine aN rfl ?_
   refine T.ret ?_
   obtain rfl := Option.some.inj h0
   exact rO [] [4, 5] rfl undef (cT rfl (cT rfl ResL.nil)) rfl rfl rfl rfl
 refine T.condF rfl (not_t (c2)) ?_
 refine aK rfl ?_
 refine aS ?_
 iterate 2 refine aA rfl rfl ?_
 refine TL.op1 (OpR.cast (OpR.pure rfl) (intE (lenS _))) rfl ?_
 obtain ⟨x3, hx3, h0⟩ := bS h0
 refine TL.op1 (OpR.sliceS hx3 rfl rfl rfl (BdM.some rfl) BdM.none) rfl ?_
 iterate 2 refine aA rfl rfl ?_
 refine aN rfl ?_
 refine T.ret ?_
 obtain rfl := Option.some.inj h0
 exact rO [] [4, 5] rfl undef (cT rfl (cT rfl ResL.nil)) rfl rfl rfl rfl
noncomputable def strings_CutPrefix (a0 : List UInt8) (a1 : List UInt8) : Option ((List UInt8) × Bool) :=
  bnd (internal_stringslite_CutPrefix a0 a1) fun x1 =>
  some (x1.1, x1.2)
theorem strings_CutPrefix_c {a0 : List UInt8} {a1 : List UInt8} {res : (List UInt8) × Bool} (h0 : strings_CutPrefix a0 a1 = some res) : CallF X 30 [.val (.string (bs a0)), .val (.string (bs a1))] [] (fun x => .tup [.val (.string (bs res.1)), dT res.2]) (fun x => []) := by
 unfold strings_CutPrefix at h0
 refine CallF.mkG (X := X) rfl Tryd.func30 rfl rfl Tryd.ntmps30 rfl rfl ?_
 refine aS ?_
 iterate 2 refine aA rfl rfl ?_
 refine aN rfl ?_
 refine aS ?_
 iterate 2 refine aA rfl rfl ?_
 obtain ⟨x1, hx1, h0⟩ := bS h0
 refine TL.op1 (OpR.call0 fn38 (internal_stringslite_CutPrefix_c hx1) rfl) rfl ?_
 iterate 4 refine aA rfl rfl ?_
 refine aN rfl ?_
 refine T.ret ?_
 obtain rfl := Option.some.inj h0
 exact rO [] [4, 5] rfl undef (cT rfl (cT rfl ResL.nil)) rfl rfl rfl rfl
noncomputable def keys_named.l1 (a0 : List UInt8) (x2 : List UInt8) (s5 : Int) : Option (Lp Int (Ex Unit (Int × Int))) :=
  if s5 < 12 then
    bnd (idx tab_keys_names s5) fun x14 =>
    if x14.fText = x2 then
      some (Lp.done (Ex.ret (x14.fKey, w64 ((sIndexByte a0 62) + 1))))
    else
      some (Lp.next (w64 (s5 + 1)))
  else
    some (Lp.done (Ex.brk ()))
noncomputable def keys_named (a0 : List UInt8) : Option (Int × Int) :=
  if (sIndexByte a0 62) < 0 then
    some (0, 0)
  else
    bnd (cut a0 1 (sIndexByte a0 62)) fun x2 =>
    bnd (loop (keys_named.l1 a0 x2) 0 : Option (Ex Unit (Int × Int))) fun t3 => match t3 with
      | .brk u4 =>
        bnd (strings_CutPrefix x2 [67, 45]) fun x17 =>
        bnd (if x17.2 = true then
          some ((x17.1.length : Int) == 1)
        else
          some false : Option Bool) fun t18 =>
        bnd (if t18 = true then
          bnd (idx x17.1 0) fun x23 =>
          bnd (keys_Ctrl x23) fun x24 =>
          bnd (if x24 = 0 then
            some false
          else
            bnd (keys_Text x24) fun x28 =>
            bnd (cut a0 0 (w64 ((sIndexByte a0 62) + 1))) fun x29 =>
            some (x28 == x29) : Option Bool) fun t25 =>
          if t25 = true then
            some (Ex.ret (x24, w64 ((sIndexByte a0 62) + 1)))
          else
            some (Ex.brk ())
        else
          some (Ex.brk ()) : Option (Ex Unit (Int × Int))) fun t20 => match t20 with
          | .brk u21 =>
            some (0, 0)
          | .ret u21 => some u21
      | .ret u4 => some u4
theorem keys_named_c {a0 : List UInt8} {res : Int × Int} (h0 : keys_named a0 = some res) : CallF X 22 [.val (.string (bs a0))] [] (fun x => .tup [dN res.1, dN res.2]) (fun x => []) := by
 unfold keys_named at h0
 refine CallF.mkG (X := X) rfl Tryd.func22 rfl rfl Tryd.ntmps22 rfl rfl ?_
 refine aS ?_
 iterate 2 refine aA rfl rfl ?_
 refine aN rfl ?_
 refine aS ?_
 refine aA rfl rfl ?_
 refine TL.op1 (OpR.strIndexByte (ρ := smRen) (f := 29) smLay rfl fn29 (l := a0) (c := 62) rfl rfl) rfl ?_
 refine aA rfl rfl ?_
 refine aN rfl ?_
 refine T.seq ?_
 refine aS ?_
 iterate 2 refine aA rfl rfl ?_
 refine aN rfl ?_
 rcases ite_some h0 with ⟨c1, h0⟩ | ⟨c1, h0⟩
 · refine T.condT rfl (decide_eq_true c1) ?_
   refine aS ?_
   iterate 2 refine aA rfl rfl ?_
   refine aN rfl ?_
   refine T.ret ?_
   obtain rfl := Option.some.inj h0
   exact rO [] [2, 3] rfl undef (cT rfl (cT rfl ResL.nil)) rfl rfl rfl rfl
 refine T.condF rfl (decide_eq_false c1) ?_
 refine aK rfl ?_
 refine aS ?_
 iterate 2 refine aA rfl rfl ?_
 obtain ⟨x2, hx2, h0⟩ := bS h0
 refine TL.op1 (OpR.sliceS hx2 rfl rfl rfl (BdM.some rfl) (BdM.some rfl)) rfl ?_
 refine aA rfl rfl ?_
 refine aN rfl ?_
 refine T.seq ?_
 refine aS ?_
 iterate 2 refine aA rfl rfl ?_
 refine aN rfl ?_
 obtain ⟨t3, ht3, h0⟩ := bS h0
 refine T.cutC (fun S' => ∃ u4, t3 = Ex.brk u4 ∧ S' = ⟨[(5, .val (.string (bs x2))), (4, (dN (sIndexByte a0 62))), (3, (dN 0)), (2, (dN 0)), (0, .val (.string (bs a0)))], [], 59⟩) (fun _ h => h) ?_ ?_
 · refine T.block ?_
   obtain ⟨n6, n11⟩ := loop_some ht3
   refine T.loop (fun n S' => ∃ S'', Gst S' S'' ∧ ∃ s5 : Int, S'' = ⟨[(19, (dN s5)), (18, .agg ((List.map e_keys_name tab_keys_names).flatMap Dat.cells)), (5, .val (.string (bs x2))), (4, (dN (sIndexByte a0 62))), (3, (dN 0)), (2, (dN 0)), (0, .val (.string (bs a0)))], [], 59⟩ ∧ iter (keys_named.l1 a0 x2) n s5 = some t3) n6 ?_ ?_
   · exact ⟨_, Gst.only [0, 2, 3, 4, 5, 18, 19] rfl, 0, rfl, n11⟩
   rintro n6 _ ⟨_, g, s5, rfl, i10⟩
   refine T.ghost g ?_
   obtain ⟨m7, q8, rfl, q9, i10⟩ := iter_succ i10
   unfold keys_named.l1 at q9
   refine aS ?_
   refine aA rfl rfl ?_
   refine aN rfl ?_
   refine T.seq ?_
   rcases ite_some q9 with ⟨c13, q9⟩ | ⟨c13, q9⟩
   rotate_left
   · refine T.condF rfl (decide_eq_false c13) ?_
     refine T.exit ?_
     obtain rfl := Option.some.inj q9
     obtain rfl : _ = _ := i10
     exact ⟨_, Gst.only [0, 2, 3, 4, 5] rfl, _, rfl, rfl⟩
   refine T.condT rfl (decide_eq_true c13) ?_
   refine aK rfl ?_
   refine T.seq ?_
   refine T.block ?_
   refine aS ?_
   obtain ⟨x14, hx14, q9⟩ := bS q9
   refine TL.op1 (OpR.indexAggM e_keys_name (l := tab_keys_names) hx14 rfl rfl rfl rfl rfl rfl rfl (fun _ => rfl) rfl rfl) rfl ?_
   refine TL.op (OpR.alloc rfl rfl (fun _ => rfl)) rfl (fun p15 => ?_)
   refine TL.op0 (OpR.store 0 rfl rfl rfl rfl rfl rfl rfl rfl) ?_
   refine aN rfl ?_
   refine aS ?_
   refine aA rfl rfl ?_
   refine TL.op1 (OpR.loadPtr 0 rfl rfl rfl rfl) rfl ?_
   refine aA rfl rfl ?_
   refine TL.op1 (OpR.cast (OpR.pure rfl) (boolE (strEq _ _))) rfl ?_
   refine aN rfl ?_
   rcases ite_some q9 with ⟨c16, q9⟩ | ⟨c16, q9⟩
   rotate_left
   · refine T.condF rfl (beq_eq_false_iff_ne.2 c16) ?_
     refine aK rfl ?_
     refine T.region ?_
     iterate 2 refine aA rfl rfl ?_
     refine TL.nil ?_
     obtain rfl := Option.some.inj q9
     exact ⟨m7, Nat.lt_succ_self _, _, gP [0, 2, 3, 4, 5, 18, 19] [] rfl rfl rfl, w64 (s5 + 1), rfl, i10⟩
   refine T.condT rfl (beq_iff_eq.2 c16) ?_
   refine aS ?_
   refine aA rfl rfl ?_
   refine TL.op1 (OpR.loadPtr 0 rfl rfl rfl rfl) rfl ?_
   iterate 4 refine aA rfl rfl ?_
   refine aN rfl ?_
   refine T.ret ?_
   obtain rfl := Option.some.inj q9
   obtain rfl : _ = _ := i10
   obtain rfl := Option.some.inj h0
   exact rP [] [2, 3] [] rfl rfl rfl undef (cT rfl (cT rfl ResL.nil)) rfl rfl rfl rfl
 rintro _ ⟨u4, rfl, rfl⟩
 show T X _ _ _
 refine T.seq ?_
 refine aS ?_
 refine aA rfl rfl ?_
 obtain ⟨x17, hx17, h0⟩ := bS h0
 refine TL.op1 (OpR.call0 fn30 (strings_CutPrefix_c hx17) rfl) rfl ?_
 iterate 5 refine aA rfl rfl ?_
 refine aN rfl ?_
 refine T.seq ?_
 obtain ⟨t18, ht18, h0⟩ := bS h0
 refine T.cutC (fun S' => S' = ⟨[(41, (dT t18)), (8, .val (.string (bs x17.1))), (4, (dN (sIndexByte a0 62))), (3, (dN 0)), (2, (dN 0)), (0, .val (.string (bs a0)))], [], 59⟩) (fun _ h => h) ?_ ?_
 · refine T.region ?_
   iterate 2 refine aA rfl rfl ?_
   rcases ite_some ht18 with ⟨c19, ht18⟩ | ⟨c19, ht18⟩
   rotate_left
   · refine TL.off rfl rfl rfl rfl (eq_false_of_ne_true c19) rfl rfl ?_
     refine TL.off rfl rfl rfl rfl (eq_false_of_ne_true c19) rfl rfl ?_
     refine TL.off rfl rfl rfl rfl (eq_false_of_ne_true c19) rfl rfl ?_
     refine TL.op1 (OpR.pickF rfl (eq_false_of_ne_true c19) rfl) rfl ?_
     refine TL.nil ?_
     obtain rfl := Option.some.inj ht18
     exact ⟨_, Gst.only [0, 2, 3, 4, 8, 41] rfl, rfl⟩
   refine TL.on rfl rfl rfl rfl (c19) ?_
   refine aA rfl rfl ?_
   refine TL.on rfl rfl rfl rfl (c19) ?_
   refine TL.op1 (OpR.cast (OpR.pure rfl) (intE (lenS _))) rfl ?_
   refine TL.on rfl rfl rfl rfl (c19) ?_
   refine aA rfl rfl ?_
   refine TL.op1 (OpR.pickT rfl (c19) rfl) rfl ?_
   refine TL.nil ?_
   obtain rfl := Option.some.inj ht18
   exact ⟨_, Gst.only [0, 2, 3, 4, 8, 41] rfl, rfl⟩
 rintro _ rfl
 show T X _ _ _
 obtain ⟨t20, ht20, h0⟩ := bS h0
 refine T.cutC (fun S' => ∃ u21, t20 = Ex.brk u21 ∧ S' = ⟨[(3, (dN 0)), (2, (dN 0))], [], 59⟩) (fun _ h => h) ?_ ?_
 rotate_left
 · rintro _ ⟨u21, rfl, rfl⟩
   show T X _ _ _
   refine aS ?_
   iterate 2 refine aA rfl rfl ?_
   refine aN rfl ?_
   refine T.ret ?_
   obtain rfl := Option.some.inj h0
   exact rO [] [2, 3] rfl undef (cT rfl (cT rfl ResL.nil)) rfl rfl rfl rfl
 rcases ite_some ht20 with ⟨c22, ht20⟩ | ⟨c22, ht20⟩
 rotate_left
 · refine T.condF rfl (eq_false_of_ne_true c22) ?_
   refine T.skip ?_
   obtain rfl := Option.some.inj ht20
   exact ⟨_, Gst.only [2, 3] rfl, _, rfl, rfl⟩
 refine T.condT rfl (c22) ?_
 refine aS ?_
 refine aA rfl rfl ?_
 obtain ⟨x23, hx23, ht20⟩ := bS ht20
 refine TL.op1 (OpR.indexS hx23 rfl rfl rfl rfl) rfl ?_
 obtain ⟨x24, hx24, ht20⟩ := bS ht20
 refine TL.op1 (OpR.call0 fn20 (keys_Ctrl_c hx24) rfl) rfl ?_
 refine aA rfl rfl ?_
 refine aN rfl ?_
 refine T.seq ?_
 obtain ⟨t25, ht25, ht20⟩ := bS ht20
 refine T.cutC (fun S' => S' = ⟨[(55, (dT t25)), (10, (dN x24)), (4, (dN (sIndexByte a0 62))), (3, (dN 0)), (2, (dN 0))], [], 59⟩) (fun _ h => h) ?_ ?_
 rotate_left
 · rintro _ rfl
   show T X _ _ _
   rcases ite_some ht20 with ⟨c30, ht20⟩ | ⟨c30, ht20⟩
   rotate_left
   · refine T.condF rfl (eq_false_of_ne_true c30) ?_
     refine T.skip ?_
     obtain rfl := Option.some.inj ht20
     exact ⟨_, Gst.only [2, 3] rfl, _, rfl, rfl⟩
   refine T.condT rfl (c30) ?_
   refine aS ?_
   iterate 5 refine aA rfl rfl ?_
   refine aN rfl ?_
   refine T.ret ?_
   obtain rfl := Option.some.inj ht20
   obtain rfl := Option.some.inj h0
   exact rO [] [2, 3] rfl undef (cT rfl (cT rfl ResL.nil)) rfl rfl rfl rfl
 rcases ite_some ht25 with ⟨c27, ht25⟩ | ⟨c27, ht25⟩
 · refine T.drawQ drawsX [dN x24, dT (!(x24 == 0)), dT (!(x24 == 0)), .tup [], .tup [], .tup [], .tup [], .tup [], .tup [], .tup [], dT false] [2, 3, 4, 10, 55] (by decide +kernel) rfl ?_ rfl ?_
   rotate_left
   · obtain rfl := Option.some.inj ht25
     exact ⟨_, Gst.only [2, 3, 4, 10, 55] rfl, rfl⟩
   iterate 3 refine aB rfl rfl rfl ?_
   refine OpsQ.no (Want.bool rfl rfl rfl rfl (by rw [(not_t (beq_iff_eq.2 c27))]; rfl)) rfl ?_
   refine OpsQ.no (Want.bool rfl rfl rfl rfl (by rw [(not_t (beq_iff_eq.2 c27))]; rfl)) rfl ?_
   refine OpsQ.no (Want.bool rfl rfl rfl rfl (by rw [(not_t (beq_iff_eq.2 c27))]; rfl)) rfl ?_
   refine OpsQ.no (Want.bool rfl rfl rfl rfl (by rw [(not_t (beq_iff_eq.2 c27))]; rfl)) rfl ?_
   refine OpsQ.no (Want.bool rfl rfl rfl rfl (by rw [(not_t (beq_iff_eq.2 c27))]; rfl)) rfl ?_
   refine OpsQ.no (Want.bool rfl rfl rfl rfl (by rw [(not_t (beq_iff_eq.2 c27))]; rfl)) rfl ?_
   refine OpsQ.no (Want.bool rfl rfl rfl rfl (by rw [(not_t (beq_iff_eq.2 c27))]; rfl)) rfl ?_
   refine OpsQ.yes (Want.plain rfl) rfl (OpR.pickF rfl (not_t (beq_iff_eq.2 c27)) rfl) ?_
   exact OpsQ.nil
 obtain ⟨x28, hx28, ht25⟩ := bS ht25
 obtain ⟨x29, hx29, ht25⟩ := bS ht25
 refine T.drawQ drawsX [dN x24, dT (!(x24 == 0)), dT (!(x24 == 0)), dN x24, .val (.string (bs x28)), .val (.string (bs a0)), dN (sIndexByte a0 62), dN (w64 ((sIndexByte a0 62) + 1)), .val (.string (bs x29)), dT (x28 == x29), dT (x28 == x29)] [2, 3, 4, 10, 55] (by decide +kernel) rfl ?_ rfl ?_
 rotate_left
 · obtain rfl := Option.some.inj ht25
   exact ⟨_, Gst.only [2, 3, 4, 10, 55] rfl, rfl⟩
 iterate 3 refine aB rfl rfl rfl ?_
 refine OpsQ.yes (Want.bool rfl rfl rfl rfl (by rw [(not_f (beq_eq_false_iff_ne.2 c27))]; rfl)) rfl (OpR.pure rfl) ?_
 refine OpsQ.yes (Want.bool rfl rfl rfl rfl (by rw [(not_f (beq_eq_false_iff_ne.2 c27))]; rfl)) rfl (OpR.call0 fn18 (keys_Text_c hx28) rfl) ?_
 refine OpsQ.yes (Want.bool rfl rfl rfl rfl (by rw [(not_f (beq_eq_false_iff_ne.2 c27))]; rfl)) rfl (OpR.pure rfl) ?_
 refine OpsQ.yes (Want.bool rfl rfl rfl rfl (by rw [(not_f (beq_eq_false_iff_ne.2 c27))]; rfl)) rfl (OpR.pure rfl) ?_
 refine OpsQ.yes (Want.bool rfl rfl rfl rfl (by rw [(not_f (beq_eq_false_iff_ne.2 c27))]; rfl)) rfl (OpR.pure rfl) ?_
 refine OpsQ.yes (Want.bool rfl rfl rfl rfl (by rw [(not_f (beq_eq_false_iff_ne.2 c27))]; rfl)) rfl (OpR.sliceS hx29 rfl rfl rfl BdM.none (BdM.some rfl)) ?_
 refine OpsQ.yes (Want.bool rfl rfl rfl rfl (by rw [(not_f (beq_eq_false_iff_ne.2 c27))]; rfl)) rfl (OpR.cast (OpR.pure rfl) (boolE (strEq _ _))) ?_
 refine OpsQ.yes (Want.plain rfl) rfl (OpR.pickT rfl (not_f (beq_eq_false_iff_ne.2 c27)) rfl) ?_
 exact OpsQ.nil
noncomputable def utf_within (a0 : List UInt8) (a1 : Int) : Option Bool :=
  bnd (if a1 ≥ 0 then
    some (decide (a1 < (a0.length : Int)))
  else
    some false : Option Bool) fun t1 =>
  some t1
theorem utf_within_c {a0 : List UInt8} {a1 : Int} {res : Bool} (h0 : utf_within a0 a1 = some res) : CallF X 31 [.sl 1 (lB a0), dN a1] [] (fun x => (dT res)) (fun x => []) := by
 unfold utf_within at h0
 refine CallF.mkG (X := X) rfl Tryd.func31 rfl rfl Tryd.ntmps31 rfl rfl ?_
 refine aS ?_
 refine aA rfl rfl ?_
 refine aN rfl ?_
 refine T.seq ?_
 obtain ⟨t1, ht1, h0⟩ := bS h0
 refine T.cutC (fun S' => S' = ⟨[(4, (dT t1))], [], 13⟩) (fun _ h => h) ?_ ?_
 rotate_left
 · rintro _ rfl
   show T X _ _ _
   refine T.ret ?_
   obtain rfl := Option.some.inj h0
   exact rO [] [4] rfl undef (cT rfl ResL.nil) rfl rfl rfl rfl
 refine T.region ?_
 iterate 3 refine aA rfl rfl ?_
 rcases ite_some ht1 with ⟨c2, ht1⟩ | ⟨c2, ht1⟩
 rotate_left
 · refine TL.off rfl rfl rfl rfl (decide_eq_false c2) rfl rfl ?_
   refine TL.off rfl rfl rfl rfl (decide_eq_false c2) rfl rfl ?_
   refine TL.off rfl rfl rfl rfl (decide_eq_false c2) rfl rfl ?_
   refine TL.off rfl rfl rfl rfl (decide_eq_false c2) rfl rfl ?_
   refine TL.op1 (OpR.pickF rfl (decide_eq_false c2) rfl) rfl ?_
   refine aA rfl rfl ?_
   refine TL.nil ?_
   obtain rfl := Option.some.inj ht1
   exact ⟨_, Gst.only [4] rfl, rfl⟩
 refine TL.on rfl rfl rfl rfl (decide_eq_true c2) ?_
 refine aA rfl rfl ?_
 refine TL.on rfl rfl rfl rfl (decide_eq_true c2) ?_
 refine aA rfl rfl ?_
 refine TL.on rfl rfl rfl rfl (decide_eq_true c2) ?_
 refine TL.op1 (OpR.cast (OpR.pure rfl) (intE (lenM _ _))) rfl ?_
 refine TL.on rfl rfl rfl rfl (decide_eq_true c2) ?_
 refine aA rfl rfl ?_
 refine TL.op1 (OpR.pickT rfl (decide_eq_true c2) rfl) rfl ?_
 refine aA rfl rfl ?_
 refine TL.nil ?_
 obtain rfl := Option.some.inj ht1
 exact ⟨_, Gst.only [4] rfl, rfl⟩
noncomputable def utf_lead (a0 : UInt8) : Option (Int × Int) :=
  if (a0.toNat : Int) < 128 then
    some (0, (a0.toNat : Int))
  else
    bnd (if (a0.toNat : Int) ≥ 194 then
      some (decide ((a0.toNat : Int) ≤ 223))
    else
      some false : Option Bool) fun t2 =>
    if t2 = true then
      some (1, ((ub (iand .u8 (a0.toNat : Int) 31)).toNat : Int))
    else
      bnd (if (a0.toNat : Int) ≥ 224 then
        some (decide ((a0.toNat : Int) ≤ 239))
      else
        some false : Option Bool) fun t5 =>
      if t5 = true then
        some (2, ((ub (iand .u8 (a0.toNat : Int) 15)).toNat : Int))
      else
        bnd (if (a0.toNat : Int) ≥ 240 then
          some (decide ((a0.toNat : Int) ≤ 244))
        else
          some false : Option Bool) fun t8 =>
        if t8 = true then
          some (3, ((ub (iand .u8 (a0.toNat : Int) 7)).toNat : Int))
        else
          some ((-1), 0)
theorem utf_lead_c {a0 : UInt8} {res : Int × Int} (h0 : utf_lead a0 = some res) : CallF X 39 [.val (.int .u8 (a0.toNat : Int))] [] (fun x => .tup [dN res.1, dN res.2]) (fun x => []) := by
 unfold utf_lead at h0
 refine CallF.mkG (X := X) rfl Tryd.func39 rfl rfl Tryd.ntmps39 rfl rfl ?_
 refine aS ?_
 iterate 2 refine aA rfl rfl ?_
 refine aN rfl ?_
 refine T.seq ?_
 refine T.block ?_
 refine aS ?_
 iterate 3 refine aA rfl rfl ?_
 refine aN rfl ?_
 rcases ite_some h0 with ⟨c1, h0⟩ | ⟨c1, h0⟩
 · refine T.condT rfl (decide_eq_true c1) ?_
   refine aS ?_
   refine aA rfl rfl ?_
   refine TL.op1 (OpR.cast (OpR.pure rfl) (intE (w64_u8 _))) rfl ?_
   iterate 2 refine aA rfl rfl ?_
   refine aN rfl ?_
   refine T.ret ?_
   obtain rfl := Option.some.inj h0
   exact rO [] [2, 3] rfl undef (cT rfl (cT rfl ResL.nil)) rfl rfl rfl rfl
 refine T.condF rfl (decide_eq_false c1) ?_
 refine T.seq ?_
 obtain ⟨t2, ht2, h0⟩ := bS h0
 refine T.cutC (fun S' => S' = ⟨[(9, (dT t2)), (3, (dN 0)), (2, (dN 0)), (0, .val (.int .u8 (a0.toNat : Int)))], [], 39⟩) (fun _ h => h) ?_ ?_
 · refine T.region ?_
   iterate 3 refine aA rfl rfl ?_
   rcases ite_some ht2 with ⟨c3, ht2⟩ | ⟨c3, ht2⟩
   rotate_left
   · refine TL.off rfl rfl rfl rfl (decide_eq_false c3) rfl rfl ?_
     refine TL.off rfl rfl rfl rfl (decide_eq_false c3) rfl rfl ?_
     refine TL.op1 (OpR.pickF rfl (decide_eq_false c3) rfl) rfl ?_
     refine aA rfl rfl ?_
     refine TL.nil ?_
     obtain rfl := Option.some.inj ht2
     exact ⟨_, Gst.only [0, 2, 3, 9] rfl, rfl⟩
   refine TL.on rfl rfl rfl rfl (decide_eq_true c3) ?_
   refine aA rfl rfl ?_
   refine TL.on rfl rfl rfl rfl (decide_eq_true c3) ?_
   refine aA rfl rfl ?_
   refine TL.op1 (OpR.pickT rfl (decide_eq_true c3) rfl) rfl ?_
   refine aA rfl rfl ?_
   refine TL.nil ?_
   obtain rfl := Option.some.inj ht2
   exact ⟨_, Gst.only [0, 2, 3, 9] rfl, rfl⟩
 rintro _ rfl
 show T X _ _ _
 rcases ite_some h0 with ⟨c4, h0⟩ | ⟨c4, h0⟩
 · refine T.condT rfl (c4) ?_
   refine aS ?_
   refine aA rfl rfl ?_
   refine TL.op1 (OpR.cast (OpR.pure rfl) (intE (ub_wrap _))) rfl ?_
   refine TL.op1 (OpR.cast (OpR.pure rfl) (intE (w64_u8 _))) rfl ?_
   iterate 2 refine aA rfl rfl ?_
   refine aN rfl ?_
   refine T.ret ?_
   obtain rfl := Option.some.inj h0
   exact rO [] [2, 3] rfl undef (cT rfl (cT rfl ResL.nil)) rfl rfl rfl rfl
 refine T.condF rfl (eq_false_of_ne_true c4) ?_
 refine T.seq ?_
 obtain ⟨t5, ht5, h0⟩ := bS h0
 refine T.cutC (fun S' => S' = ⟨[(19, (dT t5)), (3, (dN 0)), (2, (dN 0)), (0, .val (.int .u8 (a0.toNat : Int)))], [], 39⟩) (fun _ h => h) ?_ ?_
 · refine T.region ?_
   iterate 3 refine aA rfl rfl ?_
   rcases ite_some ht5 with ⟨c6, ht5⟩ | ⟨c6, ht5⟩
   rotate_left
   · refine TL.off rfl rfl rfl rfl (decide_eq_false c6) rfl rfl ?_
     refine TL.off rfl rfl rfl rfl (decide_eq_false c6) rfl rfl ?_
     refine TL.op1 (OpR.pickF rfl (decide_eq_false c6) rfl) rfl ?_
     refine aA rfl rfl ?_
     refine TL.nil ?_
     obtain rfl := Option.some.inj ht5
     exact ⟨_, Gst.only [0, 2, 3, 19] rfl, rfl⟩
   refine TL.on rfl rfl rfl rfl (decide_eq_true c6) ?_
   refine aA rfl rfl ?_
   refine TL.on rfl rfl rfl rfl (decide_eq_true c6) ?_
   refine aA rfl rfl ?_
   refine TL.op1 (OpR.pickT rfl (decide_eq_true c6) rfl) rfl ?_
   refine aA rfl rfl ?_
   refine TL.nil ?_
   obtain rfl := Option.some.inj ht5
   exact ⟨_, Gst.only [0, 2, 3, 19] rfl, rfl⟩
 rintro _ rfl
 show T X _ _ _
 rcases ite_some h0 with ⟨c7, h0⟩ | ⟨c7, h0⟩
 · refine T.condT rfl (c7) ?_
   refine aS ?_
   refine aA rfl rfl ?_
   refine TL.op1 (OpR.cast (OpR.pure rfl) (intE (ub_wrap _))) rfl ?_
   refine TL.op1 (OpR.cast (OpR.pure rfl) (intE (w64_u8 _))) rfl ?_
   iterate 2 refine aA rfl rfl ?_
   refine aN rfl ?_
   refine T.ret ?_
   obtain rfl := Option.some.inj h0
   exact rO [] [2, 3] rfl undef (cT rfl (cT rfl ResL.nil)) rfl rfl rfl rfl
 refine T.condF rfl (eq_false_of_ne_true c7) ?_
 refine T.seq ?_
 obtain ⟨t8, ht8, h0⟩ := bS h0
 refine T.cutC (fun S' => S' = ⟨[(29, (dT t8)), (3, (dN 0)), (2, (dN 0)), (0, .val (.int .u8 (a0.toNat : Int)))], [], 39⟩) (fun _ h => h) ?_ ?_
 · refine T.region ?_
   iterate 3 refine aA rfl rfl ?_
   rcases ite_some ht8 with ⟨c9, ht8⟩ | ⟨c9, ht8⟩
   rotate_left
   · refine TL.off rfl rfl rfl rfl (decide_eq_false c9) rfl rfl ?_
     refine TL.off rfl rfl rfl rfl (decide_eq_false c9) rfl rfl ?_
     refine TL.op1 (OpR.pickF rfl (decide_eq_false c9) rfl) rfl ?_
     refine aA rfl rfl ?_
     refine TL.nil ?_
     obtain rfl := Option.some.inj ht8
     exact ⟨_, Gst.only [0, 2, 3, 29] rfl, rfl⟩
   refine TL.on rfl rfl rfl rfl (decide_eq_true c9) ?_
   refine aA rfl rfl ?_
   refine TL.on rfl rfl rfl rfl (decide_eq_true c9) ?_
   refine aA rfl rfl ?_
   refine TL.op1 (OpR.pickT rfl (decide_eq_true c9) rfl) rfl ?_
   refine aA rfl rfl ?_
   refine TL.nil ?_
   obtain rfl := Option.some.inj ht8
   exact ⟨_, Gst.only [0, 2, 3, 29] rfl, rfl⟩
 rintro _ rfl
 show T X _ _ _
 rcases ite_some h0 with ⟨c10, h0⟩ | ⟨c10, h0⟩
 rotate_left
 · refine T.condF rfl (eq_false_of_ne_true c10) ?_
   refine aK rfl ?_
   refine aS ?_
   iterate 2 refine aA rfl rfl ?_
   refine aN rfl ?_
   refine T.ret ?_
   obtain rfl := Option.some.inj h0
   exact rO [] [2, 3] rfl undef (cT rfl (cT rfl ResL.nil)) rfl rfl rfl rfl
 refine T.condT rfl (c10) ?_
 refine aS ?_
 refine aA rfl rfl ?_
 refine TL.op1 (OpR.cast (OpR.pure rfl) (intE (ub_wrap _))) rfl ?_
 refine TL.op1 (OpR.cast (OpR.pure rfl) (intE (w64_u8 _))) rfl ?_
 iterate 2 refine aA rfl rfl ?_
 refine aN rfl ?_
 refine T.ret ?_
 obtain rfl := Option.some.inj h0
 exact rO [] [2, 3] rfl undef (cT rfl (cT rfl ResL.nil)) rfl rfl rfl rfl
noncomputable def utf_least (a0 : Int) : Option Int :=
  if a0 = 1 then
    some 128
  else
    if a0 = 2 then
      some 2048
    else
      if a0 = 3 then
        some 65536
      else
        some 0
theorem utf_least_c {a0 : Int} {res : Int} (h0 : utf_least a0 = some res) : CallF X 40 [dN a0] [] (fun x => (dN res)) (fun x => []) := by
 unfold utf_least at h0
 refine CallF.mkG (X := X) rfl Tryd.func40 rfl rfl Tryd.ntmps40 rfl rfl ?_
 refine aS ?_
 refine aA rfl rfl ?_
 refine aN rfl ?_
 refine T.seq ?_
 refine aS ?_
 refine aA rfl rfl ?_
 refine aN rfl ?_
 refine T.block ?_
 refine aS ?_
 iterate 2 refine aA rfl rfl ?_
 refine aN rfl ?_
 rcases ite_some h0 with ⟨c1, h0⟩ | ⟨c1, h0⟩
 · refine T.condT rfl (beq_iff_eq.2 c1) ?_
   refine aS ?_
   refine aA rfl rfl ?_
   refine aN rfl ?_
   refine T.ret ?_
   obtain rfl := Option.some.inj h0
   exact rO [] [2] rfl undef (cT rfl ResL.nil) rfl rfl rfl rfl
 refine T.condF rfl (beq_eq_false_iff_ne.2 c1) ?_
 refine aS ?_
 iterate 2 refine aA rfl rfl ?_
 refine aN rfl ?_
 rcases ite_some h0 with ⟨c2, h0⟩ | ⟨c2, h0⟩
 · refine T.condT rfl (beq_iff_eq.2 c2) ?_
   refine aS ?_
   refine aA rfl rfl ?_
   refine aN rfl ?_
   refine T.ret ?_
   obtain rfl := Option.some.inj h0
   exact rO [] [2] rfl undef (cT rfl ResL.nil) rfl rfl rfl rfl
 refine T.condF rfl (beq_eq_false_iff_ne.2 c2) ?_
 refine aS ?_
 iterate 2 refine aA rfl rfl ?_
 refine aN rfl ?_
 rcases ite_some h0 with ⟨c3, h0⟩ | ⟨c3, h0⟩
 · refine T.condT rfl (beq_iff_eq.2 c3) ?_
   refine aS ?_
   refine aA rfl rfl ?_
   refine aN rfl ?_
   refine T.ret ?_
   obtain rfl := Option.some.inj h0
   exact rO [] [2] rfl undef (cT rfl ResL.nil) rfl rfl rfl rfl
 refine T.condF rfl (beq_eq_false_iff_ne.2 c3) ?_
 refine aK rfl ?_
 refine aS ?_
 refine aA rfl rfl ?_
 refine aN rfl ?_
 refine T.ret ?_
 obtain rfl := Option.some.inj h0
 exact rO [] [2] rfl undef (cT rfl ResL.nil) rfl rfl rfl rfl
noncomputable def utf_decode.l1 (x6 : List UInt8) (s9 : Int × Int) : Option (Lp (Int × Int) (Ex Int (Int × Int))) :=
  if s9.2 < (x6.length : Int) then
    bnd (idx x6 s9.2) fun x18 =>
    if ((ub (iand .u8 (x18.toNat : Int) 192)).toNat : Int) = 128 then
      bnd (some (w64 (ior .i64 (w64 (ishl .i64 s9.1 6)) ((ub (iand .u8 (x18.toNat : Int) 63)).toNat : Int)))) fun x20 =>
      some (Lp.next (x20, w64 (s9.2 + 1)))
    else
      some (Lp.done (Ex.ret ((-1), 1)))
  else
    some (Lp.done (Ex.brk s9.1))
noncomputable def utf_decode (a0 : List UInt8) : Option (Int × Int) :=
  bnd (idx a0 0) fun x1 =>
  bnd (utf_lead x1) fun x2 =>
  bnd (if x2.1 < 0 then
    some true
  else
    some (decide (x2.1 ≥ (a0.length : Int))) : Option Bool) fun t3 =>
  if t3 = true then
    some ((-1), 1)
  else
    bnd (cut a0 1 (w64 (x2.1 + 1))) fun x6 =>
    bnd (loop (utf_decode.l1 x6) (x2.2, 0) : Option (Ex Int (Int × Int))) fun t7 => match t7 with
      | .brk u8 =>
        bnd (bnd (utf_scalar u8) fun x22 =>
        if x22 = true then
          bnd (utf_least x2.1) fun x24 =>
          some (decide (u8 < x24))
        else
          some true : Option Bool) fun t21 =>
        if t21 = true then
          some ((-1), 1)
        else
          some (u8, w64 (x2.1 + 1))
      | .ret u8 => some u8
theorem utf_decode_c {a0 : List UInt8} {res : Int × Int} (h0 : utf_decode a0 = some res) : CallF X 32 [.sl 1 (lB a0)] [] (fun x => .tup [dN res.1, dN res.2]) (fun x => []) := by
 unfold utf_decode at h0
 refine CallF.mkG (X := X) rfl Tryd.func32 rfl rfl Tryd.ntmps32 rfl rfl ?_
 refine aS ?_
 iterate 2 refine aA rfl rfl ?_
 refine aN rfl ?_
 refine aS ?_
 refine aA rfl rfl ?_
 obtain ⟨x1, hx1, h0⟩ := bS h0
 refine TL.op1 (OpR.indexM byteD hx1 rfl rfl rfl rfl rfl) rfl ?_
 refine aA rfl rfl ?_
 obtain ⟨x2, hx2, h0⟩ := bS h0
 refine TL.op1 (OpR.call0 fn39 (utf_lead_c hx2) rfl) rfl ?_
 iterate 5 refine aA rfl rfl ?_
 refine aN rfl ?_
 refine T.seq ?_
 refine T.seq ?_
 obtain ⟨t3, ht3, h0⟩ := bS h0
 refine T.cutC (fun S' => S' = ⟨[(22, (dT t3)), (5, (dN x2.2)), (4, (dN x2.1)), (3, (dN 0)), (2, (dN 0)), (0, .sl 1 (lB a0))], [], 54⟩) (fun _ h => h) ?_ ?_
 · refine T.region ?_
   iterate 3 refine aA rfl rfl ?_
   rcases ite_some ht3 with ⟨c4, ht3⟩ | ⟨c4, ht3⟩
   · refine TL.off rfl rfl rfl rfl (decide_eq_true c4) rfl rfl ?_
     refine TL.off rfl rfl rfl rfl (decide_eq_true c4) rfl rfl ?_
     refine TL.off rfl rfl rfl rfl (decide_eq_true c4) rfl rfl ?_
     refine TL.off rfl rfl rfl rfl (decide_eq_true c4) rfl rfl ?_
     refine TL.op1 (OpR.pickT rfl (decide_eq_true c4) rfl) rfl ?_
     refine TL.nil ?_
     obtain rfl := Option.some.inj ht3
     exact ⟨_, Gst.only [0, 2, 3, 4, 5, 22] rfl, rfl⟩
   refine TL.on rfl rfl rfl rfl (decide_eq_false c4) ?_
   refine aA rfl rfl ?_
   refine TL.on rfl rfl rfl rfl (decide_eq_false c4) ?_
   refine aA rfl rfl ?_
   refine TL.on rfl rfl rfl rfl (decide_eq_false c4) ?_
   refine TL.op1 (OpR.cast (OpR.pure rfl) (intE (lenM _ _))) rfl ?_
   refine TL.on rfl rfl rfl rfl (decide_eq_false c4) ?_
   refine aA rfl rfl ?_
   refine TL.op1 (OpR.pickF rfl (decide_eq_false c4) rfl) rfl ?_
   refine TL.nil ?_
   obtain rfl := Option.some.inj ht3
   exact ⟨_, Gst.only [0, 2, 3, 4, 5, 22] rfl, rfl⟩
 rintro _ rfl
 show T X _ _ _
 rcases ite_some h0 with ⟨c5, h0⟩ | ⟨c5, h0⟩
 · refine T.condT rfl (c5) ?_
   refine aS ?_
   iterate 2 refine aA rfl rfl ?_
   refine aN rfl ?_
   refine T.ret ?_
   obtain rfl := Option.some.inj h0
   exact rO [] [2, 3] rfl undef (cT rfl (cT rfl ResL.nil)) rfl rfl rfl rfl
 refine T.condF rfl (eq_false_of_ne_true c5) ?_
 refine aK rfl ?_
 refine T.seq ?_
 refine aS ?_
 iterate 3 refine aA rfl rfl ?_
 obtain ⟨x6, hx6, h0⟩ := bS h0
 refine TL.op1 (OpR.sliceM (sz := 1) byteD hx6 rfl rfl rfl rfl (BdM.some rfl) (BdM.some rfl) rfl) rfl ?_
 refine TL.op1 (OpR.cast (OpR.pure rfl) (intE (lenM _ _))) rfl ?_
 refine aA rfl rfl ?_
 refine aN rfl ?_
 obtain ⟨t7, ht7, h0⟩ := bS h0
 refine T.cutC (fun S' => ∃ u8, t7 = Ex.brk u8 ∧ S' = ⟨[(5, (dN u8)), (4, (dN x2.1)), (3, (dN 0)), (2, (dN 0))], [], 54⟩) (fun _ h => h) ?_ ?_
 rotate_left
 · rintro _ ⟨u8, rfl, rfl⟩
   show T X _ _ _
   refine T.seq ?_
   refine T.seq ?_
   obtain ⟨t21, ht21, h0⟩ := bS h0
   refine T.cutC (fun S' => S' = ⟨[(50, (dT t21)), (5, (dN u8)), (4, (dN x2.1)), (3, (dN 0)), (2, (dN 0))], [], 54⟩) (fun _ h => h) ?_ ?_
   rotate_left
   · rintro _ rfl
     show T X _ _ _
     rcases ite_some h0 with ⟨c25, h0⟩ | ⟨c25, h0⟩
     · refine T.condT rfl (c25) ?_
       refine aS ?_
       iterate 2 refine aA rfl rfl ?_
       refine aN rfl ?_
       refine T.ret ?_
       obtain rfl := Option.some.inj h0
       exact rO [] [2, 3] rfl undef (cT rfl (cT rfl ResL.nil)) rfl rfl rfl rfl
     refine T.condF rfl (eq_false_of_ne_true c25) ?_
     refine aK rfl ?_
     refine aS ?_
     iterate 5 refine aA rfl rfl ?_
     refine aN rfl ?_
     refine T.ret ?_
     obtain rfl := Option.some.inj h0
     exact rO [] [2, 3] rfl undef (cT rfl (cT rfl ResL.nil)) rfl rfl rfl rfl
   refine T.region ?_
   refine aA rfl rfl ?_
   obtain ⟨x22, hx22, ht21⟩ := bS ht21
   refine TL.op1 (OpR.call0 fn35 (utf_scalar_c hx22) rfl) rfl ?_
   iterate 2 refine aA rfl rfl ?_
   rcases ite_some ht21 with ⟨c23, ht21⟩ | ⟨c23, ht21⟩
   rotate_left
   · refine TL.off rfl rfl rfl rfl (not_f (eq_false_of_ne_true c23)) rfl rfl ?_
     refine TL.off rfl rfl rfl rfl (not_f (eq_false_of_ne_true c23)) rfl rfl ?_
     refine TL.off rfl rfl rfl rfl (not_f (eq_false_of_ne_true c23)) rfl rfl ?_
     refine TL.off rfl rfl rfl rfl (not_f (eq_false_of_ne_true c23)) rfl rfl ?_
     refine TL.op1 (OpR.pickT rfl (not_f (eq_false_of_ne_true c23)) rfl) rfl ?_
     refine TL.nil ?_
     obtain rfl := Option.some.inj ht21
     exact ⟨_, Gst.only [2, 3, 4, 5, 50] rfl, rfl⟩
   refine TL.on rfl rfl rfl rfl (not_t (c23)) ?_
   refine aA rfl rfl ?_
   refine TL.on rfl rfl rfl rfl (not_t (c23)) ?_
   refine aA rfl rfl ?_
   refine TL.on rfl rfl rfl rfl (not_t (c23)) ?_
   obtain ⟨x24, hx24, ht21⟩ := bS ht21
   refine TL.op1 (OpR.call0 fn40 (utf_least_c hx24) rfl) rfl ?_
   refine TL.on rfl rfl rfl rfl (not_t (c23)) ?_
   refine aA rfl rfl ?_
   refine TL.op1 (OpR.pickF rfl (not_t (c23)) rfl) rfl ?_
   refine TL.nil ?_
   obtain rfl := Option.some.inj ht21
   exact ⟨_, Gst.only [2, 3, 4, 5, 50] rfl, rfl⟩
 refine T.block ?_
 obtain ⟨n10, n15⟩ := loop_some ht7
 refine T.loop (fun n S' => ∃ S'', Gst S' S'' ∧ ∃ s9 : Int × Int, S'' = ⟨[(28, (dN s9.2)), (27, (dN (x6.length : Int))), (26, .sl 1 (lB x6)), (5, (dN s9.1)), (4, (dN x2.1)), (3, (dN 0)), (2, (dN 0))], [], 54⟩ ∧ iter (utf_decode.l1 x6) n s9 = some t7) n10 ?_ ?_
 · exact ⟨_, Gst.only [2, 3, 4, 5, 26, 27, 28] rfl, (x2.2, 0), rfl, n15⟩
 rintro n10 _ ⟨_, g, s9, rfl, i14⟩
 refine T.ghost g ?_
 obtain ⟨m11, q12, rfl, q13, i14⟩ := iter_succ i14
 unfold utf_decode.l1 at q13
 refine aS ?_
 refine aA rfl rfl ?_
 refine aN rfl ?_
 refine T.seq ?_
 rcases ite_some q13 with ⟨c17, q13⟩ | ⟨c17, q13⟩
 rotate_left
 · refine T.condF rfl (decide_eq_false c17) ?_
   refine T.exit ?_
   obtain rfl := Option.some.inj q13
   obtain rfl : _ = _ := i14
   exact ⟨_, Gst.only [2, 3, 4, 5] rfl, _, rfl, rfl⟩
 refine T.condT rfl (decide_eq_true c17) ?_
 refine aK rfl ?_
 refine T.seq ?_
 refine T.block ?_
 refine aS ?_
 obtain ⟨x18, hx18, q13⟩ := bS q13
 refine TL.op1 (OpR.indexM byteD hx18 rfl rfl rfl rfl rfl) rfl ?_
 iterate 2 refine aA rfl rfl ?_
 refine aN rfl ?_
 refine T.seq ?_
 refine aS ?_
 refine aA rfl rfl ?_
 refine TL.op1 (OpR.cast (OpR.pure rfl) (intE (ub_wrap _))) rfl ?_
 refine aA rfl rfl ?_
 refine aN rfl ?_
 rcases ite_some q13 with ⟨c19, q13⟩ | ⟨c19, q13⟩
 rotate_left
 · refine T.condT rfl (not_f (beq_eq_false_iff_ne.2 c19)) ?_
   refine aS ?_
   iterate 2 refine aA rfl rfl ?_
   refine aN rfl ?_
   refine T.ret ?_
   obtain rfl := Option.some.inj q13
   obtain rfl : _ = _ := i14
   obtain rfl := Option.some.inj h0
   exact rO [] [2, 3] rfl undef (cT rfl (cT rfl ResL.nil)) rfl rfl rfl rfl
 refine T.condF rfl (not_t (beq_iff_eq.2 c19)) ?_
 refine aK rfl ?_
 refine T.region ?_
 iterate 3 refine aA rfl rfl ?_
 refine TL.op1 (OpR.cast (OpR.pure rfl) (intE (ub_wrap _))) rfl ?_
 refine TL.op1 (OpR.cast (OpR.pure rfl) (intE (w64_u8 _))) rfl ?_
 obtain ⟨x20, hx20, q13⟩ := bS q13
 refine TL.op1 (OpR.cast (OpR.pure rfl) (intE (Option.some.inj hx20))) rfl ?_
 refine aA rfl rfl ?_
 refine aN rfl ?_
 refine T.region ?_
 iterate 2 refine aA rfl rfl ?_
 refine TL.nil ?_
 obtain rfl := Option.some.inj q13
 exact ⟨m11, Nat.lt_succ_self _, _, Gst.only [2, 3, 4, 5, 26, 27, 28] rfl, (x20, w64 (s9.2 + 1)), rfl, i14⟩
noncomputable def utf_Rune (a0 : List UInt8) (a1 : Int) : Option Int :=
  bnd (utf_within a0 a1) fun x1 =>
  if x1 = true then
    bnd (cut a0 a1 (a0.length : Int)) fun x3 =>
    bnd (utf_decode x3) fun x4 =>
    some x4.1
  else
    some (-1)
theorem utf_Rune_c {a0 : List UInt8} {a1 : Int} {res : Int} (h0 : utf_Rune a0 a1 = some res) : CallF X 23 [.sl 1 (lB a0), dN a1] [] (fun x => (dN res)) (fun x => []) := by
 unfold utf_Rune at h0
 refine CallF.mkG (X := X) rfl Tryd.func23 rfl rfl Tryd.ntmps23 rfl rfl ?_
 refine aS ?_
 refine aA rfl rfl ?_
 refine aN rfl ?_
 refine T.seq ?_
 refine aS ?_
 iterate 2 refine aA rfl rfl ?_
 obtain ⟨x1, hx1, h0⟩ := bS h0
 refine TL.op1 (OpR.call0 fn31 (utf_within_c hx1) rfl) rfl ?_
 refine aA rfl rfl ?_
 refine aN rfl ?_
 rcases ite_some h0 with ⟨c2, h0⟩ | ⟨c2, h0⟩
 rotate_left
 · refine T.condT rfl (not_f (eq_false_of_ne_true c2)) ?_
   refine aS ?_
   refine aA rfl rfl ?_
   refine aN rfl ?_
   refine T.ret ?_
   obtain rfl := Option.some.inj h0
   exact rO [] [4] rfl undef (cT rfl ResL.nil) rfl rfl rfl rfl
 refine T.condF rfl (not_t (c2)) ?_
 refine aK rfl ?_
 refine aS ?_
 iterate 2 refine aA rfl rfl ?_
 obtain ⟨x3, hx3, h0⟩ := bS h0
 refine TL.op1 (OpR.sliceM (sz := 1) byteD hx3 rfl rfl rfl rfl (BdM.some rfl) BdM.none rfl) rfl ?_
 obtain ⟨x4, hx4, h0⟩ := bS h0
 refine TL.op1 (OpR.call0 fn32 (utf_decode_c hx4) rfl) rfl ?_
 iterate 5 refine aA rfl rfl ?_
 refine aN rfl ?_
 refine aS ?_
 iterate 2 refine aA rfl rfl ?_
 refine aN rfl ?_
 refine T.ret ?_
 obtain rfl := Option.some.inj h0
 exact rO [] [4] rfl undef (cT rfl ResL.nil) rfl rfl rfl rfl
noncomputable def keys_Parse.l1 (a0 : List UInt8) (s6 : Int × (List Int) × Int) : Option (Lp (Int × (List Int) × Int) (Ex (List Int) ((List Int) × Int))) :=
  if s6.2.2.toNat < a0.length then
    if (s6.2.2.toNat : Int) < s6.1 then
      some (Lp.next (s6.1, s6.2.1, (sNext a0 s6.2.2)))
    else
      bnd (if (sRune a0 s6.2.2) = 60 then
        bnd (cut a0 (s6.2.2.toNat : Int) (a0.length : Int)) fun x18 =>
        bnd (keys_named x18) fun x19 =>
        some (x19.1, x19.2)
      else
        bnd (bnd (utf_Rune a0 (s6.2.2.toNat : Int)) fun x21 =>
        if x21 = (w64 (sRune a0 s6.2.2)) then
          bnd (keys_Types (w64 (sRune a0 s6.2.2))) fun x23 =>
          some (!x23)
        else
          some true : Option Bool) fun t20 =>
        if t20 = true then
          some (0, 0)
        else
          some (w64 (sRune a0 s6.2.2), 0) : Option (Int × Int)) fun t16 =>
      if t16.1 = 0 then
        some (Lp.done (Ex.ret ([], 3)))
      else
        bnd (app 8 s6.2.1 [t16.1]) fun x26 =>
        some (Lp.next (w64 ((s6.2.2.toNat : Int) + t16.2), x26, (sNext a0 s6.2.2)))
  else
    some (Lp.done (Ex.brk s6.2.1))
noncomputable def keys_Parse (a0 : List UInt8) : Option ((List Int) × Int) :=
  bnd (loop (keys_Parse.l1 a0) (0, [], 0) : Option (Ex (List Int) ((List Int) × Int))) fun t2 => match t2 with
    | .brk u3 =>
      some (u3, 0)
    | .ret u3 => some u3
theorem keys_Parse_c {a0 : List UInt8} {res : (List Int) × Int} (h0 : keys_Parse a0 = some res) : CallF X 8 [.val (.string (bs a0))] [] (fun x => .tup [.sl 1 (List.map (eI .i64) res.1), dN res.2]) (fun x => []) := by
 unfold keys_Parse at h0
 refine CallF.mkG (X := X) rfl Tryd.func8 rfl rfl Tryd.ntmps8 rfl rfl ?_
 refine aS ?_
 iterate 2 refine aA rfl rfl ?_
 refine aN rfl ?_
 refine aS ?_
 refine aA rfl rfl ?_
 refine aN rfl ?_
 refine aS ?_
 refine aA rfl rfl ?_
 refine TL.op1 (OpR.toBytesM rfl rfl rfl rfl rfl rfl rfl) rfl ?_
 iterate 2 refine aA rfl rfl ?_
 refine aN rfl ?_
 refine T.seq ?_
 refine aS ?_
 refine aA rfl rfl ?_
 refine TL.op (OpR.rangeStr (s := a0) rfl rfl rfl (fun _ => rfl)) rfl (fun p1 => ?_)
 refine aN rfl ?_
 obtain ⟨t2, ht2, h0⟩ := bS h0
 refine T.cutC (fun S' => ∃ u3, t2 = Ex.brk u3 ∧ ∃ y4 : Value, S' = ⟨[(4, .val y4), (3, (dN 0)), (2, .val (.slice none 0 0))], [.row y4 (List.map (eI .i64) u3) 1 3], 53⟩) (fun _ h => h) ?_ ?_
 rotate_left
 · rintro _ ⟨u3, rfl, y4, rfl⟩
   show T X _ _ _
   refine aS ?_
   iterate 3 refine aA rfl rfl ?_
   refine aN rfl ?_
   refine T.ret ?_
   obtain rfl := Option.some.inj h0
   exact PostG.retP (ks := []) (Gst.trans (Gst.only [2, 3] rfl) (Gst.trans (Gst.freezeRow 0 rfl rfl (ReS.cons Re.refl (ReS.cons (Re.base .all) ReS.nil)) (ReO.same ReO.nil)) (Gst.pick [] rfl rfl))) undef (cT rfl (cT rfl ResL.nil)) rfl rfl rfl rfl
 refine T.block ?_
 obtain ⟨n7, n12⟩ := loop_some ht2
 refine T.loop (fun n S' => ∃ S'', Gst S' S'' ∧ ∃ y5 : Value, ∃ s6 : Int × (List Int) × Int, S'' = ⟨[(14, (dP (blk p1))), (6, (dN s6.1)), (5, .sl 1 (lB a0)), (4, .val y5), (3, (dN 0)), (2, .val (.slice none 0 0)), (0, .val (.string (bs a0)))], [.row y5 (List.map (eI .i64) s6.2.1) 1 3, .sit (blk p1) a0 s6.2.2], 53⟩ ∧ iter (keys_Parse.l1 a0) n s6 = some t2) n7 ?_ ?_
 · exact ⟨_, Gst.trans (Gst.only [0, 2, 3, 4, 5, 6, 14] rfl) (Gst.trans (Gst.nilRow (ow := [.sit (blk p1) a0 0]) 1 3 rfl) (Gst.pick [1, 0] rfl rfl)), (.slice none 0 0), (0, [], 0), rfl, n12⟩
 rintro n7 _ ⟨_, g, y5, s6, rfl, i11⟩
 refine T.ghost g ?_
 obtain ⟨m8, q9, rfl, q10, i11⟩ := iter_succ i11
 unfold keys_Parse.l1 at q10
 refine aS ?_
 rcases ite_some q10 with ⟨c14, q10⟩ | ⟨c14, q10⟩
 rotate_left
 · refine TL.op1 (OpR.nextF (s := a0) (i := s6.2.2) 1 rfl rfl c14) rfl ?_
   refine aA rfl rfl ?_
   refine aN rfl ?_
   refine T.seq ?_
   refine T.condF rfl rfl ?_
   refine T.exit ?_
   obtain rfl := Option.some.inj q10
   obtain rfl : _ = _ := i11
   exact ⟨_, gP [2, 3, 4] [0] rfl rfl rfl, _, rfl, y5, rfl⟩
 refine TL.op1 (OpR.nextT (s := a0) (i := s6.2.2) 1 rfl rfl c14 rfl) rfl ?_
 refine aA rfl rfl ?_
 refine aN rfl ?_
 refine T.seq ?_
 refine T.condT rfl rfl ?_
 refine aK rfl ?_
 refine T.block ?_
 refine aS ?_
 iterate 4 refine aA rfl rfl ?_
 refine aN rfl ?_
 refine T.seq ?_
 refine aS ?_
 iterate 3 refine aA rfl rfl ?_
 refine aN rfl ?_
 rcases ite_some q10 with ⟨c15, q10⟩ | ⟨c15, q10⟩
 · refine T.condT rfl (decide_eq_true c15) ?_
   refine T.exit ?_
   obtain rfl := Option.some.inj q10
   exact ⟨m8, Nat.lt_succ_self _, _, Gst.only [0, 2, 3, 4, 5, 6, 14] rfl, y5, (s6.1, s6.2.1, (sNext a0 s6.2.2)), rfl, i11⟩
 refine T.condF rfl (decide_eq_false c15) ?_
 refine aK rfl ?_
 refine aS ?_
 iterate 4 refine aA rfl rfl ?_
 refine aN rfl ?_
 refine T.seq ?_
 refine aS ?_
 iterate 2 refine aA rfl rfl ?_
 refine aN rfl ?_
 obtain ⟨t16, ht16, q10⟩ := bS q10
 refine T.cutC (fun S' => S' = ⟨[(14, (dP (blk p1))), (10, (dN t16.2)), (9, (dN t16.1)), (7, (dN (s6.2.2.toNat : Int))), (6, (dN s6.1)), (5, .sl 1 (lB a0)), (4, .val y5), (3, (dN 0)), (2, .val (.slice none 0 0)), (0, .val (.string (bs a0)))], [.row y5 (List.map (eI .i64) s6.2.1) 1 3, .sit (blk p1) a0 (sNext a0 s6.2.2)], 53⟩) (fun _ h => h) ?_ ?_
 rotate_left
 · rintro _ rfl
   show T X _ _ _
   refine T.seq ?_
   refine aS ?_
   iterate 2 refine aA rfl rfl ?_
   refine aN rfl ?_
   rcases ite_some q10 with ⟨c25, q10⟩ | ⟨c25, q10⟩
   · refine T.condT rfl (beq_iff_eq.2 c25) ?_
     refine aS ?_
     iterate 2 refine aA rfl rfl ?_
     refine aN rfl ?_
     refine T.ret ?_
     obtain rfl := Option.some.inj q10
     obtain rfl : _ = _ := i11
     obtain rfl := Option.some.inj h0
     exact PostG.retP (ks := []) (Gst.trans (Gst.only [2, 3] rfl) (Gst.trans (Gst.denil (ReS.cons Re.refl (ReS.cons (Re.base .nil) ReS.nil)) (ReO.same (ReO.same ReO.nil))) (Gst.pick [] rfl rfl))) undef (cT rfl (cT rfl ResL.nil)) rfl rfl rfl rfl
   refine T.condF rfl (beq_eq_false_iff_ne.2 c25) ?_
   refine aK rfl ?_
   refine aS ?_
   iterate 2 refine aA rfl rfl ?_
   refine TL.op1 (OpR.lit rfl rfl rfl rfl rfl rfl rfl) rfl ?_
   obtain ⟨x26, hx26, q10⟩ := bS q10
   refine TL.op (OpR.appendM (m := [t16.1]) (eI .i64) 0 hx26 rfl rfl rfl rfl rfl rfl rfl rfl rfl (fun _ => rfl)) rfl (fun v27 => ?_)
   refine aA rfl rfl ?_
   refine aN rfl ?_
   refine T.region ?_
   iterate 4 refine aA rfl rfl ?_
   refine TL.nil ?_
   obtain rfl := Option.some.inj q10
   exact ⟨m8, Nat.lt_succ_self _, _, Gst.only [0, 2, 3, 4, 5, 6, 14] rfl, v27, (w64 ((s6.2.2.toNat : Int) + t16.2), x26, (sNext a0 s6.2.2)), rfl, i11⟩
 rcases ite_some ht16 with ⟨c17, ht16⟩ | ⟨c17, ht16⟩
 · refine T.condT rfl (beq_iff_eq.2 c17) ?_
   refine T.region ?_
   iterate 2 refine aA rfl rfl ?_
   obtain ⟨x18, hx18, ht16⟩ := bS ht16
   refine TL.op1 (OpR.sliceS hx18 rfl rfl rfl (BdM.some rfl) BdM.none) rfl ?_
   obtain ⟨x19, hx19, ht16⟩ := bS ht16
   refine TL.op1 (OpR.call0 fn22 (keys_named_c hx19) rfl) rfl ?_
   iterate 5 refine aA rfl rfl ?_
   refine TL.nil ?_
   obtain rfl := Option.some.inj ht16
   exact ⟨_, Gst.only [0, 2, 3, 4, 5, 6, 7, 9, 10, 14] rfl, rfl⟩
 refine T.condF rfl (beq_eq_false_iff_ne.2 c17) ?_
 refine T.seq ?_
 obtain ⟨t20, ht20, ht16⟩ := bS ht16
 refine T.cutC (fun S' => S' = ⟨[(42, (dT t20)), (14, (dP (blk p1))), (10, (dN 0)), (9, (dN (w64 (sRune a0 s6.2.2)))), (7, (dN (s6.2.2.toNat : Int))), (6, (dN s6.1)), (5, .sl 1 (lB a0)), (4, .val y5), (3, (dN 0)), (2, .val (.slice none 0 0)), (0, .val (.string (bs a0)))], [.row y5 (List.map (eI .i64) s6.2.1) 1 3, .sit (blk p1) a0 (sNext a0 s6.2.2)], 53⟩) (fun _ h => h) ?_ ?_
 rotate_left
 · rintro _ rfl
   show T X _ _ _
   rcases ite_some ht16 with ⟨c24, ht16⟩ | ⟨c24, ht16⟩
   rotate_left
   · refine T.condF rfl (eq_false_of_ne_true c24) ?_
     refine T.skip ?_
     obtain rfl := Option.some.inj ht16
     exact ⟨_, Gst.only [0, 2, 3, 4, 5, 6, 7, 9, 10, 14] rfl, rfl⟩
   refine T.condT rfl (c24) ?_
   refine T.region ?_
   refine aA rfl rfl ?_
   refine TL.nil ?_
   obtain rfl := Option.some.inj ht16
   exact ⟨_, Gst.only [0, 2, 3, 4, 5, 6, 7, 9, 10, 14] rfl, rfl⟩
 refine T.region ?_
 iterate 2 refine aA rfl rfl ?_
 obtain ⟨x21, hx21, ht20⟩ := bS ht20
 refine TL.op1 (OpR.call0 fn23 (utf_Rune_c hx21) rfl) rfl ?_
 iterate 3 refine aA rfl rfl ?_
 rcases ite_some ht20 with ⟨c22, ht20⟩ | ⟨c22, ht20⟩
 rotate_left
 · refine TL.off rfl rfl rfl rfl (not_f (beq_eq_false_iff_ne.2 c22)) rfl rfl ?_
   refine TL.off rfl rfl rfl rfl (not_f (beq_eq_false_iff_ne.2 c22)) rfl rfl ?_
   refine TL.off rfl rfl rfl rfl (not_f (beq_eq_false_iff_ne.2 c22)) rfl rfl ?_
   refine TL.op1 (OpR.pickT rfl (not_f (beq_eq_false_iff_ne.2 c22)) rfl) rfl ?_
   refine TL.nil ?_
   obtain rfl := Option.some.inj ht20
   exact ⟨_, Gst.only [0, 2, 3, 4, 5, 6, 7, 9, 10, 14, 42] rfl, rfl⟩
 refine TL.on rfl rfl rfl rfl (not_t (beq_iff_eq.2 c22)) ?_
 refine aA rfl rfl ?_
 refine TL.on rfl rfl rfl rfl (not_t (beq_iff_eq.2 c22)) ?_
 obtain ⟨x23, hx23, ht20⟩ := bS ht20
 refine TL.op1 (OpR.call0 fn16 (keys_Types_c hx23) rfl) rfl ?_
 refine TL.on rfl rfl rfl rfl (not_t (beq_iff_eq.2 c22)) ?_
 refine aA rfl rfl ?_
 refine TL.op1 (OpR.pickF rfl (not_t (beq_iff_eq.2 c22)) rfl) rfl ?_
 refine TL.nil ?_
 obtain rfl := Option.some.inj ht20
 exact ⟨_, Gst.only [0, 2, 3, 4, 5, 6, 7, 9, 10, 14, 42] rfl, rfl⟩
noncomputable def ref09_Same.l1 (a0 : List Int) (a1 : List Int) (s4 : Int) : Option (Lp Int (Ex Unit Bool)) :=
  if s4 < (a0.length : Int) then
    bnd (idx a0 s4) fun x14 =>
    bnd (idx a1 s4) fun x15 =>
    if x14 = x15 then
      some (Lp.next (w64 (s4 + 1)))
    else
      some (Lp.done (Ex.ret false))
  else
    some (Lp.done (Ex.brk ()))
noncomputable def ref09_Same (a0 : List Int) (a1 : List Int) : Option Bool :=
  if (a0.length : Int) = (a1.length : Int) then
    bnd (loop (ref09_Same.l1 a0 a1) 0 : Option (Ex Unit Bool)) fun t2 => match t2 with
      | .brk u3 =>
        some true
      | .ret u3 => some u3
  else
    some false
theorem ref09_Same_c {a0 : List Int} {a1 : List Int} {res : Bool} (h0 : ref09_Same a0 a1 = some res) : CallF X 10 [.sl 1 (List.map (eI .i64) a0), .sl 1 (List.map (eI .i64) a1)] [] (fun x => (dT res)) (fun x => []) := by
 unfold ref09_Same at h0
 refine CallF.mkG (X := X) rfl Tryd.func10 rfl rfl Tryd.ntmps10 rfl rfl ?_
 refine aS ?_
 refine aA rfl rfl ?_
 refine aN rfl ?_
 refine T.seq ?_
 refine aS ?_
 refine aA rfl rfl ?_
 refine TL.op1 (OpR.cast (OpR.pure rfl) (intE (lenM _ _))) rfl ?_
 refine aA rfl rfl ?_
 refine TL.op1 (OpR.cast (OpR.pure rfl) (intE (lenM _ _))) rfl ?_
 refine aA rfl rfl ?_
 refine aN rfl ?_
 rcases ite_some h0 with ⟨c1, h0⟩ | ⟨c1, h0⟩
 rotate_left
 · refine T.condT rfl (not_f (beq_eq_false_iff_ne.2 c1)) ?_
   refine aS ?_
   refine aA rfl rfl ?_
   refine aN rfl ?_
   refine T.ret ?_
   obtain rfl := Option.some.inj h0
   exact rO [] [4] rfl undef (cT rfl ResL.nil) rfl rfl rfl rfl
 refine T.condF rfl (not_t (beq_iff_eq.2 c1)) ?_
 refine aK rfl ?_
 refine T.seq ?_
 refine aS ?_
 refine aA rfl rfl ?_
 refine TL.op1 (OpR.cast (OpR.pure rfl) (intE (lenM _ _))) rfl ?_
 refine aA rfl rfl ?_
 refine aN rfl ?_
 obtain ⟨t2, ht2, h0⟩ := bS h0
 refine T.cutC (fun S' => ∃ u3, t2 = Ex.brk u3 ∧ S' = ⟨[(4, (dT false))], [], 26⟩) (fun _ h => h) ?_ ?_
 rotate_left
 · rintro _ ⟨u3, rfl, rfl⟩
   show T X _ _ _
   refine aS ?_
   refine aA rfl rfl ?_
   refine aN rfl ?_
   refine T.ret ?_
   obtain rfl := Option.some.inj h0
   exact rO [] [4] rfl undef (cT rfl ResL.nil) rfl rfl rfl rfl
 refine T.block ?_
 obtain ⟨n5, n10⟩ := loop_some ht2
 refine T.loop (fun n S' => ∃ S'', Gst S' S'' ∧ ∃ s4 : Int, S'' = ⟨[(13, (dN s4)), (12, (dN (a0.length : Int))), (4, (dT false)), (1, .sl 1 (List.map (eI .i64) a1)), (0, .sl 1 (List.map (eI .i64) a0))], [], 26⟩ ∧ iter (ref09_Same.l1 a0 a1) n s4 = some t2) n5 ?_ ?_
 · exact ⟨_, Gst.only [0, 1, 4, 12, 13] rfl, 0, rfl, n10⟩
 rintro n5 _ ⟨_, g, s4, rfl, i9⟩
 refine T.ghost g ?_
 obtain ⟨m6, q7, rfl, q8, i9⟩ := iter_succ i9
 unfold ref09_Same.l1 at q8
 refine aS ?_
 refine aA rfl rfl ?_
 refine aN rfl ?_
 refine T.seq ?_
 rcases ite_some q8 with ⟨c12, q8⟩ | ⟨c12, q8⟩
 rotate_left
 · refine T.condF rfl (decide_eq_false c12) ?_
   refine T.exit ?_
   obtain rfl := Option.some.inj q8
   obtain rfl : _ = _ := i9
   exact ⟨_, Gst.only [4] rfl, _, rfl, rfl⟩
 refine T.condT rfl (decide_eq_true c12) ?_
 refine aK rfl ?_
 refine T.seq ?_
 refine T.block ?_
 refine aS ?_
 iterate 2 refine aA rfl rfl ?_
 refine aN rfl ?_
 refine T.seq ?_
 obtain ⟨x14, hx14, q8⟩ := bS q8
 obtain ⟨x15, hx15, q8⟩ := bS q8
 refine T.drawQ drawsX [.sl 1 (List.map (eI .i64) a0), dN s4, .nod [dN x14], dN x14, .sl 1 (List.map (eI .i64) a1), dN s4, .nod [dN x15], dN x15, dT (!(x14 == x15))] [0, 1, 4, 12, 13, 24] (by decide +kernel) rfl ?_ rfl ?_
 · iterate 2 refine aB rfl rfl rfl ?_
   refine OpsQ.yes (Want.plain rfl) rfl (OpR.indexM (eI .i64) hx14 rfl rfl rfl rfl rfl) ?_
   iterate 3 refine aB rfl rfl rfl ?_
   refine OpsQ.yes (Want.plain rfl) rfl (OpR.indexM (eI .i64) hx15 rfl rfl rfl rfl rfl) ?_
   iterate 2 refine aB rfl rfl rfl ?_
   exact OpsQ.nil
 show T X _ _ _
 rcases ite_some q8 with ⟨c16, q8⟩ | ⟨c16, q8⟩
 · refine T.condF rfl (not_t (beq_iff_eq.2 c16)) ?_
   refine aK rfl ?_
   refine T.region ?_
   iterate 2 refine aA rfl rfl ?_
   refine TL.nil ?_
   obtain rfl := Option.some.inj q8
   exact ⟨m6, Nat.lt_succ_self _, _, Gst.only [0, 1, 4, 12, 13] rfl, w64 (s4 + 1), rfl, i9⟩
 refine T.condT rfl (not_f (beq_eq_false_iff_ne.2 c16)) ?_
 refine aS ?_
 refine aA rfl rfl ?_
 refine aN rfl ?_
 refine T.ret ?_
 obtain rfl := Option.some.inj q8
 obtain rfl : _ = _ := i9
 obtain rfl := Option.some.inj h0
 exact rO [] [4] rfl undef (cT rfl ResL.nil) rfl rfl rfl rfl
noncomputable def strings_Builder_WriteString (a0 : List UInt8) (a1 : List UInt8) : Option (Int × (List UInt8)) :=
  bnd (app 1 a1 a0) fun x1 =>
  some ((a0.length : Int), x1)
theorem strings_Builder_WriteString_c {a0 : List UInt8} {a1 : List UInt8} {b0 : Nat} {v1 : Value} {res : Int × (List UInt8)} (h0 : strings_Builder_WriteString a0 a1 = some res) : CallF X 25 [dP b0, .val (.string (bs a0))] [.bld b0 v1 43, .row v1 (lB a1) 1 5] (fun x => .tup [dN res.1, .val .nilIface]) (fun x => [.bld b0 (vn x 0) 43, .row (vn x 0) (lB res.2) 1 5]) := by
 unfold strings_Builder_WriteString at h0
 refine CallF.mkG (X := X) rfl Tryd.func25 rfl rfl Tryd.ntmps25 rfl rfl ?_
 refine aS ?_
 iterate 2 refine aA rfl rfl ?_
 refine aN rfl ?_
 refine aS ?_
 refine aA rfl rfl ?_
 refine TL.op1 (OpR.bldCheck (ρ := smRen) (f := 34) snLay snX rfl rfl fn34 0 rfl rfl) rfl ?_
 refine aN rfl ?_
 refine aS ?_
 iterate 4 refine aA rfl rfl ?_
 refine TL.op1 (OpR.loadBld 0 rfl rfl rfl rfl) rfl ?_
 refine aA rfl rfl ?_
 obtain ⟨x1, hx1, h0⟩ := bS h0
 refine TL.op (OpR.appendStr (m := a0) 1 hx1 rfl rfl rfl rfl rfl rfl rfl rfl rfl rfl rfl (fun _ => rfl)) rfl (fun v2 => ?_)
 iterate 2 refine aA rfl rfl ?_
 refine TL.op0 (OpR.storeBld 0 rfl rfl rfl rfl rfl rfl) ?_
 refine aN rfl ?_
 refine aS ?_
 refine aA rfl rfl ?_
 refine TL.op1 (OpR.cast (OpR.pure rfl) (intE (lenS _))) rfl ?_
 iterate 2 refine aA rfl rfl ?_
 refine aN rfl ?_
 refine T.ret ?_
 obtain rfl := Option.some.inj h0
 exact rO [0, 1] [4, 5] rfl (.tuple #[v2]) (cT rfl (cT rfl ResL.nil)) rfl rfl rfl rfl
noncomputable def keys_Print.l1 (a0 : List Int) (s5 : Int × (List UInt8)) : Option (Lp (Int × (List UInt8)) (List UInt8)) :=
  if s5.1 < (a0.length : Int) then
    bnd (idx a0 s5.1) fun x14 =>
    bnd (keys_Text x14) fun x15 =>
    bnd (strings_Builder_WriteString x15 s5.2) fun x16 =>
    some (Lp.next (w64 (s5.1 + 1), x16.2))
  else
    some (Lp.done s5.2)
noncomputable def keys_Print (a0 : List Int) : Option (List UInt8) :=
  bnd (loop (keys_Print.l1 a0) (0, []) : Option (List UInt8)) fun t2 =>
  some t2
theorem keys_Print_c {a0 : List Int} {res : (List UInt8)} (h0 : keys_Print a0 = some res) : CallF X 11 [.sl 1 (List.map (eI .i64) a0)] [] (fun x => .val (.string (bs res))) (fun x => []) := by
 unfold keys_Print at h0
 refine CallF.mkG (X := X) rfl Tryd.func11 rfl rfl Tryd.ntmps11 rfl rfl ?_
 refine aS ?_
 refine aA rfl rfl ?_
 refine aN rfl ?_
 refine aS ?_
 refine TL.op (OpR.alloc rfl rfl (fun _ => rfl)) rfl (fun p1 => ?_)
 refine TL.ghost (Gst.nilRow 1 5 rfl) ?_
 refine TL.ghost (Gst.toBld 0 rfl (.inl rfl) rfl) ?_
 refine aN rfl ?_
 refine T.seq ?_
 refine aS ?_
 refine aA rfl rfl ?_
 refine TL.op1 (OpR.cast (OpR.pure rfl) (intE (lenM _ _))) rfl ?_
 refine aA rfl rfl ?_
 refine aN rfl ?_
 obtain ⟨t2, ht2, h0⟩ := bS h0
 refine T.cutC (fun S' => ∃ y3 : Value, S' = ⟨[(3, (dP (blk p1))), (2, .val (.string (bs [])))], [.bld (blk p1) y3 43, .row y3 (lB t2) 1 5], 17⟩) (fun _ h => h) ?_ ?_
 rotate_left
 · rintro _ ⟨y3, rfl⟩
   show T X _ _ _
   refine aS ?_
   refine TL.op1 (OpR.bldString (ρ := smRen) (f := 26) snLay9 snXX rfl rfl rfl fn26 (l := t2) 0 1 rfl rfl rfl rfl) rfl ?_
   refine aA rfl rfl ?_
   refine aN rfl ?_
   refine T.ret ?_
   obtain rfl := Option.some.inj h0
   exact rP [] [2] [] rfl rfl rfl undef (cT rfl ResL.nil) rfl rfl rfl rfl
 refine T.block ?_
 obtain ⟨n6, n11⟩ := loop_some ht2
 refine T.loop (fun n S' => ∃ S'', Gst S' S'' ∧ ∃ y4 : Value, ∃ s5 : Int × (List UInt8), S'' = ⟨[(8, (dN s5.1)), (7, (dN (a0.length : Int))), (6, .sl 1 (List.map (eI .i64) a0)), (3, (dP (blk p1))), (2, .val (.string (bs [])))], [.bld (blk p1) y4 43, .row y4 (lB s5.2) 1 5], 17⟩ ∧ iter (keys_Print.l1 a0) n s5 = some t2) n6 ?_ ?_
 · exact ⟨_, Gst.only [2, 3, 6, 7, 8] rfl, (.slice none 0 0), (0, []), rfl, n11⟩
 rintro n6 _ ⟨_, g, y4, s5, rfl, i10⟩
 refine T.ghost g ?_
 obtain ⟨m7, q8, rfl, q9, i10⟩ := iter_succ i10
 unfold keys_Print.l1 at q9
 refine aS ?_
 refine aA rfl rfl ?_
 refine aN rfl ?_
 refine T.seq ?_
 rcases ite_some q9 with ⟨c13, q9⟩ | ⟨c13, q9⟩
 rotate_left
 · refine T.condF rfl (decide_eq_false c13) ?_
   refine T.exit ?_
   obtain rfl := Option.some.inj q9
   obtain rfl : _ = _ := i10
   exact ⟨_, Gst.only [2, 3] rfl, y4, rfl⟩
 refine T.condT rfl (decide_eq_true c13) ?_
 refine aK rfl ?_
 refine T.seq ?_
 refine T.block ?_
 refine aS ?_
 obtain ⟨x14, hx14, q9⟩ := bS q9
 refine TL.op1 (OpR.indexM (eI .i64) hx14 rfl rfl rfl rfl rfl) rfl ?_
 iterate 2 refine aA rfl rfl ?_
 refine aN rfl ?_
 refine T.region ?_
 refine aA rfl rfl ?_
 obtain ⟨x15, hx15, q9⟩ := bS q9
 refine TL.op1 (OpR.call0 fn18 (keys_Text_c hx15) rfl) rfl ?_
 obtain ⟨x16, hx16, q9⟩ := bS q9
 refine TL.op (OpR.call [0, 1] fn25 (strings_Builder_WriteString_c hx16) rfl rfl rfl (fun _ => rfl)) rfl (fun w17 => ?_)
 refine aN rfl ?_
 refine T.region ?_
 iterate 2 refine aA rfl rfl ?_
 refine TL.nil ?_
 obtain rfl := Option.some.inj q9
 exact ⟨m7, Nat.lt_succ_self _, _, Gst.only [2, 3, 6, 7, 8] rfl, (vn w17 0), (w64 (s5.1 + 1), x16.2), rfl, i10⟩
noncomputable def law22_awake : Option Bool :=
  bnd (keys_Parse [105, 120, 60, 69, 115, 99, 62]) fun x1 =>
  bnd (if x1.2 = 0 then
    bnd (ref09_Same x1.1 [105, 120, 27]) fun x4 =>
    if x4 = true then
      bnd (keys_Print [60, (-1), 18]) fun x6 =>
      if x6 = [60, 108, 116, 62, 60, 76, 101, 102, 116, 62, 60, 67, 45, 114, 62] then
        bnd (keys_Ctrl 114) fun x8 =>
        some (x8 == 18)
      else
        some false
    else
      some false
  else
    some false : Option Bool) fun t2 =>
  some t2
theorem law22_awake_c {res : Bool} (h0 : law22_awake = some res) : CallF X 12 [] [] (fun x => (dT res)) (fun x => []) := by
 unfold law22_awake at h0
 refine CallF.mkG (X := X) rfl Tryd.func12 rfl rfl Tryd.ntmps12 rfl rfl ?_
 refine aS ?_
 refine aA rfl rfl ?_
 refine aN rfl ?_
 refine aS ?_
 obtain ⟨x1, hx1, h0⟩ := bS h0
 refine TL.op1 (OpR.call0 fn8 (keys_Parse_c hx1) rfl) rfl ?_
 iterate 5 refine aA rfl rfl ?_
 refine aN rfl ?_
 refine T.seq ?_
 obtain ⟨t2, ht2, h0⟩ := bS h0
 refine T.cutC (fun S' => S' = ⟨[(0, (dT t2))], [], 23⟩) (fun _ h => h) ?_ ?_
 rotate_left
 · rintro _ rfl
   show T X _ _ _
   refine T.ret ?_
   obtain rfl := Option.some.inj h0
   exact rO [] [0] rfl undef (cT rfl ResL.nil) rfl rfl rfl rfl
 refine T.region ?_
 iterate 3 refine aA rfl rfl ?_
 rcases ite_some ht2 with ⟨c3, ht2⟩ | ⟨c3, ht2⟩
 rotate_left
 · refine TL.off rfl rfl rfl rfl (beq_eq_false_iff_ne.2 c3) rfl rfl ?_
   refine TL.off rfl rfl rfl rfl (beq_eq_false_iff_ne.2 c3) rfl rfl ?_
   refine TL.off rfl rfl rfl rfl (beq_eq_false_iff_ne.2 c3) rfl rfl ?_
   refine TL.op1 (OpR.pickF rfl (beq_eq_false_iff_ne.2 c3) rfl) rfl ?_
   refine aA rfl rfl ?_
   refine TL.off rfl rfl rfl rfl rfl rfl rfl ?_
   refine TL.off rfl rfl rfl rfl rfl rfl rfl ?_
   refine TL.off rfl rfl rfl rfl rfl rfl rfl ?_
   refine TL.op1 (OpR.pickF rfl rfl rfl) rfl ?_
   refine aA rfl rfl ?_
   refine TL.off rfl rfl rfl rfl rfl rfl rfl ?_
   refine TL.off rfl rfl rfl rfl rfl rfl rfl ?_
   refine TL.op1 (OpR.pickF rfl rfl rfl) rfl ?_
   refine aA rfl rfl ?_
   refine TL.nil ?_
   obtain rfl := Option.some.inj ht2
   exact ⟨_, Gst.only [0] rfl, rfl⟩
 refine TL.on rfl rfl rfl rfl (beq_iff_eq.2 c3) ?_
 refine aA rfl rfl ?_
 refine TL.on rfl rfl rfl rfl (beq_iff_eq.2 c3) ?_
 refine TL.op1 (OpR.lit rfl rfl rfl rfl rfl rfl rfl) rfl ?_
 refine TL.on rfl rfl rfl rfl (beq_iff_eq.2 c3) ?_
 obtain ⟨x4, hx4, ht2⟩ := bS ht2
 refine TL.op1 (OpR.call0 fn10 (ref09_Same_c hx4) rfl) rfl ?_
 refine TL.op1 (OpR.pickT rfl (beq_iff_eq.2 c3) rfl) rfl ?_
 refine aA rfl rfl ?_
 rcases ite_some ht2 with ⟨c5, ht2⟩ | ⟨c5, ht2⟩
 rotate_left
 · refine TL.off rfl rfl rfl rfl (eq_false_of_ne_true c5) rfl rfl ?_
   refine TL.off rfl rfl rfl rfl (eq_false_of_ne_true c5) rfl rfl ?_
   refine TL.off rfl rfl rfl rfl (eq_false_of_ne_true c5) rfl rfl ?_
   refine TL.op1 (OpR.pickF rfl (eq_false_of_ne_true c5) rfl) rfl ?_
   refine aA rfl rfl ?_
   refine TL.off rfl rfl rfl rfl rfl rfl rfl ?_
   refine TL.off rfl rfl rfl rfl rfl rfl rfl ?_
   refine TL.op1 (OpR.pickF rfl rfl rfl) rfl ?_
   refine aA rfl rfl ?_
   refine TL.nil ?_
   obtain rfl := Option.some.inj ht2
   exact ⟨_, Gst.only [0] rfl, rfl⟩
 refine TL.on rfl rfl rfl rfl (c5) ?_
 refine TL.op1 (OpR.lit rfl rfl rfl rfl rfl rfl rfl) rfl ?_
 refine TL.on rfl rfl rfl rfl (c5) ?_
 obtain ⟨x6, hx6, ht2⟩ := bS ht2
 refine TL.op1 (OpR.call0 fn11 (keys_Print_c hx6) rfl) rfl ?_
 refine TL.on rfl rfl rfl rfl (c5) ?_
 refine TL.op1 (OpR.cast (OpR.pure rfl) (boolE (strEq _ _))) rfl ?_
 refine TL.op1 (OpR.pickT rfl (c5) rfl) rfl ?_
 refine aA rfl rfl ?_
 rcases ite_some ht2 with ⟨c7, ht2⟩ | ⟨c7, ht2⟩
 rotate_left
 · refine TL.off rfl rfl rfl rfl (beq_eq_false_iff_ne.2 c7) rfl rfl ?_
   refine TL.off rfl rfl rfl rfl (beq_eq_false_iff_ne.2 c7) rfl rfl ?_
   refine TL.op1 (OpR.pickF rfl (beq_eq_false_iff_ne.2 c7) rfl) rfl ?_
   refine aA rfl rfl ?_
   refine TL.nil ?_
   obtain rfl := Option.some.inj ht2
   exact ⟨_, Gst.only [0] rfl, rfl⟩
 refine TL.on rfl rfl rfl rfl (beq_iff_eq.2 c7) ?_
 obtain ⟨x8, hx8, ht2⟩ := bS ht2
 refine TL.op1 (OpR.call0 fn20 (keys_Ctrl_c hx8) rfl) rfl ?_
 refine TL.on rfl rfl rfl rfl (beq_iff_eq.2 c7) ?_
 refine aA rfl rfl ?_
 refine TL.op1 (OpR.pickT rfl (beq_iff_eq.2 c7) rfl) rfl ?_
 refine aA rfl rfl ?_
 refine TL.nil ?_
 obtain rfl := Option.some.inj ht2
 exact ⟨_, Gst.only [0] rfl, rfl⟩
end Go.Proofs.YtlginjmkmfodmaaDoor.S
