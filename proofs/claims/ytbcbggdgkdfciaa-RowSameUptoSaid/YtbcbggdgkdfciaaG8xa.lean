/- Printed by a program of this session's own (gen.py): Lean functions for Go functions, and the proofs that the Go code comes to their answers. -/
import Derived.Test.YtbcbggdgkdfciaaG1xa
import Derived.Test.YtbcbggdgkdfciaaG2xa
set_option linter.unusedVariables false
set_option linter.unusedSimpArgs false
set_option maxRecDepth 20000
namespace Go.Proofs.Ytbcbggdgkdfciaa.S
open Go Go.Sm
attribute [local irreducible] T TL OpR CallT iter loop
noncomputable def bytes_Equal (a0 : List UInt8) (a1 : List UInt8) : Option Bool :=
  some (a0 == a1)
set_option maxHeartbeats 4000000 in
theorem bytes_Equal_c {a0 : List UInt8} {a1 : List UInt8} {res : Bool} (h0 : bytes_Equal a0 a1 = some res) : CallF X 127 [.sl 1 (List.map byteD a0), .sl 1 (List.map byteD a1)] [] (fun x => .val (.bool res)) (fun x => []) := by
 unfold bytes_Equal at h0
 refine CallF.mkG (X := X) Try.func127 rfl rfl Try.ntmps127 rfl rfl ?_
 refine T.seq ?_
 refine T.region ?_
 refine TL.op1 (OpR.pure rfl) rfl ?_
 refine TL.nil ?_
 show T X _ _ _
 refine T.seq ?_
 refine T.region ?_
 refine TL.op1 (OpR.pure rfl) rfl ?_
 refine TL.op1 (OpR.toStr (bs := a0) rfl rfl rfl rfl rfl rfl rfl) rfl ?_
 refine TL.op1 (OpR.pure rfl) rfl ?_
 refine TL.op1 (OpR.toStr (bs := a1) rfl rfl rfl rfl rfl rfl rfl) rfl ?_
 refine TL.op1 (OpR.cast (OpR.pure rfl) (boolE (strEq _ _))) rfl ?_
 refine TL.op1 (OpR.pure rfl) rfl ?_
 refine TL.nil ?_
 show T X _ _ _
 refine T.ret ?_
 obtain rfl := Option.some.inj h0
 exact PostG.retP (ks := []) (Gst.only [4] rfl) undef (ResL.cons (ResV.tmp rfl) ResL.nil) rfl rfl rfl rfl
noncomputable def cell_Same (a0 : cell_Cell) (a1 : cell_Cell) (a2 : List UInt8) : Option Bool :=
  bnd (if (a0.fKept == a1.fKept) = true then
    bnd (cell_Cell_Bytes a0 a2) fun x4 =>
    bnd (cell_Cell_Bytes a1 a2) fun x5 =>
    bnd (bytes_Equal x4 x5) fun x6 =>
    some (!x6)
  else
    some true : Option Bool) fun t1 =>
  if t1 = true then
    some false
  else
    bnd (if a0.fKept = true then
      bnd (arena_Arena_Bytes a0.fRaw a2) fun x11 =>
      bnd (arena_Arena_Bytes a1.fRaw a2) fun x12 =>
      bnd (bytes_Equal x11 x12) fun x13 =>
      some x13
    else
      some true : Option Bool) fun t8 =>
    some t8
set_option maxHeartbeats 4000000 in
theorem cell_Same_c {a0 : cell_Cell} {a1 : cell_Cell} {a2 : List UInt8} {b0 : Nat} {v1 : Value} {res : Bool} (h0 : cell_Same a0 a1 a2 = some res) : CallF X 80 [.val (.pointer (some ⟨b0, 0, none⟩)), .agg [.sl 2 (List.map e_arena_Span a0.fText.fL), .val (.int .i64 a0.fText.fN), .val (.int .i64 a0.fRaw.fAt), .val (.int .i64 a0.fRaw.fN), .val (.bool a0.fKept)], .agg [.sl 2 (List.map e_arena_Span a1.fText.fL), .val (.int .i64 a1.fText.fN), .val (.int .i64 a1.fRaw.fAt), .val (.int .i64 a1.fRaw.fN), .val (.bool a1.fKept)]] [.var b0 [.val v1] 142, .row v1 (List.map byteD a2) 1 5] (fun x => .val (.bool res)) (fun x => [.var b0 [.val v1] 142, .row v1 (List.map byteD a2) 1 5]) := by
 unfold cell_Same at h0
 refine CallF.mkG (X := X) Try.func80 rfl rfl Try.ntmps80 rfl rfl ?_
 refine T.seq ?_
 refine T.region ?_
 refine TL.op1 (OpR.boxImm rfl rfl) rfl ?_
 refine TL.op1 (OpR.boxImm rfl rfl) rfl ?_
 refine TL.op1 (OpR.pure rfl) rfl ?_
 refine TL.nil ?_
 show T X _ _ _
 refine T.seq ?_
 refine T.seq ?_
 obtain ⟨t1, ht1, h0⟩ := bnd_some h0
 refine T.cutC (fun S' => S' = ⟨[(21, .val (.bool t1)), (6, .val (.bool false)), (5, .nod [.sl 2 (List.map e_arena_Span a1.fText.fL), .val (.int .i64 a1.fText.fN), .val (.int .i64 a1.fRaw.fAt), .val (.int .i64 a1.fRaw.fN), .val (.bool a1.fKept)]), (4, .nod [.sl 2 (List.map e_arena_Span a0.fText.fL), .val (.int .i64 a0.fText.fN), .val (.int .i64 a0.fRaw.fAt), .val (.int .i64 a0.fRaw.fN), .val (.bool a0.fKept)]), (0, .val (.pointer (some ⟨b0, 0, none⟩)))], [.var b0 [.val v1] 142, .row v1 (List.map byteD a2) 1 5], 36⟩) (fun _ h => h) ?_ ?_
 · rcases ite_some ht1 with ⟨c3, ht1⟩ | ⟨c3, ht1⟩
   rotate_left
   · refine T.drawQ drawsX [.nod [.val (.bool a0.fKept)], .val (.bool a0.fKept), .nod [.val (.bool a1.fKept)], .val (.bool a1.fKept), .val (.bool (!(a0.fKept == a1.fKept))), .val (.bool (!(a0.fKept == a1.fKept))), .tup [], .tup [], .tup [], .tup [], .tup [], .tup [], .tup [], .tup [], .val (.bool true)] [0, 1, 2, 4, 5, 6, 7, 8, 9, 10, 11, 12, 13, 14, 15, 16, 17, 18, 19, 20, 21] (by decide +kernel) rfl ?_ rfl ?_
     rotate_left
     · obtain rfl := Option.some.inj ht1
       exact ⟨_, Gst.only [0, 4, 5, 6, 21] rfl, rfl⟩
     refine OpsQ.yes (Want.plain rfl) rfl (OpR.pure rfl) ?_
     refine OpsQ.yes (Want.plain rfl) rfl (OpR.pure rfl) ?_
     refine OpsQ.yes (Want.plain rfl) rfl (OpR.pure rfl) ?_
     refine OpsQ.yes (Want.plain rfl) rfl (OpR.pure rfl) ?_
     refine OpsQ.yes (Want.plain rfl) rfl (OpR.neBool rfl rfl rfl rfl) ?_
     refine OpsQ.yes (Want.plain rfl) rfl (OpR.pure rfl) ?_
     refine OpsQ.no (Want.bool rfl rfl rfl rfl (by rw [(not_f (eq_false_of_ne_true c3))]; rfl)) rfl ?_
     refine OpsQ.no (Want.bool rfl rfl rfl rfl (by rw [(not_f (eq_false_of_ne_true c3))]; rfl)) rfl ?_
     refine OpsQ.no (Want.bool rfl rfl rfl rfl (by rw [(not_f (eq_false_of_ne_true c3))]; rfl)) rfl ?_
     refine OpsQ.no (Want.bool rfl rfl rfl rfl (by rw [(not_f (eq_false_of_ne_true c3))]; rfl)) rfl ?_
     refine OpsQ.no (Want.bool rfl rfl rfl rfl (by rw [(not_f (eq_false_of_ne_true c3))]; rfl)) rfl ?_
     refine OpsQ.no (Want.bool rfl rfl rfl rfl (by rw [(not_f (eq_false_of_ne_true c3))]; rfl)) rfl ?_
     refine OpsQ.no (Want.bool rfl rfl rfl rfl (by rw [(not_f (eq_false_of_ne_true c3))]; rfl)) rfl ?_
     refine OpsQ.no (Want.bool rfl rfl rfl rfl (by rw [(not_f (eq_false_of_ne_true c3))]; rfl)) rfl ?_
     refine OpsQ.yes (Want.plain rfl) rfl (OpR.pickT rfl (not_f (eq_false_of_ne_true c3)) rfl) ?_
     exact OpsQ.nil
   obtain ⟨x4, hx4, ht1⟩ := bnd_some ht1
   obtain ⟨x5, hx5, ht1⟩ := bnd_some ht1
   obtain ⟨x6, hx6, ht1⟩ := bnd_some ht1
   refine T.drawQ drawsX [.nod [.val (.bool a0.fKept)], .val (.bool a0.fKept), .nod [.val (.bool a1.fKept)], .val (.bool a1.fKept), .val (.bool (!(a0.fKept == a1.fKept))), .val (.bool (!(a0.fKept == a1.fKept))), .agg [.sl 2 (List.map e_arena_Span a0.fText.fL), .val (.int .i64 a0.fText.fN), .val (.int .i64 a0.fRaw.fAt), .val (.int .i64 a0.fRaw.fN), .val (.bool a0.fKept)], .val (.pointer (some ⟨b0, 0, none⟩)), .sl 1 (List.map byteD x4), .agg [.sl 2 (List.map e_arena_Span a1.fText.fL), .val (.int .i64 a1.fText.fN), .val (.int .i64 a1.fRaw.fAt), .val (.int .i64 a1.fRaw.fN), .val (.bool a1.fKept)], .val (.pointer (some ⟨b0, 0, none⟩)), .sl 1 (List.map byteD x5), .val (.bool x6), .val (.bool (!x6)), .val (.bool (!x6))] [0, 1, 2, 4, 5, 6, 7, 8, 9, 10, 11, 12, 13, 14, 15, 16, 17, 18, 19, 20, 21] (by decide +kernel) rfl ?_ rfl ?_
   rotate_left
   · obtain rfl := Option.some.inj ht1
     exact ⟨_, Gst.only [0, 4, 5, 6, 21] rfl, rfl⟩
   refine OpsQ.yes (Want.plain rfl) rfl (OpR.pure rfl) ?_
   refine OpsQ.yes (Want.plain rfl) rfl (OpR.pure rfl) ?_
   refine OpsQ.yes (Want.plain rfl) rfl (OpR.pure rfl) ?_
   refine OpsQ.yes (Want.plain rfl) rfl (OpR.pure rfl) ?_
   refine OpsQ.yes (Want.plain rfl) rfl (OpR.neBool rfl rfl rfl rfl) ?_
   refine OpsQ.yes (Want.plain rfl) rfl (OpR.pure rfl) ?_
   refine OpsQ.yes (Want.bool rfl rfl rfl rfl (by rw [(not_t (c3))]; rfl)) rfl (OpR.pure rfl) ?_
   refine OpsQ.yes (Want.bool rfl rfl rfl rfl (by rw [(not_t (c3))]; rfl)) rfl (OpR.pure rfl) ?_
   refine OpsQ.yes (Want.bool rfl rfl rfl rfl (by rw [(not_t (c3))]; rfl)) rfl (OpR.call [0, 1] fn102 (cell_Cell_Bytes_c hx4) rfl rfl rfl (fun _ => rfl)) ?_
   refine OpsQ.yes (Want.bool rfl rfl rfl rfl (by rw [(not_t (c3))]; rfl)) rfl (OpR.pure rfl) ?_
   refine OpsQ.yes (Want.bool rfl rfl rfl rfl (by rw [(not_t (c3))]; rfl)) rfl (OpR.pure rfl) ?_
   refine OpsQ.yes (Want.bool rfl rfl rfl rfl (by rw [(not_t (c3))]; rfl)) rfl (OpR.call [0, 1] fn102 (cell_Cell_Bytes_c hx5) rfl rfl rfl (fun _ => rfl)) ?_
   refine OpsQ.yes (Want.bool rfl rfl rfl rfl (by rw [(not_t (c3))]; rfl)) rfl (OpR.call0 fn127 (bytes_Equal_c hx6) rfl) ?_
   refine OpsQ.yes (Want.bool rfl rfl rfl rfl (by rw [(not_t (c3))]; rfl)) rfl (OpR.pure rfl) ?_
   refine OpsQ.yes (Want.plain rfl) rfl (OpR.pickF rfl (not_t (c3)) rfl) ?_
   exact OpsQ.nil
 rintro _ rfl
 show T X _ _ _
 rcases ite_some h0 with ⟨c7, h0⟩ | ⟨c7, h0⟩
 · refine T.condT rfl (c7) ?_
   refine T.seq ?_
   refine T.region ?_
   refine TL.op1 (OpR.pure rfl) rfl ?_
   refine TL.nil ?_
   show T X _ _ _
   refine T.ret ?_
   obtain rfl := Option.some.inj h0
   exact PostG.retP (ks := [0, 1]) (Gst.only [6] rfl) undef (ResL.cons (ResV.tmp rfl) ResL.nil) rfl rfl rfl rfl
 refine T.condF rfl (eq_false_of_ne_true c7) ?_
 refine T.skip ?_
 show T X _ _ _
 refine T.seq ?_
 obtain ⟨t8, ht8, h0⟩ := bnd_some h0
 refine T.cutC (fun S' => S' = ⟨[(6, .val (.bool t8))], [.var b0 [.val v1] 142, .row v1 (List.map byteD a2) 1 5], 36⟩) (fun _ h => h) ?_ ?_
 rotate_left
 · rintro _ rfl
   show T X _ _ _
   refine T.ret ?_
   obtain rfl := Option.some.inj h0
   exact PostG.retP (ks := [0, 1]) (Gst.only [6] rfl) undef (ResL.cons (ResV.tmp rfl) ResL.nil) rfl rfl rfl rfl
 rcases ite_some ht8 with ⟨c10, ht8⟩ | ⟨c10, ht8⟩
 rotate_left
 · refine T.drawQ drawsX [.nod [.val (.bool a0.fKept)], .val (.bool a0.fKept), .val (.bool (!a0.fKept)), .val (.bool (!a0.fKept)), .tup [], .tup [], .tup [], .tup [], .tup [], .tup [], .tup [], .tup [], .tup [], .val (.bool true), .val (.bool true)] [0, 4, 5, 6, 21, 22, 23, 24, 25, 26, 27, 28, 29, 30, 31, 32, 33, 34, 35] (by decide +kernel) rfl ?_ rfl ?_
   rotate_left
   · obtain rfl := Option.some.inj ht8
     exact ⟨_, Gst.only [6] rfl, rfl⟩
   refine OpsQ.yes (Want.plain rfl) rfl (OpR.pure rfl) ?_
   refine OpsQ.yes (Want.plain rfl) rfl (OpR.pure rfl) ?_
   refine OpsQ.yes (Want.plain rfl) rfl (OpR.pure rfl) ?_
   refine OpsQ.yes (Want.plain rfl) rfl (OpR.pure rfl) ?_
   refine OpsQ.no (Want.bool rfl rfl rfl rfl (by rw [(not_f (eq_false_of_ne_true c10))]; rfl)) rfl ?_
   refine OpsQ.no (Want.bool rfl rfl rfl rfl (by rw [(not_f (eq_false_of_ne_true c10))]; rfl)) rfl ?_
   refine OpsQ.no (Want.bool rfl rfl rfl rfl (by rw [(not_f (eq_false_of_ne_true c10))]; rfl)) rfl ?_
   refine OpsQ.no (Want.bool rfl rfl rfl rfl (by rw [(not_f (eq_false_of_ne_true c10))]; rfl)) rfl ?_
   refine OpsQ.no (Want.bool rfl rfl rfl rfl (by rw [(not_f (eq_false_of_ne_true c10))]; rfl)) rfl ?_
   refine OpsQ.no (Want.bool rfl rfl rfl rfl (by rw [(not_f (eq_false_of_ne_true c10))]; rfl)) rfl ?_
   refine OpsQ.no (Want.bool rfl rfl rfl rfl (by rw [(not_f (eq_false_of_ne_true c10))]; rfl)) rfl ?_
   refine OpsQ.no (Want.bool rfl rfl rfl rfl (by rw [(not_f (eq_false_of_ne_true c10))]; rfl)) rfl ?_
   refine OpsQ.no (Want.bool rfl rfl rfl rfl (by rw [(not_f (eq_false_of_ne_true c10))]; rfl)) rfl ?_
   refine OpsQ.yes (Want.plain rfl) rfl (OpR.pickT rfl (not_f (eq_false_of_ne_true c10)) rfl) ?_
   refine OpsQ.yes (Want.plain rfl) rfl (OpR.pure rfl) ?_
   exact OpsQ.nil
 obtain ⟨x11, hx11, ht8⟩ := bnd_some ht8
 obtain ⟨x12, hx12, ht8⟩ := bnd_some ht8
 obtain ⟨x13, hx13, ht8⟩ := bnd_some ht8
 refine T.drawQ drawsX [.nod [.val (.bool a0.fKept)], .val (.bool a0.fKept), .val (.bool (!a0.fKept)), .val (.bool (!a0.fKept)), .val (.pointer (some ⟨b0, 0, none⟩)), .nod [.val (.int .i64 a0.fRaw.fAt), .val (.int .i64 a0.fRaw.fN), .val (.bool a0.fKept)], .agg [.val (.int .i64 a0.fRaw.fAt), .val (.int .i64 a0.fRaw.fN)], .sl 1 (List.map byteD x11), .val (.pointer (some ⟨b0, 0, none⟩)), .nod [.val (.int .i64 a1.fRaw.fAt), .val (.int .i64 a1.fRaw.fN), .val (.bool a1.fKept)], .agg [.val (.int .i64 a1.fRaw.fAt), .val (.int .i64 a1.fRaw.fN)], .sl 1 (List.map byteD x12), .val (.bool x13), .val (.bool x13), .val (.bool x13)] [0, 4, 5, 6, 21, 22, 23, 24, 25, 26, 27, 28, 29, 30, 31, 32, 33, 34, 35] (by decide +kernel) rfl ?_ rfl ?_
 rotate_left
 · obtain rfl := Option.some.inj ht8
   exact ⟨_, Gst.only [6] rfl, rfl⟩
 refine OpsQ.yes (Want.plain rfl) rfl (OpR.pure rfl) ?_
 refine OpsQ.yes (Want.plain rfl) rfl (OpR.pure rfl) ?_
 refine OpsQ.yes (Want.plain rfl) rfl (OpR.pure rfl) ?_
 refine OpsQ.yes (Want.plain rfl) rfl (OpR.pure rfl) ?_
 refine OpsQ.yes (Want.bool rfl rfl rfl rfl (by rw [(not_t (c10))]; rfl)) rfl (OpR.pure rfl) ?_
 refine OpsQ.yes (Want.bool rfl rfl rfl rfl (by rw [(not_t (c10))]; rfl)) rfl (OpR.pure rfl) ?_
 refine OpsQ.yes (Want.bool rfl rfl rfl rfl (by rw [(not_t (c10))]; rfl)) rfl (OpR.pure rfl) ?_
 refine OpsQ.yes (Want.bool rfl rfl rfl rfl (by rw [(not_t (c10))]; rfl)) rfl (OpR.call [0, 1] fn91 (arena_Arena_Bytes_c hx11) rfl rfl rfl (fun _ => rfl)) ?_
 refine OpsQ.yes (Want.bool rfl rfl rfl rfl (by rw [(not_t (c10))]; rfl)) rfl (OpR.pure rfl) ?_
 refine OpsQ.yes (Want.bool rfl rfl rfl rfl (by rw [(not_t (c10))]; rfl)) rfl (OpR.pure rfl) ?_
 refine OpsQ.yes (Want.bool rfl rfl rfl rfl (by rw [(not_t (c10))]; rfl)) rfl (OpR.pure rfl) ?_
 refine OpsQ.yes (Want.bool rfl rfl rfl rfl (by rw [(not_t (c10))]; rfl)) rfl (OpR.call [0, 1] fn91 (arena_Arena_Bytes_c hx12) rfl rfl rfl (fun _ => rfl)) ?_
 refine OpsQ.yes (Want.bool rfl rfl rfl rfl (by rw [(not_t (c10))]; rfl)) rfl (OpR.call0 fn127 (bytes_Equal_c hx13) rfl) ?_
 refine OpsQ.yes (Want.plain rfl) rfl (OpR.pickF rfl (not_t (c10)) rfl) ?_
 refine OpsQ.yes (Want.plain rfl) rfl (OpR.pure rfl) ?_
 exact OpsQ.nil
noncomputable def row_Same_1 (a0 : cell_Cell) (a1 : cell_Cell) (a2 : List UInt8) : Option Bool :=
  bnd (cell_Same a0 a1 a2) fun x1 =>
  some x1
set_option maxHeartbeats 4000000 in
theorem row_Same_1_c {a0 : cell_Cell} {a1 : cell_Cell} {a2 : List UInt8} {b0 : Nat} {b1 : Nat} {v2 : Value} {res : Bool} (h0 : row_Same_1 a0 a1 a2 = some res) : CallF X 79 [.agg [.sl 2 (List.map e_arena_Span a0.fText.fL), .val (.int .i64 a0.fText.fN), .val (.int .i64 a0.fRaw.fAt), .val (.int .i64 a0.fRaw.fN), .val (.bool a0.fKept)], .agg [.sl 2 (List.map e_arena_Span a1.fText.fL), .val (.int .i64 a1.fText.fN), .val (.int .i64 a1.fRaw.fAt), .val (.int .i64 a1.fRaw.fN), .val (.bool a1.fKept)], .val (.pointer (some ⟨b0, 0, none⟩))] [.var b0 [.val (.pointer (some ⟨b1, 0, none⟩))] 39, .var b1 [.val v2] 142, .row v2 (List.map byteD a2) 1 5] (fun x => .val (.bool res)) (fun x => [.var b0 [.val (.pointer (some ⟨b1, 0, none⟩))] 39, .var b1 [.val v2] 142, .row v2 (List.map byteD a2) 1 5]) := by
 unfold row_Same_1 at h0
 refine CallF.mkG (X := X) Try.func79 rfl rfl Try.ntmps79 rfl rfl ?_
 refine T.seq ?_
 refine T.region ?_
 refine TL.op1 (OpR.boxImm rfl rfl) rfl ?_
 refine TL.op1 (OpR.boxImm rfl rfl) rfl ?_
 refine TL.op1 (OpR.pure rfl) rfl ?_
 refine TL.nil ?_
 show T X _ _ _
 refine T.seq ?_
 refine T.region ?_
 refine TL.op1 (OpR.loadPtr 0 rfl rfl rfl rfl) rfl ?_
 refine TL.op1 (OpR.pure rfl) rfl ?_
 refine TL.op1 (OpR.pure rfl) rfl ?_
 obtain ⟨x1, hx1, h0⟩ := bnd_some h0
 refine TL.op1 (OpR.call [1, 2] fn80 (cell_Same_c hx1) rfl rfl rfl (fun _ => rfl)) rfl ?_
 refine TL.op1 (OpR.pure rfl) rfl ?_
 refine TL.nil ?_
 show T X _ _ _
 refine T.ret ?_
 obtain rfl := Option.some.inj h0
 exact PostG.retP (ks := [0, 1, 2]) (Gst.only [5] rfl) undef (ResL.cons (ResV.tmp rfl) ResL.nil) rfl rfl rfl rfl
noncomputable def slices_EqualFunc_cell_Cell_cell_Cell_cell_Cell_cell_Cell.l1 (a0 : List cell_Cell) (a1 : List cell_Cell) (a2 : List UInt8) (s4 : Int) : Option (Lp Int (Ex Unit Bool)) :=
  if s4 < (a0.length : Int) then
    bnd (idx a0 s4) fun x13 =>
    bnd (idx a1 s4) fun x15 =>
    bnd (row_Same_1 x13 x15 a2) fun x17 =>
    if x17 = true then
      some (Lp.next (w64 (s4 + 1)))
    else
      some (Lp.done (Ex.ret false))
  else
    some (Lp.done (Ex.brk ()))
noncomputable def slices_EqualFunc_cell_Cell_cell_Cell_cell_Cell_cell_Cell (a0 : List cell_Cell) (a1 : List cell_Cell) (a2 : List UInt8) : Option Bool :=
  if (a0.length : Int) = (a1.length : Int) then
    bnd (loop (slices_EqualFunc_cell_Cell_cell_Cell_cell_Cell_cell_Cell.l1 a0 a1 a2) 0 : Option (Ex Unit Bool)) fun t2 => match t2 with
      | .brk u3 =>
        some true
      | .ret u3 => some u3
  else
    some false
set_option maxHeartbeats 4000000 in
theorem slices_EqualFunc_cell_Cell_cell_Cell_cell_Cell_cell_Cell_c {a0 : List cell_Cell} {a1 : List cell_Cell} {a2 : List UInt8} {b0 : Nat} {b1 : Nat} {v2 : Value} {res : Bool} (h0 : slices_EqualFunc_cell_Cell_cell_Cell_cell_Cell_cell_Cell a0 a1 a2 = some res) : CallF X 78 [.sl 5 (List.map e_cell_Cell a0), .sl 5 (List.map e_cell_Cell a1), .fn (.func 79) [] [.val (.pointer (some ⟨b0, 0, none⟩))]] [.var b0 [.val (.pointer (some ⟨b1, 0, none⟩))] 39, .var b1 [.val v2] 142, .row v2 (List.map byteD a2) 1 5] (fun x => .val (.bool res)) (fun x => [.var b0 [.val (.pointer (some ⟨b1, 0, none⟩))] 39, .var b1 [.val v2] 142, .row v2 (List.map byteD a2) 1 5]) := by
 unfold slices_EqualFunc_cell_Cell_cell_Cell_cell_Cell_cell_Cell at h0
 refine CallF.mkG (X := X) Try.func78 rfl rfl Try.ntmps78 rfl rfl ?_
 refine T.seq ?_
 refine T.region ?_
 refine TL.op1 (OpR.pure rfl) rfl ?_
 refine TL.nil ?_
 show T X _ _ _
 refine T.seq ?_
 refine T.seq ?_
 refine T.region ?_
 refine TL.op1 (OpR.pure rfl) rfl ?_
 refine TL.op1 (OpR.cast (OpR.pure rfl) (intE (lenM _ _))) rfl ?_
 refine TL.op1 (OpR.pure rfl) rfl ?_
 refine TL.op1 (OpR.cast (OpR.pure rfl) (intE (lenM _ _))) rfl ?_
 refine TL.op1 (OpR.pure rfl) rfl ?_
 refine TL.nil ?_
 show T X _ _ _
 rcases ite_some h0 with ⟨c1, h0⟩ | ⟨c1, h0⟩
 rotate_left
 · refine T.condT rfl (not_f (beq_eq_false_iff_ne.2 c1)) ?_
   refine T.seq ?_
   refine T.region ?_
   refine TL.op1 (OpR.pure rfl) rfl ?_
   refine TL.nil ?_
   show T X _ _ _
   refine T.ret ?_
   obtain rfl := Option.some.inj h0
   exact PostG.retP (ks := [0, 1, 2]) (Gst.only [6] rfl) undef (ResL.cons (ResV.tmp rfl) ResL.nil) rfl rfl rfl rfl
 refine T.condF rfl (not_t (beq_iff_eq.2 c1)) ?_
 refine T.skip ?_
 show T X _ _ _
 refine T.seq ?_
 refine T.seq ?_
 refine T.region ?_
 refine TL.op1 (OpR.pure rfl) rfl ?_
 refine TL.op1 (OpR.cast (OpR.pure rfl) (intE (lenM _ _))) rfl ?_
 refine TL.op1 (OpR.pure rfl) rfl ?_
 refine TL.nil ?_
 show T X _ _ _
 obtain ⟨t2, ht2, h0⟩ := bnd_some h0
 refine T.cutC (fun S' => ∃ u3, t2 = Ex.brk u3 ∧ S' = ⟨[(6, .val (.bool false))], [.var b0 [.val (.pointer (some ⟨b1, 0, none⟩))] 39, .var b1 [.val v2] 142, .row v2 (List.map byteD a2) 1 5], 32⟩) (fun _ h => h) ?_ ?_
 rotate_left
 · rintro _ ⟨u3, rfl, rfl⟩
   show T X _ _ _
   refine T.seq ?_
   refine T.region ?_
   refine TL.op1 (OpR.pure rfl) rfl ?_
   refine TL.nil ?_
   show T X _ _ _
   refine T.ret ?_
   obtain rfl := Option.some.inj h0
   exact PostG.retP (ks := [0, 1, 2]) (Gst.only [6] rfl) undef (ResL.cons (ResV.tmp rfl) ResL.nil) rfl rfl rfl rfl
 refine T.block ?_
 obtain ⟨n5, n10⟩ := loop_some ht2
 refine T.loop (fun n S' => ∃ S'', Gst S' S'' ∧ ∃ s4 : Int, S'' = ⟨[(17, .val (.int .i64 s4)), (16, .val (.int .i64 (a0.length : Int))), (15, .sl 5 (List.map e_cell_Cell a0)), (6, .val (.bool false)), (2, .fn (.func 79) [] [.val (.pointer (some ⟨b0, 0, none⟩))]), (1, .sl 5 (List.map e_cell_Cell a1))], [.var b0 [.val (.pointer (some ⟨b1, 0, none⟩))] 39, .var b1 [.val v2] 142, .row v2 (List.map byteD a2) 1 5], 32⟩ ∧ iter (slices_EqualFunc_cell_Cell_cell_Cell_cell_Cell_cell_Cell.l1 a0 a1 a2) n s4 = some t2) n5 ?_ ?_
 · exact ⟨_, Gst.only [1, 2, 6, 15, 16, 17] rfl, 0, rfl, n10⟩
 rintro n5 _ ⟨_, g, s4, rfl, i9⟩
 refine T.ghost g ?_
 obtain ⟨m6, q7, rfl, q8, i9⟩ := iter_succ i9
 unfold slices_EqualFunc_cell_Cell_cell_Cell_cell_Cell_cell_Cell.l1 at q8
 refine T.seq ?_
 refine T.region ?_
 refine TL.op1 (OpR.pure rfl) rfl ?_
 refine TL.nil ?_
 show T X _ _ _
 refine T.seq ?_
 rcases ite_some q8 with ⟨c12, q8⟩ | ⟨c12, q8⟩
 rotate_left
 · refine T.condF rfl (decide_eq_false c12) ?_
   refine T.exit ?_
   obtain rfl := Option.some.inj q8
   obtain rfl : _ = _ := i9
   exact ⟨_, Gst.only [6] rfl, _, rfl, rfl⟩
 refine T.condT rfl (decide_eq_true c12) ?_
 refine T.skip ?_
 show T X _ _ _
 refine T.seq ?_
 refine T.block ?_
 refine T.seq ?_
 refine T.region ?_
 refine TL.op1 (OpR.pure rfl) rfl ?_
 obtain ⟨x13, hx13, q8⟩ := bnd_some q8
 refine TL.op1 (OpR.indexM e_cell_Cell hx13 rfl rfl rfl rfl rfl) rfl ?_
 refine TL.op1 (OpR.pure rfl) rfl ?_
 refine TL.op (OpR.alloc rfl rfl (fun _ => rfl)) rfl (fun p14 => ?_)
 refine TL.op1 (OpR.pure rfl) rfl ?_
 refine TL.op0 (OpR.store 3 rfl rfl rfl rfl rfl rfl rfl rfl) ?_
 refine TL.nil ?_
 show T X _ _ _
 refine T.seq ?_
 refine T.region ?_
 refine TL.op1 (OpR.pure rfl) rfl ?_
 refine TL.op1 (OpR.pure rfl) rfl ?_
 obtain ⟨x15, hx15, q8⟩ := bnd_some q8
 refine TL.op1 (OpR.indexM e_cell_Cell hx15 rfl rfl rfl rfl rfl) rfl ?_
 refine TL.op1 (OpR.pure rfl) rfl ?_
 refine TL.op (OpR.alloc rfl rfl (fun _ => rfl)) rfl (fun p16 => ?_)
 refine TL.op0 (OpR.store 4 rfl rfl rfl rfl rfl rfl rfl rfl) ?_
 refine TL.nil ?_
 show T X _ _ _
 refine T.seq ?_
 refine T.region ?_
 refine TL.op1 (OpR.pure rfl) rfl ?_
 refine TL.op1 (OpR.loadPtr 3 rfl rfl rfl rfl) rfl ?_
 refine TL.op1 (OpR.loadPtr 4 rfl rfl rfl rfl) rfl ?_
 obtain ⟨x17, hx17, q8⟩ := bnd_some q8
 refine TL.op1 (OpR.callV [0, 1, 2] rfl fn79 (row_Same_1_c hx17) rfl rfl rfl (fun _ => rfl)) rfl ?_
 refine TL.op1 (OpR.pure rfl) rfl ?_
 refine TL.nil ?_
 show T X _ _ _
 rcases ite_some q8 with ⟨c18, q8⟩ | ⟨c18, q8⟩
 · refine T.condF rfl (not_t (c18)) ?_
   refine T.skip ?_
   show T X _ _ _
   refine T.region ?_
   refine TL.op1 (OpR.pure rfl) rfl ?_
   refine TL.op1 (OpR.pure rfl) rfl ?_
   refine TL.nil ?_
   obtain rfl := Option.some.inj q8
   exact ⟨m6, Nat.lt_succ_self _, _, Gst.trans (Gst.only [1, 2, 6, 15, 16, 17] rfl) (Gst.pick [0, 1, 2] rfl rfl), w64 (s4 + 1), rfl, i9⟩
 refine T.condT rfl (not_f (eq_false_of_ne_true c18)) ?_
 refine T.seq ?_
 refine T.region ?_
 refine TL.op1 (OpR.pure rfl) rfl ?_
 refine TL.nil ?_
 show T X _ _ _
 refine T.ret ?_
 obtain rfl := Option.some.inj q8
 obtain rfl : _ = _ := i9
 obtain rfl := Option.some.inj h0
 exact PostG.retP (ks := [0, 1, 2]) (Gst.trans (Gst.only [6] rfl) (Gst.pick [0, 1, 2] rfl rfl)) undef (ResL.cons (ResV.tmp rfl) ResL.nil) rfl rfl rfl rfl
noncomputable def row_Same (a0 : row_Row) (a1 : row_Row) (a2 : List UInt8) : Option Bool :=
  bnd (if a0.fEnd = a1.fEnd then
    some (!(a0.fHidden == a1.fHidden))
  else
    some true : Option Bool) fun t2 =>
  if t2 = true then
    some false
  else
    bnd (slices_EqualFunc_cell_Cell_cell_Cell_cell_Cell_cell_Cell a0.fCells a1.fCells a2) fun x5 =>
    some x5
set_option maxHeartbeats 4000000 in
theorem row_Same_c {a0 : row_Row} {a1 : row_Row} {a2 : List UInt8} {b0 : Nat} {v1 : Value} {res : Bool} (h0 : row_Same a0 a1 a2 = some res) : CallF X 39 [.val (.pointer (some ⟨b0, 0, none⟩)), .agg [.sl 5 (List.map e_cell_Cell a0.fCells), .val (.int .i64 a0.fEnd), .val (.bool a0.fHidden)], .agg [.sl 5 (List.map e_cell_Cell a1.fCells), .val (.int .i64 a1.fEnd), .val (.bool a1.fHidden)]] [.var b0 [.val v1] 142, .row v1 (List.map byteD a2) 1 5] (fun x => .val (.bool res)) (fun x => [.var b0 [.val v1] 142, .row v1 (List.map byteD a2) 1 5]) := by
 unfold row_Same at h0
 refine CallF.mkG (X := X) Try.func39 rfl rfl Try.ntmps39 rfl rfl ?_
 refine T.seq ?_
 refine T.region ?_
 refine TL.op (OpR.boxVar rfl rfl (fun _ => rfl)) rfl (fun p1 => ?_)
 refine TL.op1 (OpR.boxImm rfl rfl) rfl ?_
 refine TL.op1 (OpR.boxImm rfl rfl) rfl ?_
 refine TL.op1 (OpR.pure rfl) rfl ?_
 refine TL.nil ?_
 show T X _ _ _
 refine T.seq ?_
 refine T.seq ?_
 obtain ⟨t2, ht2, h0⟩ := bnd_some h0
 refine T.cutC (fun S' => S' = ⟨[(18, .val (.bool t2)), (6, .val (.bool false)), (5, .nod [.sl 5 (List.map e_cell_Cell a1.fCells), .val (.int .i64 a1.fEnd), .val (.bool a1.fHidden)]), (4, .nod [.sl 5 (List.map e_cell_Cell a0.fCells), .val (.int .i64 a0.fEnd), .val (.bool a0.fHidden)]), (3, .val (.pointer (some ⟨(blk p1), 0, none⟩)))], [.var b0 [.val v1] 142, .row v1 (List.map byteD a2) 1 5, .var (blk p1) [.val (.pointer (some ⟨b0, 0, none⟩))] 39], 25⟩) (fun _ h => h) ?_ ?_
 rotate_left
 · rintro _ rfl
   show T X _ _ _
   rcases ite_some h0 with ⟨c4, h0⟩ | ⟨c4, h0⟩
   · refine T.condT rfl (c4) ?_
     refine T.seq ?_
     refine T.region ?_
     refine TL.op1 (OpR.pure rfl) rfl ?_
     refine TL.nil ?_
     show T X _ _ _
     refine T.ret ?_
     obtain rfl := Option.some.inj h0
     exact PostG.retP (ks := [0, 1]) (Gst.trans (Gst.only [6] rfl) (Gst.pick [0, 1] rfl rfl)) undef (ResL.cons (ResV.tmp rfl) ResL.nil) rfl rfl rfl rfl
   refine T.condF rfl (eq_false_of_ne_true c4) ?_
   refine T.skip ?_
   show T X _ _ _
   refine T.seq ?_
   refine T.region ?_
   refine TL.op1 (OpR.pure rfl) rfl ?_
   refine TL.op1 (OpR.pure rfl) rfl ?_
   refine TL.op1 (OpR.pure rfl) rfl ?_
   refine TL.op1 (OpR.pure rfl) rfl ?_
   refine TL.op1 (OpR.pure rfl) rfl ?_
   obtain ⟨x5, hx5, h0⟩ := bnd_some h0
   refine TL.op1 (OpR.call [2, 0, 1] fn78 (slices_EqualFunc_cell_Cell_cell_Cell_cell_Cell_cell_Cell_c hx5) rfl rfl rfl (fun _ => rfl)) rfl ?_
   refine TL.op1 (OpR.pure rfl) rfl ?_
   refine TL.nil ?_
   show T X _ _ _
   refine T.ret ?_
   obtain rfl := Option.some.inj h0
   exact PostG.retP (ks := [0, 1]) (Gst.trans (Gst.only [6] rfl) (Gst.pick [0, 1] rfl rfl)) undef (ResL.cons (ResV.tmp rfl) ResL.nil) rfl rfl rfl rfl
 refine T.region ?_
 refine TL.op1 (OpR.pure rfl) rfl ?_
 refine TL.op1 (OpR.pure rfl) rfl ?_
 refine TL.op1 (OpR.pure rfl) rfl ?_
 refine TL.op1 (OpR.pure rfl) rfl ?_
 refine TL.op1 (OpR.pure rfl) rfl ?_
 refine TL.op1 (OpR.pure rfl) rfl ?_
 rcases ite_some ht2 with ⟨c3, ht2⟩ | ⟨c3, ht2⟩
 rotate_left
 · refine TL.off rfl rfl rfl rfl (not_f (beq_eq_false_iff_ne.2 c3)) rfl rfl ?_
   refine TL.off rfl rfl rfl rfl (not_f (beq_eq_false_iff_ne.2 c3)) rfl rfl ?_
   refine TL.off rfl rfl rfl rfl (not_f (beq_eq_false_iff_ne.2 c3)) rfl rfl ?_
   refine TL.off rfl rfl rfl rfl (not_f (beq_eq_false_iff_ne.2 c3)) rfl rfl ?_
   refine TL.off rfl rfl rfl rfl (not_f (beq_eq_false_iff_ne.2 c3)) rfl rfl ?_
   refine TL.op1 (OpR.pickT rfl (not_f (beq_eq_false_iff_ne.2 c3)) rfl) rfl ?_
   refine TL.nil ?_
   obtain rfl := Option.some.inj ht2
   exact ⟨_, Gst.only [3, 4, 5, 6, 18] rfl, rfl⟩
 refine TL.on rfl rfl rfl rfl (not_t (beq_iff_eq.2 c3)) ?_
 refine TL.op1 (OpR.pure rfl) rfl ?_
 refine TL.on rfl rfl rfl rfl (not_t (beq_iff_eq.2 c3)) ?_
 refine TL.op1 (OpR.pure rfl) rfl ?_
 refine TL.on rfl rfl rfl rfl (not_t (beq_iff_eq.2 c3)) ?_
 refine TL.op1 (OpR.pure rfl) rfl ?_
 refine TL.on rfl rfl rfl rfl (not_t (beq_iff_eq.2 c3)) ?_
 refine TL.op1 (OpR.pure rfl) rfl ?_
 refine TL.on rfl rfl rfl rfl (not_t (beq_iff_eq.2 c3)) ?_
 refine TL.op1 (OpR.neBool rfl rfl rfl rfl) rfl ?_
 refine TL.op1 (OpR.pickF rfl (not_t (beq_iff_eq.2 c3)) rfl) rfl ?_
 refine TL.nil ?_
 obtain rfl := Option.some.inj ht2
 exact ⟨_, Gst.only [3, 4, 5, 6, 18] rfl, rfl⟩
end Go.Proofs.Ytbcbggdgkdfciaa.S
