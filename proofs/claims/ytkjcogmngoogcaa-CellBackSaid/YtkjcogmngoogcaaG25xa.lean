/- Printed by a program of this session's own (gen.py): Lean functions for Go functions, and the proofs that the Go code comes to their answers. -/
import Derived.Test.YtkjcogmngoogcaaG21xa
import Derived.Test.YtkjcogmngoogcaaG17xa
import Derived.Test.YtkjcogmngoogcaaG19xa
import Derived.Test.YtkjcogmngoogcaaG24xa
import Derived.Test.YtkjcogmngoogcaaG22xa
import Derived.Test.YtkjcogmngoogcaaG2xa
set_option linter.unusedVariables false
set_option linter.unusedSimpArgs false
namespace Go.Proofs.Ytkjcogmngoogcaa.S
open Go Go.Sm
attribute [local irreducible] T TL OpR CallT iter loop
noncomputable def law07_CellPuts (a0 : List UInt8) (a1 : List UInt8) (a2 : Int) : Option Bool :=
  bnd (law07_cut a0 300) fun x1 =>
  bnd (law07_cut a1 600) fun x2 =>
  bnd (arena_New x1) fun x3 =>
  match x3 with
  | .inl x3 =>
      some false
  | .inr x3 =>
      bnd (mkz 1 (rem (w64 a2) 16399) (0 : UInt8)) fun x5 =>
      bnd (arena_Arena_Add x5 x3.2) fun x7 =>
      bnd (arena_Arena_Len x7.2.2) fun x9 =>
      bnd (cell_Put x2 x7.2.2) fun x10 =>
      if (x2.length : Int) > 400 then
        bnd (if x10.2.1 = 7 then
          bnd (cell_Cell_Empty x10.1) fun x16 =>
          if x16 = true then
            bnd (arena_Arena_Len x10.2.2) fun x18 =>
            if x18 = x9 then
              bnd (law07_awake) fun x20 =>
              some x20
            else
              some false
          else
            some false
        else
          some false : Option Bool) fun t14 =>
        some t14
      else
        if x10.2.1 = 0 then
          bnd (bnd (law07_Plain_2 x10.1 x10.2.2) fun x24 =>
          if x24 = (⟨x2, [], false⟩ : ref07_Cell) then
            bnd (cell_Cell_Print x10.1 x10.2.2) fun x26 =>
            bnd (ref06_Put x2) fun x27 =>
            if x26 = x27 then
              bnd (law07_awake) fun x29 =>
              some x29
            else
              some false
          else
            some false : Option Bool) fun t22 =>
          some t22
        else
          bnd (if x10.2.1 = 6 then
            if (w64 (x9 + (x2.length : Int))) > 16384 then
              bnd (arena_Arena_Len x10.2.2) fun x33 =>
              if x33 = x9 then
                bnd (law07_awake) fun x35 =>
                some x35
              else
                some false
            else
              some false
          else
            some false : Option Bool) fun t30 =>
          some t30
set_option maxHeartbeats 4000000 in
theorem law07_CellPuts_c {a0 : List UInt8} {a1 : List UInt8} {a2 : Int} {res : Bool} (h0 : law07_CellPuts a0 a1 a2 = some res) : CallF X 11 [.val (.string (bs a0)), .val (.string (bs a1)), .val (.int .u16 a2)] [] (fun x => .val (.bool res)) (fun x => []) := by
 unfold law07_CellPuts at h0
 refine CallF.mkG (X := X) Try.func11 rfl rfl Try.ntmps11 rfl rfl ?_
 refine T.seq ?_
 refine T.region ?_
 refine TL.op1 (OpR.pure rfl) rfl ?_
 refine TL.nil ?_
 show T X _ _ _
 refine T.seq ?_
 refine T.region ?_
 refine TL.op1 (OpR.pure rfl) rfl ?_
 obtain ⟨x1, hx1, h0⟩ := bnd_some h0
 refine TL.op1 (OpR.call0 fn42 (law07_cut_c hx1) rfl) rfl ?_
 refine TL.op1 (OpR.pure rfl) rfl ?_
 obtain ⟨x2, hx2, h0⟩ := bnd_some h0
 refine TL.op1 (OpR.call0 fn42 (law07_cut_c hx2) rfl) rfl ?_
 refine TL.op1 (OpR.pure rfl) rfl ?_
 refine TL.op1 (OpR.pure rfl) rfl ?_
 refine TL.nil ?_
 show T X _ _ _
 refine T.seq ?_
 refine T.region ?_
 refine TL.op1 (OpR.pure rfl) rfl ?_
 refine TL.op1 (OpR.toBytesM rfl rfl rfl rfl rfl rfl rfl) rfl ?_
 obtain ⟨x3, hx3, h0⟩ := bnd_some h0
 rcases x3 with x3 | x3
 · dsimp only at h0
   refine TL.op1 (OpR.call0 fn43 (arena_New_cx1 hx3) rfl) rfl ?_
   refine TL.op1 (OpR.pure rfl) rfl ?_
   refine TL.op1 (OpR.pure rfl) rfl ?_
   refine TL.op1 (OpR.pure rfl) rfl ?_
   refine TL.op1 (OpR.pure rfl) rfl ?_
   refine TL.op1 (OpR.pure rfl) rfl ?_
   refine TL.nil ?_
   show T X _ _ _
   refine T.seq ?_
   refine T.seq ?_
   refine T.region ?_
   refine TL.op1 (OpR.pure rfl) rfl ?_
   refine TL.op1 (OpR.ptrNil rfl rfl rfl) rfl ?_
   refine TL.nil ?_
   show T X _ _ _
   refine T.condT rfl rfl ?_
   refine T.seq ?_
   refine T.region ?_
   refine TL.op1 (OpR.pure rfl) rfl ?_
   refine TL.nil ?_
   show T X _ _ _
   refine T.ret ?_
   obtain rfl := Option.some.inj h0
   exact PostG.retP (ks := []) (Gst.only [6] rfl) undef (ResL.cons (ResV.tmp rfl) ResL.nil) rfl rfl rfl rfl
 dsimp only at h0
 refine TL.op (OpR.call [] fn43 (arena_New_cx2 hx3) rfl rfl rfl (fun _ => rfl)) rfl (fun w4 => ?_)
 refine TL.op1 (OpR.pure rfl) rfl ?_
 refine TL.op1 (OpR.pure rfl) rfl ?_
 refine TL.op1 (OpR.pure rfl) rfl ?_
 refine TL.op1 (OpR.pure rfl) rfl ?_
 refine TL.op1 (OpR.pure rfl) rfl ?_
 refine TL.nil ?_
 show T X _ _ _
 refine T.seq ?_
 refine T.seq ?_
 refine T.region ?_
 refine TL.op1 (OpR.pure rfl) rfl ?_
 refine TL.op1 (OpR.ptrNil rfl rfl rfl) rfl ?_
 refine TL.nil ?_
 show T X _ _ _
 refine T.condF rfl rfl ?_
 refine T.skip ?_
 show T X _ _ _
 refine T.seq ?_
 refine T.region ?_
 refine TL.op1 (OpR.pure rfl) rfl ?_
 refine TL.op1 (OpR.pure rfl) rfl ?_
 refine TL.op1 (OpR.pure rfl) rfl ?_
 refine TL.op1 (OpR.pure rfl) rfl ?_
 obtain ⟨x5, hx5, h0⟩ := bnd_some h0
 refine TL.op (OpR.makeM byteD hx5 rfl rfl rfl rfl rfl rfl rfl rfl rfl rfl rfl (fun _ => rfl)) rfl (fun v6 => ?_)
 obtain ⟨x7, hx7, h0⟩ := bnd_some h0
 refine TL.op (OpR.call [0, 2, 1] fn32 (arena_Arena_Add_c hx7) rfl rfl rfl (fun _ => rfl)) rfl (fun w8 => ?_)
 refine TL.nil ?_
 show T X _ _ _
 refine T.seq ?_
 refine T.region ?_
 refine TL.op1 (OpR.pure rfl) rfl ?_
 obtain ⟨x9, hx9, h0⟩ := bnd_some h0
 refine TL.op1 (OpR.call [0, 1] fn33 (arena_Arena_Len_c hx9) rfl rfl rfl (fun _ => rfl)) rfl ?_
 refine TL.op1 (OpR.pure rfl) rfl ?_
 refine TL.nil ?_
 show T X _ _ _
 refine T.seq ?_
 refine T.region ?_
 refine TL.op1 (OpR.pure rfl) rfl ?_
 refine TL.op1 (OpR.pure rfl) rfl ?_
 refine TL.op1 (OpR.toBytesM rfl rfl rfl rfl rfl rfl rfl) rfl ?_
 obtain ⟨x10, hx10, h0⟩ := bnd_some h0
 refine TL.op (OpR.call [0, 1] fn53 (cell_Put_c hx10) rfl rfl rfl (fun _ => rfl)) rfl (fun w11 => ?_)
 refine TL.op1 (OpR.pure rfl) rfl ?_
 refine TL.op1 (OpR.pure rfl) rfl ?_
 refine TL.op1 (OpR.pure rfl) rfl ?_
 refine TL.op (OpR.alloc rfl rfl (fun _ => rfl)) rfl (fun p12 => ?_)
 refine TL.op0 (OpR.store 3 rfl rfl rfl rfl rfl rfl rfl rfl) ?_
 refine TL.op1 (OpR.pure rfl) rfl ?_
 refine TL.nil ?_
 show T X _ _ _
 refine T.seq ?_
 refine T.seq ?_
 refine T.region ?_
 refine TL.op1 (OpR.pure rfl) rfl ?_
 refine TL.op1 (OpR.cast (OpR.pure rfl) (intE (lenS _))) rfl ?_
 refine TL.op1 (OpR.pure rfl) rfl ?_
 refine TL.nil ?_
 show T X _ _ _
 rcases ite_some h0 with ⟨c13, h0⟩ | ⟨c13, h0⟩
 · refine T.condT rfl (decide_eq_true c13) ?_
   refine T.seq ?_
   obtain ⟨t14, ht14, h0⟩ := bnd_some h0
   refine T.cutC (fun S' => S' = ⟨[(11, .val (.int .i64 x10.2.1)), (10, .val (.pointer (some ⟨(blk p12), 0, none⟩))), (9, .val (.int .i64 x9)), (7, .val (.pointer (some ⟨(blk (vn w4 0)), 0, none⟩))), (6, .val (.bool t14)), (1, .val (.string (bs x2)))], [.var (blk (vn w4 0)) [.val (vn w11 0)] 127, .var (blk p12) [.sl 2 (List.map e_arena_Span x10.1.fText.fL), .val (.int .i64 x10.1.fText.fN), .val (.int .i64 x10.1.fRaw.fAt), .val (.int .i64 x10.1.fRaw.fN), .val (.bool x10.1.fKept)] 83, .row (vn w11 0) (List.map byteD x10.2.2) 1 5], 95⟩) (fun _ h => h) ?_ ?_
   rotate_left
   · rintro _ rfl
     show T X _ _ _
     refine T.ret ?_
     obtain rfl := Option.some.inj h0
     exact PostG.retP (ks := []) (Gst.trans (Gst.only [6] rfl) (Gst.pick [] rfl rfl)) undef (ResL.cons (ResV.tmp rfl) ResL.nil) rfl rfl rfl rfl
   refine T.region ?_
   refine TL.op1 (OpR.pure rfl) rfl ?_
   refine TL.op1 (OpR.pure rfl) rfl ?_
   refine TL.op1 (OpR.pure rfl) rfl ?_
   rcases ite_some ht14 with ⟨c15, ht14⟩ | ⟨c15, ht14⟩
   rotate_left
   · refine TL.off rfl rfl rfl rfl (beq_eq_false_iff_ne.2 c15) rfl rfl ?_
     refine TL.off rfl rfl rfl rfl (beq_eq_false_iff_ne.2 c15) rfl rfl ?_
     refine TL.op1 (OpR.pickF rfl (beq_eq_false_iff_ne.2 c15) rfl) rfl ?_
     refine TL.op1 (OpR.pure rfl) rfl ?_
     refine TL.off rfl rfl rfl rfl rfl rfl rfl ?_
     refine TL.off rfl rfl rfl rfl rfl rfl rfl ?_
     refine TL.off rfl rfl rfl rfl rfl rfl rfl ?_
     refine TL.off rfl rfl rfl rfl rfl rfl rfl ?_
     refine TL.op1 (OpR.pickF rfl rfl rfl) rfl ?_
     refine TL.op1 (OpR.pure rfl) rfl ?_
     refine TL.off rfl rfl rfl rfl rfl rfl rfl ?_
     refine TL.op1 (OpR.pickF rfl rfl rfl) rfl ?_
     refine TL.op1 (OpR.pure rfl) rfl ?_
     refine TL.nil ?_
     obtain rfl := Option.some.inj ht14
     exact ⟨_, Gst.trans (Gst.only [1, 6, 7, 9, 10, 11] rfl) (Gst.pick [0, 3, 1] rfl rfl), rfl⟩
   refine TL.on rfl rfl rfl rfl (beq_iff_eq.2 c15) ?_
   refine TL.op1 (OpR.loadPtr 3 rfl rfl rfl rfl) rfl ?_
   refine TL.on rfl rfl rfl rfl (beq_iff_eq.2 c15) ?_
   obtain ⟨x16, hx16, ht14⟩ := bnd_some ht14
   refine TL.op1 (OpR.call0 fn52 (cell_Cell_Empty_c hx16) rfl) rfl ?_
   refine TL.op1 (OpR.pickT rfl (beq_iff_eq.2 c15) rfl) rfl ?_
   refine TL.op1 (OpR.pure rfl) rfl ?_
   rcases ite_some ht14 with ⟨c17, ht14⟩ | ⟨c17, ht14⟩
   rotate_left
   · refine TL.off rfl rfl rfl rfl (eq_false_of_ne_true c17) rfl rfl ?_
     refine TL.off rfl rfl rfl rfl (eq_false_of_ne_true c17) rfl rfl ?_
     refine TL.off rfl rfl rfl rfl (eq_false_of_ne_true c17) rfl rfl ?_
     refine TL.off rfl rfl rfl rfl (eq_false_of_ne_true c17) rfl rfl ?_
     refine TL.op1 (OpR.pickF rfl (eq_false_of_ne_true c17) rfl) rfl ?_
     refine TL.op1 (OpR.pure rfl) rfl ?_
     refine TL.off rfl rfl rfl rfl rfl rfl rfl ?_
     refine TL.op1 (OpR.pickF rfl rfl rfl) rfl ?_
     refine TL.op1 (OpR.pure rfl) rfl ?_
     refine TL.nil ?_
     obtain rfl := Option.some.inj ht14
     exact ⟨_, Gst.trans (Gst.only [1, 6, 7, 9, 10, 11] rfl) (Gst.pick [0, 3, 1] rfl rfl), rfl⟩
   refine TL.on rfl rfl rfl rfl (c17) ?_
   refine TL.op1 (OpR.pure rfl) rfl ?_
   refine TL.on rfl rfl rfl rfl (c17) ?_
   obtain ⟨x18, hx18, ht14⟩ := bnd_some ht14
   refine TL.op1 (OpR.call [0, 1] fn33 (arena_Arena_Len_c hx18) rfl rfl rfl (fun _ => rfl)) rfl ?_
   refine TL.on rfl rfl rfl rfl (c17) ?_
   refine TL.op1 (OpR.pure rfl) rfl ?_
   refine TL.on rfl rfl rfl rfl (c17) ?_
   refine TL.op1 (OpR.pure rfl) rfl ?_
   refine TL.op1 (OpR.pickT rfl (c17) rfl) rfl ?_
   refine TL.op1 (OpR.pure rfl) rfl ?_
   rcases ite_some ht14 with ⟨c19, ht14⟩ | ⟨c19, ht14⟩
   rotate_left
   · refine TL.off rfl rfl rfl rfl (beq_eq_false_iff_ne.2 c19) rfl rfl ?_
     refine TL.op1 (OpR.pickF rfl (beq_eq_false_iff_ne.2 c19) rfl) rfl ?_
     refine TL.op1 (OpR.pure rfl) rfl ?_
     refine TL.nil ?_
     obtain rfl := Option.some.inj ht14
     exact ⟨_, Gst.trans (Gst.only [1, 6, 7, 9, 10, 11] rfl) (Gst.pick [0, 3, 1] rfl rfl), rfl⟩
   refine TL.on rfl rfl rfl rfl (beq_iff_eq.2 c19) ?_
   obtain ⟨x20, hx20, ht14⟩ := bnd_some ht14
   refine TL.op1 (OpR.call0 fn45 (law07_awake_c hx20) rfl) rfl ?_
   refine TL.op1 (OpR.pickT rfl (beq_iff_eq.2 c19) rfl) rfl ?_
   refine TL.op1 (OpR.pure rfl) rfl ?_
   refine TL.nil ?_
   obtain rfl := Option.some.inj ht14
   exact ⟨_, Gst.trans (Gst.only [1, 6, 7, 9, 10, 11] rfl) (Gst.pick [0, 3, 1] rfl rfl), rfl⟩
 refine T.condF rfl (decide_eq_false c13) ?_
 refine T.skip ?_
 show T X _ _ _
 refine T.seq ?_
 refine T.seq ?_
 refine T.region ?_
 refine TL.op1 (OpR.pure rfl) rfl ?_
 refine TL.op1 (OpR.pure rfl) rfl ?_
 refine TL.nil ?_
 show T X _ _ _
 rcases ite_some h0 with ⟨c21, h0⟩ | ⟨c21, h0⟩
 rotate_left
 · refine T.condT rfl (not_f (beq_eq_false_iff_ne.2 c21)) ?_
   refine T.seq ?_
   obtain ⟨t30, ht30, h0⟩ := bnd_some h0
   refine T.cutC (fun S' => S' = ⟨[(10, .val (.pointer (some ⟨(blk p12), 0, none⟩))), (7, .val (.pointer (some ⟨(blk (vn w4 0)), 0, none⟩))), (6, .val (.bool t30)), (1, .val (.string (bs x2)))], [.var (blk (vn w4 0)) [.val (vn w11 0)] 127, .var (blk p12) [.sl 2 (List.map e_arena_Span x10.1.fText.fL), .val (.int .i64 x10.1.fText.fN), .val (.int .i64 x10.1.fRaw.fAt), .val (.int .i64 x10.1.fRaw.fN), .val (.bool x10.1.fKept)] 83, .row (vn w11 0) (List.map byteD x10.2.2) 1 5], 95⟩) (fun _ h => h) ?_ ?_
   rotate_left
   · rintro _ rfl
     show T X _ _ _
     refine T.ret ?_
     obtain rfl := Option.some.inj h0
     exact PostG.retP (ks := []) (Gst.trans (Gst.only [6] rfl) (Gst.pick [] rfl rfl)) undef (ResL.cons (ResV.tmp rfl) ResL.nil) rfl rfl rfl rfl
   refine T.region ?_
   refine TL.op1 (OpR.pure rfl) rfl ?_
   refine TL.op1 (OpR.pure rfl) rfl ?_
   refine TL.op1 (OpR.pure rfl) rfl ?_
   rcases ite_some ht30 with ⟨c31, ht30⟩ | ⟨c31, ht30⟩
   rotate_left
   · refine TL.off rfl rfl rfl rfl (beq_eq_false_iff_ne.2 c31) rfl rfl ?_
     refine TL.off rfl rfl rfl rfl (beq_eq_false_iff_ne.2 c31) rfl rfl ?_
     refine TL.off rfl rfl rfl rfl (beq_eq_false_iff_ne.2 c31) rfl rfl ?_
     refine TL.off rfl rfl rfl rfl (beq_eq_false_iff_ne.2 c31) rfl rfl ?_
     refine TL.off rfl rfl rfl rfl (beq_eq_false_iff_ne.2 c31) rfl rfl ?_
     refine TL.op1 (OpR.pickF rfl (beq_eq_false_iff_ne.2 c31) rfl) rfl ?_
     refine TL.op1 (OpR.pure rfl) rfl ?_
     refine TL.off rfl rfl rfl rfl rfl rfl rfl ?_
     refine TL.off rfl rfl rfl rfl rfl rfl rfl ?_
     refine TL.off rfl rfl rfl rfl rfl rfl rfl ?_
     refine TL.off rfl rfl rfl rfl rfl rfl rfl ?_
     refine TL.op1 (OpR.pickF rfl rfl rfl) rfl ?_
     refine TL.op1 (OpR.pure rfl) rfl ?_
     refine TL.off rfl rfl rfl rfl rfl rfl rfl ?_
     refine TL.op1 (OpR.pickF rfl rfl rfl) rfl ?_
     refine TL.op1 (OpR.pure rfl) rfl ?_
     refine TL.nil ?_
     obtain rfl := Option.some.inj ht30
     exact ⟨_, Gst.trans (Gst.only [1, 6, 7, 10] rfl) (Gst.pick [0, 3, 1] rfl rfl), rfl⟩
   refine TL.on rfl rfl rfl rfl (beq_iff_eq.2 c31) ?_
   refine TL.op1 (OpR.pure rfl) rfl ?_
   refine TL.on rfl rfl rfl rfl (beq_iff_eq.2 c31) ?_
   refine TL.op1 (OpR.pure rfl) rfl ?_
   refine TL.on rfl rfl rfl rfl (beq_iff_eq.2 c31) ?_
   refine TL.op1 (OpR.cast (OpR.pure rfl) (intE (lenS _))) rfl ?_
   refine TL.on rfl rfl rfl rfl (beq_iff_eq.2 c31) ?_
   refine TL.op1 (OpR.pure rfl) rfl ?_
   refine TL.on rfl rfl rfl rfl (beq_iff_eq.2 c31) ?_
   refine TL.op1 (OpR.pure rfl) rfl ?_
   refine TL.op1 (OpR.pickT rfl (beq_iff_eq.2 c31) rfl) rfl ?_
   refine TL.op1 (OpR.pure rfl) rfl ?_
   rcases ite_some ht30 with ⟨c32, ht30⟩ | ⟨c32, ht30⟩
   rotate_left
   · refine TL.off rfl rfl rfl rfl (decide_eq_false c32) rfl rfl ?_
     refine TL.off rfl rfl rfl rfl (decide_eq_false c32) rfl rfl ?_
     refine TL.off rfl rfl rfl rfl (decide_eq_false c32) rfl rfl ?_
     refine TL.off rfl rfl rfl rfl (decide_eq_false c32) rfl rfl ?_
     refine TL.op1 (OpR.pickF rfl (decide_eq_false c32) rfl) rfl ?_
     refine TL.op1 (OpR.pure rfl) rfl ?_
     refine TL.off rfl rfl rfl rfl rfl rfl rfl ?_
     refine TL.op1 (OpR.pickF rfl rfl rfl) rfl ?_
     refine TL.op1 (OpR.pure rfl) rfl ?_
     refine TL.nil ?_
     obtain rfl := Option.some.inj ht30
     exact ⟨_, Gst.trans (Gst.only [1, 6, 7, 10] rfl) (Gst.pick [0, 3, 1] rfl rfl), rfl⟩
   refine TL.on rfl rfl rfl rfl (decide_eq_true c32) ?_
   refine TL.op1 (OpR.pure rfl) rfl ?_
   refine TL.on rfl rfl rfl rfl (decide_eq_true c32) ?_
   obtain ⟨x33, hx33, ht30⟩ := bnd_some ht30
   refine TL.op1 (OpR.call [0, 1] fn33 (arena_Arena_Len_c hx33) rfl rfl rfl (fun _ => rfl)) rfl ?_
   refine TL.on rfl rfl rfl rfl (decide_eq_true c32) ?_
   refine TL.op1 (OpR.pure rfl) rfl ?_
   refine TL.on rfl rfl rfl rfl (decide_eq_true c32) ?_
   refine TL.op1 (OpR.pure rfl) rfl ?_
   refine TL.op1 (OpR.pickT rfl (decide_eq_true c32) rfl) rfl ?_
   refine TL.op1 (OpR.pure rfl) rfl ?_
   rcases ite_some ht30 with ⟨c34, ht30⟩ | ⟨c34, ht30⟩
   rotate_left
   · refine TL.off rfl rfl rfl rfl (beq_eq_false_iff_ne.2 c34) rfl rfl ?_
     refine TL.op1 (OpR.pickF rfl (beq_eq_false_iff_ne.2 c34) rfl) rfl ?_
     refine TL.op1 (OpR.pure rfl) rfl ?_
     refine TL.nil ?_
     obtain rfl := Option.some.inj ht30
     exact ⟨_, Gst.trans (Gst.only [1, 6, 7, 10] rfl) (Gst.pick [0, 3, 1] rfl rfl), rfl⟩
   refine TL.on rfl rfl rfl rfl (beq_iff_eq.2 c34) ?_
   obtain ⟨x35, hx35, ht30⟩ := bnd_some ht30
   refine TL.op1 (OpR.call0 fn45 (law07_awake_c hx35) rfl) rfl ?_
   refine TL.op1 (OpR.pickT rfl (beq_iff_eq.2 c34) rfl) rfl ?_
   refine TL.op1 (OpR.pure rfl) rfl ?_
   refine TL.nil ?_
   obtain rfl := Option.some.inj ht30
   exact ⟨_, Gst.trans (Gst.only [1, 6, 7, 10] rfl) (Gst.pick [0, 3, 1] rfl rfl), rfl⟩
 refine T.condF rfl (not_t (beq_iff_eq.2 c21)) ?_
 refine T.skip ?_
 show T X _ _ _
 refine T.seq ?_
 obtain ⟨t22, ht22, h0⟩ := bnd_some h0
 refine T.cutC (fun S' => S' = ⟨[(6, .val (.bool t22))], [], 95⟩) (fun _ h => h) ?_ ?_
 rotate_left
 · rintro _ rfl
   show T X _ _ _
   refine T.ret ?_
   obtain rfl := Option.some.inj h0
   exact PostG.retP (ks := []) (Gst.only [6] rfl) undef (ResL.cons (ResV.tmp rfl) ResL.nil) rfl rfl rfl rfl
 obtain ⟨x24, hx24, ht22⟩ := bnd_some ht22
 rcases ite_some ht22 with ⟨c25, ht22⟩ | ⟨c25, ht22⟩
 rotate_left
 · refine T.drawQ drawsX [.val (.pointer (some ⟨(blk (vn w4 0)), 0, none⟩)), .agg [.sl 2 (List.map e_arena_Span x10.1.fText.fL), .val (.int .i64 x10.1.fText.fN), .val (.int .i64 x10.1.fRaw.fAt), .val (.int .i64 x10.1.fRaw.fN), .val (.bool x10.1.fKept)], .agg [.val (.string (bs x24.fS)), .val (.string (bs x24.fRaw)), .val (.bool x24.fKept)], .val (.string (bs x2)), .agg [.val (.string (bs x2)), .val (.string (bs [])), .val (.bool false)], .val (.bool (x24 == (⟨x2, [], false⟩ : ref07_Cell))), .val (.bool (x24 == (⟨x2, [], false⟩ : ref07_Cell))), .tup [], .tup [], .tup [], .tup [], .tup [], .tup [], .tup [], .val (.bool false), .val (.bool false), .tup [], .val (.bool false), .val (.bool false)] [0, 1, 2, 6, 7, 8, 9, 10, 11, 12, 13, 14, 15, 16, 17, 18, 19, 20, 21, 22, 23, 24, 25, 26, 27, 28, 29, 30, 31, 32, 33, 34, 35, 36, 37, 38, 39, 40, 41, 57, 58, 77, 78, 79, 80, 81, 82, 83, 84, 85, 86, 87, 88, 89, 90, 91, 92, 93, 94] (by decide +kernel) rfl ?_ rfl ?_
   rotate_left
   · obtain rfl := Option.some.inj ht22
     exact ⟨_, Gst.trans (Gst.only [6] rfl) (Gst.pick [] rfl rfl), rfl⟩
   refine OpsQ.yes (Want.plain rfl) rfl (OpR.pure rfl) ?_
   refine OpsQ.yes (Want.plain rfl) rfl (OpR.loadPtr 3 rfl rfl rfl rfl) ?_
   refine OpsQ.yes (Want.plain rfl) rfl (OpR.call [0, 1] fn47 (law07_Plain_2_c hx24) rfl rfl rfl (fun _ => rfl)) ?_
   refine OpsQ.yes (Want.plain rfl) rfl (OpR.pure rfl) ?_
   refine OpsQ.yes (Want.plain rfl) rfl (OpR.build rfl rfl rfl rfl rfl) ?_
   refine OpsQ.yes (Want.plain rfl) rfl (OpR.cast (OpR.eqStruct rfl rfl rfl rfl rfl (by kernel_rfl) (by kernel_rfl)) (boolE (beq_ref07_Cell x24 (⟨x2, [], false⟩ : ref07_Cell)))) ?_
   refine OpsQ.yes (Want.plain rfl) rfl (OpR.pure rfl) ?_
   refine OpsQ.no (Want.bool rfl rfl rfl rfl (by rw [(beq_eq_false_iff_ne.2 c25)]; rfl)) rfl ?_
   refine OpsQ.no (Want.bool rfl rfl rfl rfl (by rw [(beq_eq_false_iff_ne.2 c25)]; rfl)) rfl ?_
   refine OpsQ.no (Want.bool rfl rfl rfl rfl (by rw [(beq_eq_false_iff_ne.2 c25)]; rfl)) rfl ?_
   refine OpsQ.no (Want.bool rfl rfl rfl rfl (by rw [(beq_eq_false_iff_ne.2 c25)]; rfl)) rfl ?_
   refine OpsQ.no (Want.bool rfl rfl rfl rfl (by rw [(beq_eq_false_iff_ne.2 c25)]; rfl)) rfl ?_
   refine OpsQ.no (Want.bool rfl rfl rfl rfl (by rw [(beq_eq_false_iff_ne.2 c25)]; rfl)) rfl ?_
   refine OpsQ.no (Want.bool rfl rfl rfl rfl (by rw [(beq_eq_false_iff_ne.2 c25)]; rfl)) rfl ?_
   refine OpsQ.yes (Want.plain rfl) rfl (OpR.pickF rfl (beq_eq_false_iff_ne.2 c25) rfl) ?_
   refine OpsQ.yes (Want.plain rfl) rfl (OpR.pure rfl) ?_
   refine OpsQ.no (Want.bool rfl rfl rfl rfl rfl) rfl ?_
   refine OpsQ.yes (Want.plain rfl) rfl (OpR.pickF rfl rfl rfl) ?_
   refine OpsQ.yes (Want.plain rfl) rfl (OpR.pure rfl) ?_
   exact OpsQ.nil
 obtain ⟨x26, hx26, ht22⟩ := bnd_some ht22
 obtain ⟨x27, hx27, ht22⟩ := bnd_some ht22
 rcases ite_some ht22 with ⟨c28, ht22⟩ | ⟨c28, ht22⟩
 rotate_left
 · refine T.drawQ drawsX [.val (.pointer (some ⟨(blk (vn w4 0)), 0, none⟩)), .agg [.sl 2 (List.map e_arena_Span x10.1.fText.fL), .val (.int .i64 x10.1.fText.fN), .val (.int .i64 x10.1.fRaw.fAt), .val (.int .i64 x10.1.fRaw.fN), .val (.bool x10.1.fKept)], .agg [.val (.string (bs x24.fS)), .val (.string (bs x24.fRaw)), .val (.bool x24.fKept)], .val (.string (bs x2)), .agg [.val (.string (bs x2)), .val (.string (bs [])), .val (.bool false)], .val (.bool (x24 == (⟨x2, [], false⟩ : ref07_Cell))), .val (.bool (x24 == (⟨x2, [], false⟩ : ref07_Cell))), .agg [.sl 2 (List.map e_arena_Span x10.1.fText.fL), .val (.int .i64 x10.1.fText.fN), .val (.int .i64 x10.1.fRaw.fAt), .val (.int .i64 x10.1.fRaw.fN), .val (.bool x10.1.fKept)], .val (.pointer (some ⟨(blk (vn w4 0)), 0, none⟩)), .sl 1 (List.map byteD x26), .val (.string (bs x26)), .val (.string (bs x2)), .val (.string (bs x27)), .val (.bool (x26 == x27)), .val (.bool (x26 == x27)), .val (.bool (x26 == x27)), .tup [], .val (.bool false), .val (.bool false)] [0, 1, 2, 6, 7, 8, 9, 10, 11, 12, 13, 14, 15, 16, 17, 18, 19, 20, 21, 22, 23, 24, 25, 26, 27, 28, 29, 30, 31, 32, 33, 34, 35, 36, 37, 38, 39, 40, 41, 57, 58, 77, 78, 79, 80, 81, 82, 83, 84, 85, 86, 87, 88, 89, 90, 91, 92, 93, 94] (by decide +kernel) rfl ?_ rfl ?_
   rotate_left
   · obtain rfl := Option.some.inj ht22
     exact ⟨_, Gst.trans (Gst.only [6] rfl) (Gst.pick [] rfl rfl), rfl⟩
   refine OpsQ.yes (Want.plain rfl) rfl (OpR.pure rfl) ?_
   refine OpsQ.yes (Want.plain rfl) rfl (OpR.loadPtr 3 rfl rfl rfl rfl) ?_
   refine OpsQ.yes (Want.plain rfl) rfl (OpR.call [0, 1] fn47 (law07_Plain_2_c hx24) rfl rfl rfl (fun _ => rfl)) ?_
   refine OpsQ.yes (Want.plain rfl) rfl (OpR.pure rfl) ?_
   refine OpsQ.yes (Want.plain rfl) rfl (OpR.build rfl rfl rfl rfl rfl) ?_
   refine OpsQ.yes (Want.plain rfl) rfl (OpR.cast (OpR.eqStruct rfl rfl rfl rfl rfl (by kernel_rfl) (by kernel_rfl)) (boolE (beq_ref07_Cell x24 (⟨x2, [], false⟩ : ref07_Cell)))) ?_
   refine OpsQ.yes (Want.plain rfl) rfl (OpR.pure rfl) ?_
   refine OpsQ.yes (Want.bool rfl rfl rfl rfl (by rw [(beq_iff_eq.2 c25)]; rfl)) rfl (OpR.loadPtr 3 rfl rfl rfl rfl) ?_
   refine OpsQ.yes (Want.bool rfl rfl rfl rfl (by rw [(beq_iff_eq.2 c25)]; rfl)) rfl (OpR.pure rfl) ?_
   refine OpsQ.yes (Want.bool rfl rfl rfl rfl (by rw [(beq_iff_eq.2 c25)]; rfl)) rfl (OpR.call [0, 1] fn51 (cell_Cell_Print_c hx26) rfl rfl rfl (fun _ => rfl)) ?_
   refine OpsQ.yes (Want.bool rfl rfl rfl rfl (by rw [(beq_iff_eq.2 c25)]; rfl)) rfl (OpR.toStr (bs := x26) rfl rfl rfl rfl rfl rfl rfl) ?_
   refine OpsQ.yes (Want.bool rfl rfl rfl rfl (by rw [(beq_iff_eq.2 c25)]; rfl)) rfl (OpR.pure rfl) ?_
   refine OpsQ.yes (Want.bool rfl rfl rfl rfl (by rw [(beq_iff_eq.2 c25)]; rfl)) rfl (OpR.call0 fn15 (ref06_Put_c hx27) rfl) ?_
   refine OpsQ.yes (Want.bool rfl rfl rfl rfl (by rw [(beq_iff_eq.2 c25)]; rfl)) rfl (OpR.cast (OpR.pure rfl) (boolE (strEq _ _))) ?_
   refine OpsQ.yes (Want.plain rfl) rfl (OpR.pickT rfl (beq_iff_eq.2 c25) rfl) ?_
   refine OpsQ.yes (Want.plain rfl) rfl (OpR.pure rfl) ?_
   refine OpsQ.no (Want.bool rfl rfl rfl rfl (by rw [(beq_eq_false_iff_ne.2 c28)]; rfl)) rfl ?_
   refine OpsQ.yes (Want.plain rfl) rfl (OpR.pickF rfl (beq_eq_false_iff_ne.2 c28) rfl) ?_
   refine OpsQ.yes (Want.plain rfl) rfl (OpR.pure rfl) ?_
   exact OpsQ.nil
 obtain ⟨x29, hx29, ht22⟩ := bnd_some ht22
 refine T.drawQ drawsX [.val (.pointer (some ⟨(blk (vn w4 0)), 0, none⟩)), .agg [.sl 2 (List.map e_arena_Span x10.1.fText.fL), .val (.int .i64 x10.1.fText.fN), .val (.int .i64 x10.1.fRaw.fAt), .val (.int .i64 x10.1.fRaw.fN), .val (.bool x10.1.fKept)], .agg [.val (.string (bs x24.fS)), .val (.string (bs x24.fRaw)), .val (.bool x24.fKept)], .val (.string (bs x2)), .agg [.val (.string (bs x2)), .val (.string (bs [])), .val (.bool false)], .val (.bool (x24 == (⟨x2, [], false⟩ : ref07_Cell))), .val (.bool (x24 == (⟨x2, [], false⟩ : ref07_Cell))), .agg [.sl 2 (List.map e_arena_Span x10.1.fText.fL), .val (.int .i64 x10.1.fText.fN), .val (.int .i64 x10.1.fRaw.fAt), .val (.int .i64 x10.1.fRaw.fN), .val (.bool x10.1.fKept)], .val (.pointer (some ⟨(blk (vn w4 0)), 0, none⟩)), .sl 1 (List.map byteD x26), .val (.string (bs x26)), .val (.string (bs x2)), .val (.string (bs x27)), .val (.bool (x26 == x27)), .val (.bool (x26 == x27)), .val (.bool (x26 == x27)), .val (.bool x29), .val (.bool x29), .val (.bool x29)] [0, 1, 2, 6, 7, 8, 9, 10, 11, 12, 13, 14, 15, 16, 17, 18, 19, 20, 21, 22, 23, 24, 25, 26, 27, 28, 29, 30, 31, 32, 33, 34, 35, 36, 37, 38, 39, 40, 41, 57, 58, 77, 78, 79, 80, 81, 82, 83, 84, 85, 86, 87, 88, 89, 90, 91, 92, 93, 94] (by decide +kernel) rfl ?_ rfl ?_
 rotate_left
 · obtain rfl := Option.some.inj ht22
   exact ⟨_, Gst.trans (Gst.only [6] rfl) (Gst.pick [] rfl rfl), rfl⟩
 refine OpsQ.yes (Want.plain rfl) rfl (OpR.pure rfl) ?_
 refine OpsQ.yes (Want.plain rfl) rfl (OpR.loadPtr 3 rfl rfl rfl rfl) ?_
 refine OpsQ.yes (Want.plain rfl) rfl (OpR.call [0, 1] fn47 (law07_Plain_2_c hx24) rfl rfl rfl (fun _ => rfl)) ?_
 refine OpsQ.yes (Want.plain rfl) rfl (OpR.pure rfl) ?_
 refine OpsQ.yes (Want.plain rfl) rfl (OpR.build rfl rfl rfl rfl rfl) ?_
 refine OpsQ.yes (Want.plain rfl) rfl (OpR.cast (OpR.eqStruct rfl rfl rfl rfl rfl (by kernel_rfl) (by kernel_rfl)) (boolE (beq_ref07_Cell x24 (⟨x2, [], false⟩ : ref07_Cell)))) ?_
 refine OpsQ.yes (Want.plain rfl) rfl (OpR.pure rfl) ?_
 refine OpsQ.yes (Want.bool rfl rfl rfl rfl (by rw [(beq_iff_eq.2 c25)]; rfl)) rfl (OpR.loadPtr 3 rfl rfl rfl rfl) ?_
 refine OpsQ.yes (Want.bool rfl rfl rfl rfl (by rw [(beq_iff_eq.2 c25)]; rfl)) rfl (OpR.pure rfl) ?_
 refine OpsQ.yes (Want.bool rfl rfl rfl rfl (by rw [(beq_iff_eq.2 c25)]; rfl)) rfl (OpR.call [0, 1] fn51 (cell_Cell_Print_c hx26) rfl rfl rfl (fun _ => rfl)) ?_
 refine OpsQ.yes (Want.bool rfl rfl rfl rfl (by rw [(beq_iff_eq.2 c25)]; rfl)) rfl (OpR.toStr (bs := x26) rfl rfl rfl rfl rfl rfl rfl) ?_
 refine OpsQ.yes (Want.bool rfl rfl rfl rfl (by rw [(beq_iff_eq.2 c25)]; rfl)) rfl (OpR.pure rfl) ?_
 refine OpsQ.yes (Want.bool rfl rfl rfl rfl (by rw [(beq_iff_eq.2 c25)]; rfl)) rfl (OpR.call0 fn15 (ref06_Put_c hx27) rfl) ?_
 refine OpsQ.yes (Want.bool rfl rfl rfl rfl (by rw [(beq_iff_eq.2 c25)]; rfl)) rfl (OpR.cast (OpR.pure rfl) (boolE (strEq _ _))) ?_
 refine OpsQ.yes (Want.plain rfl) rfl (OpR.pickT rfl (beq_iff_eq.2 c25) rfl) ?_
 refine OpsQ.yes (Want.plain rfl) rfl (OpR.pure rfl) ?_
 refine OpsQ.yes (Want.bool rfl rfl rfl rfl (by rw [(beq_iff_eq.2 c28)]; rfl)) rfl (OpR.call0 fn45 (law07_awake_c hx29) rfl) ?_
 refine OpsQ.yes (Want.plain rfl) rfl (OpR.pickT rfl (beq_iff_eq.2 c28) rfl) ?_
 refine OpsQ.yes (Want.plain rfl) rfl (OpR.pure rfl) ?_
 exact OpsQ.nil
end Go.Proofs.Ytkjcogmngoogcaa.S
