/- Printed by a program of this session's own (gen.py): Lean functions for Go functions, and the proofs that the Go code comes to their answers. -/
import Derived.Test.YtbcbggdgkdfciaaG3xb
import Derived.Test.YtbcbggdgkdfciaaG3xa
import Derived.Test.YtbcbggdgkdfciaaG2xa
set_option linter.unusedVariables false
set_option linter.unusedSimpArgs false
set_option maxRecDepth 20000
namespace Go.Proofs.Ytbcbggdgkdfciaa.S
open Go Go.Sm
attribute [local irreducible] T TL OpR CallT iter loop
noncomputable def law30_LineTypes.l1 (a2 : List Int) (s13 : Int × (List arena_Span) × Int × Int × (List UInt8) × Int × (List UInt8)) : Option (Lp (Int × (List arena_Span) × Int × Int × (List UInt8) × Int × (List UInt8)) (Ex Unit Bool)) :=
  if s13.1 < (a2.length : Int) then
    bnd (idx a2 s13.1) fun x22 =>
    if s13.1 ≥ 60 then
      some (Lp.done (Ex.brk ()))
    else
      bnd (line_Line_Key (⟨(⟨s13.2.1, s13.2.2.1⟩ : piece_Text), s13.2.2.2.1⟩ : line_Line) x22 s13.2.2.2.2.2.2) fun x24 =>
      bnd (ref30_Key (⟨s13.2.2.2.2.1, s13.2.2.2.2.2.1⟩ : ref30_Text) x22) fun x27 =>
      if (x27.1.fS.length : Int) > 400 then
        bnd (if x24.2.1 = true then
          if x24.2.2.1 = 7 then
            bnd (piece_Same (⟨s13.2.1, s13.2.2.1⟩ : piece_Text) x24.1.fT) fun x33 =>
            if x33 = true then
              some (!(s13.2.2.2.1 == x24.1.fAt))
            else
              some true
          else
            some true
        else
          some true : Option Bool) fun t30 =>
        if t30 = true then
          some (Lp.done (Ex.ret false))
        else
          some (Lp.next (w64 (s13.1 + 1), s13.2.1, s13.2.2.1, s13.2.2.2.1, s13.2.2.2.2.1, s13.2.2.2.2.2.1, x24.2.2.2))
      else
        bnd (if (x24.2.1 == x27.2) = true then
          if x24.2.2.1 = 0 then
            bnd (piece_Text_Flat x24.1.fT x24.2.2.2) fun x40 =>
            if x40 = x27.1.fS then
              if x24.1.fAt = x27.1.fAt then
                bnd (piece_Text_Spans x24.1.fT) fun x43 =>
                some (decide ((x43.length : Int) > 32))
              else
                some true
            else
              some true
          else
            some true
        else
          some true : Option Bool) fun t36 =>
        if t36 = true then
          some (Lp.done (Ex.ret false))
        else
          some (Lp.next (w64 (s13.1 + 1), x24.1.fT.fL, x24.1.fT.fN, x24.1.fAt, x27.1.fS, x27.1.fAt, x24.2.2.2))
  else
    some (Lp.done (Ex.brk ()))
noncomputable def law30_LineTypes (a0 : List UInt8) (a1 : Bool) (a2 : List Int) : Option Bool :=
  bnd (law30_cut a0 390) fun x1 =>
  bnd (arena_New x1) fun x2 =>
  match x2 with
  | .inl x2 =>
      some false
  | .inr x2 =>
      bnd (piece_Of [(⟨0, (x1.length : Int)⟩ : arena_Span)]) fun x4 =>
      bnd (line_Open x4 a1) fun x5 =>
      bnd (if a1 = true then
        some (x1.length : Int)
      else
        some 0 : Option Int) fun t8 =>
      bnd (loop (law30_LineTypes.l1 a2) (0, x5.fT.fL, x5.fT.fN, x5.fAt, x1, t8, x2.2) : Option (Ex Unit Bool)) fun t10 => match t10 with
        | .brk u11 =>
          bnd (law30_awake) fun x46 =>
          some x46
        | .ret u11 => some u11
set_option maxHeartbeats 4000000 in
theorem law30_LineTypes_c {a0 : List UInt8} {a1 : Bool} {a2 : List Int} {res : Bool} (h0 : law30_LineTypes a0 a1 a2 = some res) : CallF X 7 [.val (.string (bs a0)), .val (.bool a1), .sl 1 (List.map (eI .i64) a2)] [] (fun x => .val (.bool res)) (fun x => []) := by
 unfold law30_LineTypes at h0
 refine CallF.mkG (X := X) Try.func7 rfl rfl Try.ntmps7 rfl rfl ?_
 refine T.seq ?_
 refine T.region ?_
 refine TL.op1 (OpR.pure rfl) rfl ?_
 refine TL.nil ?_
 show T X _ _ _
 refine T.seq ?_
 refine T.region ?_
 refine TL.op1 (OpR.pure rfl) rfl ?_
 obtain ⟨x1, hx1, h0⟩ := bnd_some h0
 refine TL.op1 (OpR.call0 fn40 (law30_cut_c hx1) rfl) rfl ?_
 refine TL.op1 (OpR.pure rfl) rfl ?_
 refine TL.nil ?_
 show T X _ _ _
 refine T.seq ?_
 refine T.region ?_
 refine TL.op1 (OpR.pure rfl) rfl ?_
 refine TL.op1 (OpR.toBytesM rfl rfl rfl rfl rfl rfl rfl) rfl ?_
 obtain ⟨x2, hx2, h0⟩ := bnd_some h0
 rcases x2 with x2 | x2
 · dsimp only at h0
   refine TL.op1 (OpR.call0 fn25 (arena_New_cx1 hx2) rfl) rfl ?_
   refine TL.op1 (OpR.pure rfl) rfl ?_
   refine TL.op1 (OpR.pure rfl) rfl ?_
   refine TL.op1 (OpR.pure rfl) rfl ?_
   refine TL.op1 (OpR.pure rfl) rfl ?_
   refine TL.op1 (OpR.pure rfl) rfl ?_
   refine TL.nil ?_
   show T X _ _ _
   refine T.seq ?_
   refine T.seq ?_
   refine T.region ?_
   refine TL.op1 (OpR.pure rfl) rfl ?_
   refine TL.op1 (OpR.ptrNil rfl rfl rfl) rfl ?_
   refine TL.nil ?_
   show T X _ _ _
   refine T.condT rfl rfl ?_
   refine T.seq ?_
   refine T.region ?_
   refine TL.op1 (OpR.pure rfl) rfl ?_
   refine TL.nil ?_
   show T X _ _ _
   refine T.ret ?_
   obtain rfl := Option.some.inj h0
   exact PostG.retP (ks := []) (Gst.only [6] rfl) undef (ResL.cons (ResV.tmp rfl) ResL.nil) rfl rfl rfl rfl
 dsimp only at h0
 refine TL.op (OpR.call [] fn25 (arena_New_cx2 hx2) rfl rfl rfl (fun _ => rfl)) rfl (fun w3 => ?_)
 refine TL.op1 (OpR.pure rfl) rfl ?_
 refine TL.op1 (OpR.pure rfl) rfl ?_
 refine TL.op1 (OpR.pure rfl) rfl ?_
 refine TL.op1 (OpR.pure rfl) rfl ?_
 refine TL.op1 (OpR.pure rfl) rfl ?_
 refine TL.nil ?_
 show T X _ _ _
 refine T.seq ?_
 refine T.seq ?_
 refine T.region ?_
 refine TL.op1 (OpR.pure rfl) rfl ?_
 refine TL.op1 (OpR.ptrNil rfl rfl rfl) rfl ?_
 refine TL.nil ?_
 show T X _ _ _
 refine T.condF rfl rfl ?_
 refine T.skip ?_
 show T X _ _ _
 refine T.seq ?_
 refine T.region ?_
 refine TL.op1 (OpR.pure rfl) rfl ?_
 refine TL.op1 (OpR.cast (OpR.pure rfl) (intE (lenS _))) rfl ?_
 refine TL.op1 (OpR.build rfl rfl rfl rfl rfl) rfl ?_
 refine TL.op1 (OpR.lit rfl rfl rfl rfl rfl rfl rfl) rfl ?_
 obtain ⟨x4, hx4, h0⟩ := bnd_some h0
 refine TL.op1 (OpR.call0 fn42 (piece_Of_c hx4) rfl) rfl ?_
 refine TL.op1 (OpR.pure rfl) rfl ?_
 obtain ⟨x5, hx5, h0⟩ := bnd_some h0
 refine TL.op1 (OpR.call0 fn41 (line_Open_c hx5) rfl) rfl ?_
 refine TL.op (OpR.alloc rfl rfl (fun _ => rfl)) rfl (fun p6 => ?_)
 refine TL.op0 (OpR.store 2 rfl rfl rfl rfl rfl rfl rfl rfl) ?_
 refine TL.nil ?_
 show T X _ _ _
 refine T.seq ?_
 refine T.region ?_
 refine TL.op1 (OpR.pure rfl) rfl ?_
 refine TL.op1 (OpR.build rfl rfl rfl rfl rfl) rfl ?_
 refine TL.op (OpR.alloc rfl rfl (fun _ => rfl)) rfl (fun p7 => ?_)
 refine TL.op0 (OpR.store 3 rfl rfl rfl rfl rfl rfl rfl rfl) ?_
 refine TL.nil ?_
 show T X _ _ _
 refine T.seq ?_
 refine T.seq ?_
 refine T.region ?_
 refine TL.op1 (OpR.pure rfl) rfl ?_
 refine TL.nil ?_
 show T X _ _ _
 obtain ⟨t8, ht8, h0⟩ := bnd_some h0
 refine T.cutC (fun S' => S' = ⟨[(10, .val (.pointer (some ⟨(blk p7), 0, none⟩))), (9, .val (.pointer (some ⟨(blk p6), 0, none⟩))), (7, .val (.pointer (some ⟨(blk (vn w3 0)), 0, none⟩))), (6, .val (.bool false)), (2, .sl 1 (List.map (eI .i64) a2))], [.var (blk (vn w3 0)) [.val (vn w3 1)] 142, .var (blk p6) [.sl 2 (List.map e_arena_Span x5.fT.fL), .val (.int .i64 x5.fT.fN), .val (.int .i64 x5.fAt)] 84, .var (blk p7) [.val (.string (bs x1)), .val (.int .i64 t8)] 90, .row (vn w3 1) (List.map byteD x2.2) 1 5], 124⟩) (fun _ h => h) ?_ ?_
 · rcases ite_some ht8 with ⟨c9, ht8⟩ | ⟨c9, ht8⟩
   rotate_left
   · refine T.condF rfl (eq_false_of_ne_true c9) ?_
     refine T.skip ?_
     obtain rfl := Option.some.inj ht8
     exact ⟨_, Gst.trans (Gst.only [2, 6, 7, 9, 10] rfl) (Gst.pick [0, 2, 3, 1] rfl rfl), rfl⟩
   refine T.condT rfl (c9) ?_
   refine T.region ?_
   refine TL.op1 (OpR.pure rfl) rfl ?_
   refine TL.op1 (OpR.cast (OpR.pure rfl) (intE (lenS _))) rfl ?_
   refine TL.op1 (OpR.pure rfl) rfl ?_
   refine TL.op0 (OpR.store 3 rfl rfl rfl rfl rfl rfl rfl rfl) ?_
   refine TL.nil ?_
   obtain rfl := Option.some.inj ht8
   exact ⟨_, Gst.trans (Gst.only [2, 6, 7, 9, 10] rfl) (Gst.pick [0, 2, 3, 1] rfl rfl), rfl⟩
 rintro _ rfl
 show T X _ _ _
 refine T.seq ?_
 refine T.seq ?_
 refine T.region ?_
 refine TL.op1 (OpR.pure rfl) rfl ?_
 refine TL.op1 (OpR.cast (OpR.pure rfl) (intE (lenM _ _))) rfl ?_
 refine TL.op1 (OpR.pure rfl) rfl ?_
 refine TL.nil ?_
 show T X _ _ _
 obtain ⟨t10, ht10, h0⟩ := bnd_some h0
 refine T.cutC (fun S' => ∃ u11, t10 = Ex.brk u11 ∧ S' = ⟨[(6, .val (.bool false))], [], 124⟩) (fun _ h => h) ?_ ?_
 rotate_left
 · rintro _ ⟨u11, rfl, rfl⟩
   show T X _ _ _
   refine T.seq ?_
   refine T.region ?_
   obtain ⟨x46, hx46, h0⟩ := bnd_some h0
   refine TL.op1 (OpR.call0 fn48 (law30_awake_c hx46) rfl) rfl ?_
   refine TL.op1 (OpR.pure rfl) rfl ?_
   refine TL.nil ?_
   show T X _ _ _
   refine T.ret ?_
   obtain rfl := Option.some.inj h0
   exact PostG.retP (ks := []) (Gst.only [6] rfl) undef (ResL.cons (ResV.tmp rfl) ResL.nil) rfl rfl rfl rfl
 refine T.block ?_
 obtain ⟨n14, n19⟩ := loop_some ht10
 refine T.loop (fun n S' => ∃ S'', Gst S' S'' ∧ ∃ y12 : Value, ∃ s13 : Int × (List arena_Span) × Int × Int × (List UInt8) × Int × (List UInt8), S'' = ⟨[(43, .val (.int .i64 s13.1)), (42, .val (.int .i64 (a2.length : Int))), (41, .sl 1 (List.map (eI .i64) a2)), (10, .val (.pointer (some ⟨(blk p7), 0, none⟩))), (9, .val (.pointer (some ⟨(blk p6), 0, none⟩))), (7, .val (.pointer (some ⟨(blk (vn w3 0)), 0, none⟩))), (6, .val (.bool false))], [.var (blk (vn w3 0)) [.val y12] 142, .var (blk p6) [.sl 2 (List.map e_arena_Span s13.2.1), .val (.int .i64 s13.2.2.1), .val (.int .i64 s13.2.2.2.1)] 84, .var (blk p7) [.val (.string (bs s13.2.2.2.2.1)), .val (.int .i64 s13.2.2.2.2.2.1)] 90, .row y12 (List.map byteD s13.2.2.2.2.2.2) 1 5], 124⟩ ∧ iter (law30_LineTypes.l1 a2) n s13 = some t10) n14 ?_ ?_
 · exact ⟨_, Gst.only [6, 7, 9, 10, 41, 42, 43] rfl, (vn w3 1), (0, x5.fT.fL, x5.fT.fN, x5.fAt, x1, t8, x2.2), rfl, n19⟩
 rintro n14 _ ⟨_, g, y12, s13, rfl, i18⟩
 refine T.ghost g ?_
 obtain ⟨m15, q16, rfl, q17, i18⟩ := iter_succ i18
 unfold law30_LineTypes.l1 at q17
 refine T.seq ?_
 refine T.region ?_
 refine TL.op1 (OpR.pure rfl) rfl ?_
 refine TL.nil ?_
 show T X _ _ _
 refine T.seq ?_
 rcases ite_some q17 with ⟨c21, q17⟩ | ⟨c21, q17⟩
 rotate_left
 · refine T.condF rfl (decide_eq_false c21) ?_
   refine T.exit ?_
   obtain rfl := Option.some.inj q17
   obtain rfl : _ = _ := i18
   exact ⟨_, Gst.trans (Gst.only [6] rfl) (Gst.pick [] rfl rfl), _, rfl, rfl⟩
 refine T.condT rfl (decide_eq_true c21) ?_
 refine T.skip ?_
 show T X _ _ _
 refine T.seq ?_
 refine T.block ?_
 refine T.seq ?_
 refine T.region ?_
 refine TL.op1 (OpR.pure rfl) rfl ?_
 obtain ⟨x22, hx22, q17⟩ := bnd_some q17
 refine TL.op1 (OpR.indexM (eI .i64) hx22 rfl rfl rfl rfl rfl) rfl ?_
 refine TL.op1 (OpR.pure rfl) rfl ?_
 refine TL.op1 (OpR.pure rfl) rfl ?_
 refine TL.op1 (OpR.pure rfl) rfl ?_
 refine TL.nil ?_
 show T X _ _ _
 refine T.seq ?_
 refine T.seq ?_
 refine T.region ?_
 refine TL.op1 (OpR.pure rfl) rfl ?_
 refine TL.op1 (OpR.pure rfl) rfl ?_
 refine TL.nil ?_
 show T X _ _ _
 rcases ite_some q17 with ⟨c23, q17⟩ | ⟨c23, q17⟩
 · refine T.condT rfl (decide_eq_true c23) ?_
   refine T.exit ?_
   obtain rfl := Option.some.inj q17
   obtain rfl : _ = _ := i18
   exact ⟨_, Gst.trans (Gst.only [6] rfl) (Gst.pick [] rfl rfl), _, rfl, rfl⟩
 refine T.condF rfl (decide_eq_false c23) ?_
 refine T.skip ?_
 show T X _ _ _
 refine T.seq ?_
 refine T.region ?_
 refine TL.op1 (OpR.loadPtr 1 rfl rfl rfl rfl) rfl ?_
 refine TL.op1 (OpR.pure rfl) rfl ?_
 refine TL.op1 (OpR.pure rfl) rfl ?_
 obtain ⟨x24, hx24, q17⟩ := bnd_some q17
 refine TL.op (OpR.call [0, 3] fn43 (line_Line_Key_c hx24) rfl rfl rfl (fun _ => rfl)) rfl (fun w25 => ?_)
 refine TL.op1 (OpR.pure rfl) rfl ?_
 refine TL.op1 (OpR.pure rfl) rfl ?_
 refine TL.op1 (OpR.pure rfl) rfl ?_
 refine TL.op1 (OpR.pure rfl) rfl ?_
 refine TL.op (OpR.alloc rfl rfl (fun _ => rfl)) rfl (fun p26 => ?_)
 refine TL.op0 (OpR.store 4 rfl rfl rfl rfl rfl rfl rfl rfl) ?_
 refine TL.op1 (OpR.pure rfl) rfl ?_
 refine TL.op1 (OpR.pure rfl) rfl ?_
 refine TL.nil ?_
 show T X _ _ _
 refine T.seq ?_
 refine T.region ?_
 refine TL.op1 (OpR.loadPtr 2 rfl rfl rfl rfl) rfl ?_
 refine TL.op1 (OpR.pure rfl) rfl ?_
 obtain ⟨x27, hx27, q17⟩ := bnd_some q17
 refine TL.op1 (OpR.call0 fn44 (ref30_Key_c hx27) rfl) rfl ?_
 refine TL.op1 (OpR.pure rfl) rfl ?_
 refine TL.op1 (OpR.pure rfl) rfl ?_
 refine TL.op1 (OpR.pure rfl) rfl ?_
 refine TL.op (OpR.alloc rfl rfl (fun _ => rfl)) rfl (fun p28 => ?_)
 refine TL.op0 (OpR.store 5 rfl rfl rfl rfl rfl rfl rfl rfl) ?_
 refine TL.op1 (OpR.pure rfl) rfl ?_
 refine TL.nil ?_
 show T X _ _ _
 refine T.seq ?_
 refine T.seq ?_
 refine T.region ?_
 refine TL.op1 (OpR.pure rfl) rfl ?_
 refine TL.op1 (OpR.loadPtr 5 rfl rfl rfl rfl) rfl ?_
 refine TL.op1 (OpR.cast (OpR.pure rfl) (intE (lenS _))) rfl ?_
 refine TL.op1 (OpR.pure rfl) rfl ?_
 refine TL.nil ?_
 show T X _ _ _
 rcases ite_some q17 with ⟨c29, q17⟩ | ⟨c29, q17⟩
 · refine T.condT rfl (decide_eq_true c29) ?_
   refine T.seq ?_
   refine T.seq ?_
   obtain ⟨t30, ht30, q17⟩ := bnd_some q17
   refine T.cutC (fun S' => S' = ⟨[(88, .val (.bool t30)), (43, .val (.int .i64 s13.1)), (42, .val (.int .i64 (a2.length : Int))), (41, .sl 1 (List.map (eI .i64) a2)), (17, .val (.bool x27.2)), (16, .val (.pointer (some ⟨(blk p28), 0, none⟩))), (15, .val (.int .i64 x24.2.2.1)), (14, .val (.bool x24.2.1)), (13, .val (.pointer (some ⟨(blk p26), 0, none⟩))), (10, .val (.pointer (some ⟨(blk p7), 0, none⟩))), (9, .val (.pointer (some ⟨(blk p6), 0, none⟩))), (7, .val (.pointer (some ⟨(blk (vn w3 0)), 0, none⟩))), (6, .val (.bool false))], [.var (blk (vn w3 0)) [.val (vn w25 0)] 142, .var (blk p6) [.sl 2 (List.map e_arena_Span s13.2.1), .val (.int .i64 s13.2.2.1), .val (.int .i64 s13.2.2.2.1)] 84, .var (blk p7) [.val (.string (bs s13.2.2.2.2.1)), .val (.int .i64 s13.2.2.2.2.2.1)] 90, .var (blk p26) [.sl 2 (List.map e_arena_Span x24.1.fT.fL), .val (.int .i64 x24.1.fT.fN), .val (.int .i64 x24.1.fAt)] 84, .var (blk p28) [.val (.string (bs x27.1.fS)), .val (.int .i64 x27.1.fAt)] 90, .row (vn w25 0) (List.map byteD x24.2.2.2) 1 5], 124⟩) (fun _ h => h) ?_ ?_
   rotate_left
   · rintro _ rfl
     show T X _ _ _
     rcases ite_some q17 with ⟨c35, q17⟩ | ⟨c35, q17⟩
     · refine T.condT rfl (c35) ?_
       refine T.seq ?_
       refine T.region ?_
       refine TL.op1 (OpR.pure rfl) rfl ?_
       refine TL.nil ?_
       show T X _ _ _
       refine T.ret ?_
       obtain rfl := Option.some.inj q17
       obtain rfl : _ = _ := i18
       obtain rfl := Option.some.inj h0
       exact PostG.retP (ks := []) (Gst.trans (Gst.only [6] rfl) (Gst.pick [] rfl rfl)) undef (ResL.cons (ResV.tmp rfl) ResL.nil) rfl rfl rfl rfl
     refine T.condF rfl (eq_false_of_ne_true c35) ?_
     refine T.skip ?_
     show T X _ _ _
     refine T.exit ?_
     show T X _ _ _
     refine T.region ?_
     refine TL.op1 (OpR.pure rfl) rfl ?_
     refine TL.op1 (OpR.pure rfl) rfl ?_
     refine TL.nil ?_
     obtain rfl := Option.some.inj q17
     exact ⟨m15, Nat.lt_succ_self _, _, Gst.trans (Gst.only [6, 7, 9, 10, 41, 42, 43] rfl) (Gst.pick [0, 1, 2, 5] rfl rfl), (vn w25 0), (w64 (s13.1 + 1), s13.2.1, s13.2.2.1, s13.2.2.2.1, s13.2.2.2.2.1, s13.2.2.2.2.2.1, x24.2.2.2), rfl, i18⟩
   refine T.region ?_
   refine TL.op1 (OpR.pure rfl) rfl ?_
   refine TL.op1 (OpR.pure rfl) rfl ?_
   refine TL.op1 (OpR.pure rfl) rfl ?_
   rcases ite_some ht30 with ⟨c31, ht30⟩ | ⟨c31, ht30⟩
   rotate_left
   · refine TL.off rfl rfl rfl rfl (not_f (eq_false_of_ne_true c31)) rfl rfl ?_
     refine TL.off rfl rfl rfl rfl (not_f (eq_false_of_ne_true c31)) rfl rfl ?_
     refine TL.op1 (OpR.pickT rfl (not_f (eq_false_of_ne_true c31)) rfl) rfl ?_
     refine TL.op1 (OpR.pure rfl) rfl ?_
     refine TL.off rfl rfl rfl rfl rfl rfl rfl ?_
     refine TL.off rfl rfl rfl rfl rfl rfl rfl ?_
     refine TL.off rfl rfl rfl rfl rfl rfl rfl ?_
     refine TL.off rfl rfl rfl rfl rfl rfl rfl ?_
     refine TL.off rfl rfl rfl rfl rfl rfl rfl ?_
     refine TL.off rfl rfl rfl rfl rfl rfl rfl ?_
     refine TL.op1 (OpR.pickT rfl rfl rfl) rfl ?_
     refine TL.op1 (OpR.pure rfl) rfl ?_
     refine TL.off rfl rfl rfl rfl rfl rfl rfl ?_
     refine TL.off rfl rfl rfl rfl rfl rfl rfl ?_
     refine TL.off rfl rfl rfl rfl rfl rfl rfl ?_
     refine TL.off rfl rfl rfl rfl rfl rfl rfl ?_
     refine TL.off rfl rfl rfl rfl rfl rfl rfl ?_
     refine TL.op1 (OpR.pickT rfl rfl rfl) rfl ?_
     refine TL.nil ?_
     obtain rfl := Option.some.inj ht30
     exact ⟨_, Gst.trans (Gst.only [6, 7, 9, 10, 13, 14, 15, 16, 17, 41, 42, 43, 88] rfl) (Gst.pick [0, 1, 2, 4, 5, 3] rfl rfl), rfl⟩
   refine TL.on rfl rfl rfl rfl (not_t (c31)) ?_
   refine TL.op1 (OpR.pure rfl) rfl ?_
   refine TL.on rfl rfl rfl rfl (not_t (c31)) ?_
   refine TL.op1 (OpR.pure rfl) rfl ?_
   refine TL.op1 (OpR.pickF rfl (not_t (c31)) rfl) rfl ?_
   refine TL.op1 (OpR.pure rfl) rfl ?_
   rcases ite_some ht30 with ⟨c32, ht30⟩ | ⟨c32, ht30⟩
   rotate_left
   · refine TL.off rfl rfl rfl rfl (not_f (beq_eq_false_iff_ne.2 c32)) rfl rfl ?_
     refine TL.off rfl rfl rfl rfl (not_f (beq_eq_false_iff_ne.2 c32)) rfl rfl ?_
     refine TL.off rfl rfl rfl rfl (not_f (beq_eq_false_iff_ne.2 c32)) rfl rfl ?_
     refine TL.off rfl rfl rfl rfl (not_f (beq_eq_false_iff_ne.2 c32)) rfl rfl ?_
     refine TL.off rfl rfl rfl rfl (not_f (beq_eq_false_iff_ne.2 c32)) rfl rfl ?_
     refine TL.off rfl rfl rfl rfl (not_f (beq_eq_false_iff_ne.2 c32)) rfl rfl ?_
     refine TL.op1 (OpR.pickT rfl (not_f (beq_eq_false_iff_ne.2 c32)) rfl) rfl ?_
     refine TL.op1 (OpR.pure rfl) rfl ?_
     refine TL.off rfl rfl rfl rfl rfl rfl rfl ?_
     refine TL.off rfl rfl rfl rfl rfl rfl rfl ?_
     refine TL.off rfl rfl rfl rfl rfl rfl rfl ?_
     refine TL.off rfl rfl rfl rfl rfl rfl rfl ?_
     refine TL.off rfl rfl rfl rfl rfl rfl rfl ?_
     refine TL.op1 (OpR.pickT rfl rfl rfl) rfl ?_
     refine TL.nil ?_
     obtain rfl := Option.some.inj ht30
     exact ⟨_, Gst.trans (Gst.only [6, 7, 9, 10, 13, 14, 15, 16, 17, 41, 42, 43, 88] rfl) (Gst.pick [0, 1, 2, 4, 5, 3] rfl rfl), rfl⟩
   refine TL.on rfl rfl rfl rfl (not_t (beq_iff_eq.2 c32)) ?_
   refine TL.op1 (OpR.pure rfl) rfl ?_
   refine TL.on rfl rfl rfl rfl (not_t (beq_iff_eq.2 c32)) ?_
   refine TL.op1 (OpR.loadPtr 1 rfl rfl rfl rfl) rfl ?_
   refine TL.on rfl rfl rfl rfl (not_t (beq_iff_eq.2 c32)) ?_
   refine TL.op1 (OpR.pure rfl) rfl ?_
   refine TL.on rfl rfl rfl rfl (not_t (beq_iff_eq.2 c32)) ?_
   refine TL.op1 (OpR.loadPtr 4 rfl rfl rfl rfl) rfl ?_
   refine TL.on rfl rfl rfl rfl (not_t (beq_iff_eq.2 c32)) ?_
   obtain ⟨x33, hx33, ht30⟩ := bnd_some ht30
   refine TL.op1 (OpR.call0 fn45 (piece_Same_c hx33) rfl) rfl ?_
   refine TL.on rfl rfl rfl rfl (not_t (beq_iff_eq.2 c32)) ?_
   refine TL.op1 (OpR.pure rfl) rfl ?_
   refine TL.op1 (OpR.pickF rfl (not_t (beq_iff_eq.2 c32)) rfl) rfl ?_
   refine TL.op1 (OpR.pure rfl) rfl ?_
   rcases ite_some ht30 with ⟨c34, ht30⟩ | ⟨c34, ht30⟩
   rotate_left
   · refine TL.off rfl rfl rfl rfl (not_f (eq_false_of_ne_true c34)) rfl rfl ?_
     refine TL.off rfl rfl rfl rfl (not_f (eq_false_of_ne_true c34)) rfl rfl ?_
     refine TL.off rfl rfl rfl rfl (not_f (eq_false_of_ne_true c34)) rfl rfl ?_
     refine TL.off rfl rfl rfl rfl (not_f (eq_false_of_ne_true c34)) rfl rfl ?_
     refine TL.off rfl rfl rfl rfl (not_f (eq_false_of_ne_true c34)) rfl rfl ?_
     refine TL.op1 (OpR.pickT rfl (not_f (eq_false_of_ne_true c34)) rfl) rfl ?_
     refine TL.nil ?_
     obtain rfl := Option.some.inj ht30
     exact ⟨_, Gst.trans (Gst.only [6, 7, 9, 10, 13, 14, 15, 16, 17, 41, 42, 43, 88] rfl) (Gst.pick [0, 1, 2, 4, 5, 3] rfl rfl), rfl⟩
   refine TL.on rfl rfl rfl rfl (not_t (c34)) ?_
   refine TL.op1 (OpR.pure rfl) rfl ?_
   refine TL.on rfl rfl rfl rfl (not_t (c34)) ?_
   refine TL.op1 (OpR.loadPtr 1 rfl rfl rfl rfl) rfl ?_
   refine TL.on rfl rfl rfl rfl (not_t (c34)) ?_
   refine TL.op1 (OpR.pure rfl) rfl ?_
   refine TL.on rfl rfl rfl rfl (not_t (c34)) ?_
   refine TL.op1 (OpR.loadPtr 4 rfl rfl rfl rfl) rfl ?_
   refine TL.on rfl rfl rfl rfl (not_t (c34)) ?_
   refine TL.op1 (OpR.pure rfl) rfl ?_
   refine TL.op1 (OpR.pickF rfl (not_t (c34)) rfl) rfl ?_
   refine TL.nil ?_
   obtain rfl := Option.some.inj ht30
   exact ⟨_, Gst.trans (Gst.only [6, 7, 9, 10, 13, 14, 15, 16, 17, 41, 42, 43, 88] rfl) (Gst.pick [0, 1, 2, 4, 5, 3] rfl rfl), rfl⟩
 refine T.condF rfl (decide_eq_false c29) ?_
 refine T.skip ?_
 show T X _ _ _
 refine T.seq ?_
 refine T.seq ?_
 obtain ⟨t36, ht36, q17⟩ := bnd_some q17
 refine T.cutC (fun S' => S' = ⟨[(119, .val (.bool t36)), (43, .val (.int .i64 s13.1)), (42, .val (.int .i64 (a2.length : Int))), (41, .sl 1 (List.map (eI .i64) a2)), (16, .val (.pointer (some ⟨(blk p28), 0, none⟩))), (13, .val (.pointer (some ⟨(blk p26), 0, none⟩))), (10, .val (.pointer (some ⟨(blk p7), 0, none⟩))), (9, .val (.pointer (some ⟨(blk p6), 0, none⟩))), (7, .val (.pointer (some ⟨(blk (vn w3 0)), 0, none⟩))), (6, .val (.bool false))], [.var (blk (vn w3 0)) [.val (vn w25 0)] 142, .var (blk p6) [.sl 2 (List.map e_arena_Span s13.2.1), .val (.int .i64 s13.2.2.1), .val (.int .i64 s13.2.2.2.1)] 84, .var (blk p7) [.val (.string (bs s13.2.2.2.2.1)), .val (.int .i64 s13.2.2.2.2.2.1)] 90, .var (blk p26) [.sl 2 (List.map e_arena_Span x24.1.fT.fL), .val (.int .i64 x24.1.fT.fN), .val (.int .i64 x24.1.fAt)] 84, .var (blk p28) [.val (.string (bs x27.1.fS)), .val (.int .i64 x27.1.fAt)] 90, .row (vn w25 0) (List.map byteD x24.2.2.2) 1 5], 124⟩) (fun _ h => h) ?_ ?_
 rotate_left
 · rintro _ rfl
   show T X _ _ _
   rcases ite_some q17 with ⟨c44, q17⟩ | ⟨c44, q17⟩
   · refine T.condT rfl (c44) ?_
     refine T.seq ?_
     refine T.region ?_
     refine TL.op1 (OpR.pure rfl) rfl ?_
     refine TL.nil ?_
     show T X _ _ _
     refine T.ret ?_
     obtain rfl := Option.some.inj q17
     obtain rfl : _ = _ := i18
     obtain rfl := Option.some.inj h0
     exact PostG.retP (ks := []) (Gst.trans (Gst.only [6] rfl) (Gst.pick [] rfl rfl)) undef (ResL.cons (ResV.tmp rfl) ResL.nil) rfl rfl rfl rfl
   refine T.condF rfl (eq_false_of_ne_true c44) ?_
   refine T.skip ?_
   show T X _ _ _
   refine T.drawS drawsX (fun env45 => [.agg [.sl 2 (List.map e_arena_Span x24.1.fT.fL), .val (.int .i64 x24.1.fT.fN), .val (.int .i64 x24.1.fAt)], .agg [.val (.string (bs x27.1.fS)), .val (.int .i64 x27.1.fAt)], .dead, .dead]) (fun D env45 => [.var (blk (vn w3 0)) [.val (vn w25 0)] 142, (bif D 2 then .var (blk p6) [.sl 2 (List.map e_arena_Span x24.1.fT.fL), .val (.int .i64 x24.1.fT.fN), .val (.int .i64 x24.1.fAt)] 84 else .var (blk p6) [.sl 2 (List.map e_arena_Span s13.2.1), .val (.int .i64 s13.2.2.1), .val (.int .i64 s13.2.2.2.1)] 84), (bif D 3 then .var (blk p7) [.val (.string (bs x27.1.fS)), .val (.int .i64 x27.1.fAt)] 90 else .var (blk p7) [.val (.string (bs s13.2.2.2.2.1)), .val (.int .i64 s13.2.2.2.2.2.1)] 90), .var (blk p26) [.sl 2 (List.map e_arena_Span x24.1.fT.fL), .val (.int .i64 x24.1.fT.fN), .val (.int .i64 x24.1.fAt)] 84, .var (blk p28) [.val (.string (bs x27.1.fS)), .val (.int .i64 x27.1.fAt)] 90, .row (vn w25 0) (List.map byteD x24.2.2.2) 1 5]) [0, 0, 1, 7] [6, 7, 9, 10, 13, 16, 41, 42, 43, 119, 120, 121] (fun env45 => [.var (blk (vn w3 0)) [.val (vn w25 0)] 142, .var (blk p6) [.sl 2 (List.map e_arena_Span x24.1.fT.fL), .val (.int .i64 x24.1.fT.fN), .val (.int .i64 x24.1.fAt)] 84, .var (blk p7) [.val (.string (bs x27.1.fS)), .val (.int .i64 x27.1.fAt)] 90, .var (blk p26) [.sl 2 (List.map e_arena_Span x24.1.fT.fL), .val (.int .i64 x24.1.fT.fN), .val (.int .i64 x24.1.fAt)] 84, .var (blk p28) [.val (.string (bs x27.1.fS)), .val (.int .i64 x27.1.fAt)] 90, .row (vn w25 0) (List.map byteD x24.2.2.2) 1 5]) (by decide +kernel) (by decide +kernel) (fun _ => rfl) (fun _ => rfl) ?_ (fun _ => rfl) (fun _ => rfl) ?_
   rotate_left
   · intro env45
     show T X _ _ _
     refine T.region ?_
     refine TL.op1 (OpR.pure rfl) rfl ?_
     refine TL.op1 (OpR.pure rfl) rfl ?_
     refine TL.nil ?_
     obtain rfl := Option.some.inj q17
     exact ⟨m15, Nat.lt_succ_self _, _, Gst.trans (Gst.only [6, 7, 9, 10, 41, 42, 43] rfl) (Gst.pick [0, 1, 2, 5] rfl rfl), (vn w25 0), (w64 (s13.1 + 1), x24.1.fT.fL, x24.1.fT.fN, x24.1.fAt, x27.1.fS, x27.1.fAt, x24.2.2.2), rfl, i18⟩
   refine oS (d := .agg [.sl 2 (List.map e_arena_Span x24.1.fT.fL), .val (.int .i64 x24.1.fT.fN), .val (.int .i64 x24.1.fAt)]) (fun _ => Want.plain rfl) (fun _ => rfl) (fun _ _ _ => rfl) (fun _ _ => OpR.loadPtr 3 rfl rfl rfl rfl) (fun _ _ _ _ _ _ _ => rfl) ?_
   refine oS (d := .agg [.val (.string (bs x27.1.fS)), .val (.int .i64 x27.1.fAt)]) (fun _ => Want.plain rfl) (fun _ => rfl) (fun _ _ _ => rfl) (fun _ _ => OpR.loadPtr 4 rfl rfl rfl rfl) (fun _ _ _ _ _ _ _ => rfl) ?_
   refine OpsS.cons' true ?_ (fun _ _ _ _ _ _ _ => rfl) ?_
   · intro D env45 hA
     have e3 : D 3 = false := hA.no 3 _ rfl rfl
     exact OpS.yes (o0 := [.var (blk (vn w3 0)) [.val (vn w25 0)] 142, .var (blk p6) [.sl 2 (List.map e_arena_Span s13.2.1), .val (.int .i64 s13.2.2.1), .val (.int .i64 s13.2.2.2.1)] 84, .var (blk p7) [.val (.string (bs s13.2.2.2.2.1)), .val (.int .i64 s13.2.2.2.2.2.1)] 90, .var (blk p26) [.sl 2 (List.map e_arena_Span x24.1.fT.fL), .val (.int .i64 x24.1.fT.fN), .val (.int .i64 x24.1.fAt)] 84, .var (blk p28) [.val (.string (bs x27.1.fS)), .val (.int .i64 x27.1.fAt)] 90, .row (vn w25 0) (List.map byteD x24.2.2.2) 1 5]) (o1 := fun x => [.var (blk (vn w3 0)) [.val (vn w25 0)] 142, .var (blk p6) [.sl 2 (List.map e_arena_Span x24.1.fT.fL), .val (.int .i64 x24.1.fT.fN), .val (.int .i64 x24.1.fAt)] 84, .var (blk p7) [.val (.string (bs s13.2.2.2.2.1)), .val (.int .i64 s13.2.2.2.2.2.1)] 90, .var (blk p26) [.sl 2 (List.map e_arena_Span x24.1.fT.fL), .val (.int .i64 x24.1.fT.fN), .val (.int .i64 x24.1.fAt)] 84, .var (blk p28) [.val (.string (bs x27.1.fS)), .val (.int .i64 x27.1.fAt)] 90, .row (vn w25 0) (List.map byteD x24.2.2.2) 1 5]) (d := fun x => .dead) (Want.plain rfl) (by first | rfl | simp only [e3, hA.me, cond_true, cond_false, List.cons_append, List.nil_append, List.append_nil]) (fun x => by first | rfl | simp only [ins_self, ins_ne D (show 2 ≠ 3 by decide), upd_self, e3, hA.me, cond_true, cond_false, List.cons_append, List.nil_append, List.append_nil]) (fun x => rfl) (OpR.store 1 rfl rfl rfl rfl rfl rfl rfl rfl)
   refine OpsS.cons' true ?_ (fun _ _ _ _ _ _ _ => rfl) ?_
   · intro D env45 hA
     have e2 : D 2 = true := hA.yes 2 _ rfl rfl
     exact OpS.yes (o0 := [.var (blk (vn w3 0)) [.val (vn w25 0)] 142, .var (blk p6) [.sl 2 (List.map e_arena_Span x24.1.fT.fL), .val (.int .i64 x24.1.fT.fN), .val (.int .i64 x24.1.fAt)] 84, .var (blk p7) [.val (.string (bs s13.2.2.2.2.1)), .val (.int .i64 s13.2.2.2.2.2.1)] 90, .var (blk p26) [.sl 2 (List.map e_arena_Span x24.1.fT.fL), .val (.int .i64 x24.1.fT.fN), .val (.int .i64 x24.1.fAt)] 84, .var (blk p28) [.val (.string (bs x27.1.fS)), .val (.int .i64 x27.1.fAt)] 90, .row (vn w25 0) (List.map byteD x24.2.2.2) 1 5]) (o1 := fun x => [.var (blk (vn w3 0)) [.val (vn w25 0)] 142, .var (blk p6) [.sl 2 (List.map e_arena_Span x24.1.fT.fL), .val (.int .i64 x24.1.fT.fN), .val (.int .i64 x24.1.fAt)] 84, .var (blk p7) [.val (.string (bs x27.1.fS)), .val (.int .i64 x27.1.fAt)] 90, .var (blk p26) [.sl 2 (List.map e_arena_Span x24.1.fT.fL), .val (.int .i64 x24.1.fT.fN), .val (.int .i64 x24.1.fAt)] 84, .var (blk p28) [.val (.string (bs x27.1.fS)), .val (.int .i64 x27.1.fAt)] 90, .row (vn w25 0) (List.map byteD x24.2.2.2) 1 5]) (d := fun x => .dead) (Want.plain rfl) (by first | rfl | simp only [e2, hA.me, cond_true, cond_false, List.cons_append, List.nil_append, List.append_nil]) (fun x => by first | rfl | simp only [ins_self, ins_ne D (show 3 ≠ 2 by decide), upd_self, e2, hA.me, cond_true, cond_false, List.cons_append, List.nil_append, List.append_nil]) (fun x => rfl) (OpR.store 2 rfl rfl rfl rfl rfl rfl rfl rfl)
   exact trivial
 rcases ite_some ht36 with ⟨c38, ht36⟩ | ⟨c38, ht36⟩
 rotate_left
 · refine T.drawQ drawsX [.val (.bool x24.2.1), .val (.bool x27.2), .val (.bool (!(x24.2.1 == x27.2))), .val (.bool (!(x24.2.1 == x27.2))), .tup [], .tup [], .val (.bool true), .val (.bool true), .tup [], .tup [], .tup [], .tup [], .tup [], .tup [], .tup [], .tup [], .val (.bool true), .val (.bool true), .tup [], .tup [], .tup [], .tup [], .tup [], .val (.bool true), .val (.bool true), .tup [], .tup [], .tup [], .tup [], .tup [], .val (.bool true)] [6, 7, 9, 10, 11, 12, 13, 14, 15, 16, 17, 41, 42, 43, 44, 45, 46, 47, 48, 49, 50, 51, 52, 53, 54, 55, 56, 57, 58, 59, 60, 61, 62, 63, 64, 65, 66, 67, 89, 90, 91, 92, 93, 94, 95, 96, 97, 98, 99, 100, 101, 102, 103, 104, 105, 106, 107, 108, 109, 110, 111, 112, 113, 114, 115, 116, 117, 118, 119] (by decide +kernel) rfl ?_ rfl ?_
   rotate_left
   · obtain rfl := Option.some.inj ht36
     exact ⟨_, Gst.trans (Gst.only [6, 7, 9, 10, 13, 16, 41, 42, 43, 119] rfl) (Gst.pick [0, 1, 2, 4, 5, 3] rfl rfl), rfl⟩
   refine OpsQ.yes (Want.plain rfl) rfl (OpR.pure rfl) ?_
   refine OpsQ.yes (Want.plain rfl) rfl (OpR.pure rfl) ?_
   refine OpsQ.yes (Want.plain rfl) rfl (OpR.neBool rfl rfl rfl rfl) ?_
   refine OpsQ.yes (Want.plain rfl) rfl (OpR.pure rfl) ?_
   refine OpsQ.no (Want.bool rfl rfl rfl rfl (by rw [(not_f (eq_false_of_ne_true c38))]; rfl)) rfl ?_
   refine OpsQ.no (Want.bool rfl rfl rfl rfl (by rw [(not_f (eq_false_of_ne_true c38))]; rfl)) rfl ?_
   refine OpsQ.yes (Want.plain rfl) rfl (OpR.pickT rfl (not_f (eq_false_of_ne_true c38)) rfl) ?_
   refine OpsQ.yes (Want.plain rfl) rfl (OpR.pure rfl) ?_
   refine OpsQ.no (Want.bool rfl rfl rfl rfl rfl) rfl ?_
   refine OpsQ.no (Want.bool rfl rfl rfl rfl rfl) rfl ?_
   refine OpsQ.no (Want.bool rfl rfl rfl rfl rfl) rfl ?_
   refine OpsQ.no (Want.bool rfl rfl rfl rfl rfl) rfl ?_
   refine OpsQ.no (Want.bool rfl rfl rfl rfl rfl) rfl ?_
   refine OpsQ.no (Want.bool rfl rfl rfl rfl rfl) rfl ?_
   refine OpsQ.no (Want.bool rfl rfl rfl rfl rfl) rfl ?_
   refine OpsQ.no (Want.bool rfl rfl rfl rfl rfl) rfl ?_
   refine OpsQ.yes (Want.plain rfl) rfl (OpR.pickT rfl rfl rfl) ?_
   refine OpsQ.yes (Want.plain rfl) rfl (OpR.pure rfl) ?_
   refine OpsQ.no (Want.bool rfl rfl rfl rfl rfl) rfl ?_
   refine OpsQ.no (Want.bool rfl rfl rfl rfl rfl) rfl ?_
   refine OpsQ.no (Want.bool rfl rfl rfl rfl rfl) rfl ?_
   refine OpsQ.no (Want.bool rfl rfl rfl rfl rfl) rfl ?_
   refine OpsQ.no (Want.bool rfl rfl rfl rfl rfl) rfl ?_
   refine OpsQ.yes (Want.plain rfl) rfl (OpR.pickT rfl rfl rfl) ?_
   refine OpsQ.yes (Want.plain rfl) rfl (OpR.pure rfl) ?_
   refine OpsQ.no (Want.bool rfl rfl rfl rfl rfl) rfl ?_
   refine OpsQ.no (Want.bool rfl rfl rfl rfl rfl) rfl ?_
   refine OpsQ.no (Want.bool rfl rfl rfl rfl rfl) rfl ?_
   refine OpsQ.no (Want.bool rfl rfl rfl rfl rfl) rfl ?_
   refine OpsQ.no (Want.bool rfl rfl rfl rfl rfl) rfl ?_
   refine OpsQ.yes (Want.plain rfl) rfl (OpR.pickT rfl rfl rfl) ?_
   exact OpsQ.nil
 rcases ite_some ht36 with ⟨c39, ht36⟩ | ⟨c39, ht36⟩
 rotate_left
 · refine T.drawQ drawsX [.val (.bool x24.2.1), .val (.bool x27.2), .val (.bool (!(x24.2.1 == x27.2))), .val (.bool (!(x24.2.1 == x27.2))), .val (.int .i64 x24.2.2.1), .val (.bool (!(x24.2.2.1 == 0))), .val (.bool (!(x24.2.2.1 == 0))), .val (.bool (!(x24.2.2.1 == 0))), .tup [], .tup [], .tup [], .tup [], .tup [], .tup [], .tup [], .tup [], .val (.bool true), .val (.bool true), .tup [], .tup [], .tup [], .tup [], .tup [], .val (.bool true), .val (.bool true), .tup [], .tup [], .tup [], .tup [], .tup [], .val (.bool true)] [6, 7, 9, 10, 11, 12, 13, 14, 15, 16, 17, 41, 42, 43, 44, 45, 46, 47, 48, 49, 50, 51, 52, 53, 54, 55, 56, 57, 58, 59, 60, 61, 62, 63, 64, 65, 66, 67, 89, 90, 91, 92, 93, 94, 95, 96, 97, 98, 99, 100, 101, 102, 103, 104, 105, 106, 107, 108, 109, 110, 111, 112, 113, 114, 115, 116, 117, 118, 119] (by decide +kernel) rfl ?_ rfl ?_
   rotate_left
   · obtain rfl := Option.some.inj ht36
     exact ⟨_, Gst.trans (Gst.only [6, 7, 9, 10, 13, 16, 41, 42, 43, 119] rfl) (Gst.pick [0, 1, 2, 4, 5, 3] rfl rfl), rfl⟩
   refine OpsQ.yes (Want.plain rfl) rfl (OpR.pure rfl) ?_
   refine OpsQ.yes (Want.plain rfl) rfl (OpR.pure rfl) ?_
   refine OpsQ.yes (Want.plain rfl) rfl (OpR.neBool rfl rfl rfl rfl) ?_
   refine OpsQ.yes (Want.plain rfl) rfl (OpR.pure rfl) ?_
   refine OpsQ.yes (Want.bool rfl rfl rfl rfl (by rw [(not_t (c38))]; rfl)) rfl (OpR.pure rfl) ?_
   refine OpsQ.yes (Want.bool rfl rfl rfl rfl (by rw [(not_t (c38))]; rfl)) rfl (OpR.pure rfl) ?_
   refine OpsQ.yes (Want.plain rfl) rfl (OpR.pickF rfl (not_t (c38)) rfl) ?_
   refine OpsQ.yes (Want.plain rfl) rfl (OpR.pure rfl) ?_
   refine OpsQ.no (Want.bool rfl rfl rfl rfl (by rw [(not_f (beq_eq_false_iff_ne.2 c39))]; rfl)) rfl ?_
   refine OpsQ.no (Want.bool rfl rfl rfl rfl (by rw [(not_f (beq_eq_false_iff_ne.2 c39))]; rfl)) rfl ?_
   refine OpsQ.no (Want.bool rfl rfl rfl rfl (by rw [(not_f (beq_eq_false_iff_ne.2 c39))]; rfl)) rfl ?_
   refine OpsQ.no (Want.bool rfl rfl rfl rfl (by rw [(not_f (beq_eq_false_iff_ne.2 c39))]; rfl)) rfl ?_
   refine OpsQ.no (Want.bool rfl rfl rfl rfl (by rw [(not_f (beq_eq_false_iff_ne.2 c39))]; rfl)) rfl ?_
   refine OpsQ.no (Want.bool rfl rfl rfl rfl (by rw [(not_f (beq_eq_false_iff_ne.2 c39))]; rfl)) rfl ?_
   refine OpsQ.no (Want.bool rfl rfl rfl rfl (by rw [(not_f (beq_eq_false_iff_ne.2 c39))]; rfl)) rfl ?_
   refine OpsQ.no (Want.bool rfl rfl rfl rfl (by rw [(not_f (beq_eq_false_iff_ne.2 c39))]; rfl)) rfl ?_
   refine OpsQ.yes (Want.plain rfl) rfl (OpR.pickT rfl (not_f (beq_eq_false_iff_ne.2 c39)) rfl) ?_
   refine OpsQ.yes (Want.plain rfl) rfl (OpR.pure rfl) ?_
   refine OpsQ.no (Want.bool rfl rfl rfl rfl rfl) rfl ?_
   refine OpsQ.no (Want.bool rfl rfl rfl rfl rfl) rfl ?_
   refine OpsQ.no (Want.bool rfl rfl rfl rfl rfl) rfl ?_
   refine OpsQ.no (Want.bool rfl rfl rfl rfl rfl) rfl ?_
   refine OpsQ.no (Want.bool rfl rfl rfl rfl rfl) rfl ?_
   refine OpsQ.yes (Want.plain rfl) rfl (OpR.pickT rfl rfl rfl) ?_
   refine OpsQ.yes (Want.plain rfl) rfl (OpR.pure rfl) ?_
   refine OpsQ.no (Want.bool rfl rfl rfl rfl rfl) rfl ?_
   refine OpsQ.no (Want.bool rfl rfl rfl rfl rfl) rfl ?_
   refine OpsQ.no (Want.bool rfl rfl rfl rfl rfl) rfl ?_
   refine OpsQ.no (Want.bool rfl rfl rfl rfl rfl) rfl ?_
   refine OpsQ.no (Want.bool rfl rfl rfl rfl rfl) rfl ?_
   refine OpsQ.yes (Want.plain rfl) rfl (OpR.pickT rfl rfl rfl) ?_
   exact OpsQ.nil
 obtain ⟨x40, hx40, ht36⟩ := bnd_some ht36
 rcases ite_some ht36 with ⟨c41, ht36⟩ | ⟨c41, ht36⟩
 rotate_left
 · refine T.drawQ drawsX [.val (.bool x24.2.1), .val (.bool x27.2), .val (.bool (!(x24.2.1 == x27.2))), .val (.bool (!(x24.2.1 == x27.2))), .val (.int .i64 x24.2.2.1), .val (.bool (!(x24.2.2.1 == 0))), .val (.bool (!(x24.2.2.1 == 0))), .val (.bool (!(x24.2.2.1 == 0))), .val (.pointer (some ⟨(blk p26), 0, none⟩)), .agg [.sl 2 (List.map e_arena_Span x24.1.fT.fL), .val (.int .i64 x24.1.fT.fN)], .val (.pointer (some ⟨(blk (vn w3 0)), 0, none⟩)), .sl 1 (List.map byteD x40), .val (.string (bs x40)), .val (.pointer (some ⟨(blk p28), 0, none⟩)), .val (.string (bs x27.1.fS)), .val (.bool (!(x40 == x27.1.fS))), .val (.bool (!(x40 == x27.1.fS))), .val (.bool (!(x40 == x27.1.fS))), .tup [], .tup [], .tup [], .tup [], .tup [], .val (.bool true), .val (.bool true), .tup [], .tup [], .tup [], .tup [], .tup [], .val (.bool true)] [6, 7, 9, 10, 11, 12, 13, 14, 15, 16, 17, 41, 42, 43, 44, 45, 46, 47, 48, 49, 50, 51, 52, 53, 54, 55, 56, 57, 58, 59, 60, 61, 62, 63, 64, 65, 66, 67, 89, 90, 91, 92, 93, 94, 95, 96, 97, 98, 99, 100, 101, 102, 103, 104, 105, 106, 107, 108, 109, 110, 111, 112, 113, 114, 115, 116, 117, 118, 119] (by decide +kernel) rfl ?_ rfl ?_
   rotate_left
   · obtain rfl := Option.some.inj ht36
     exact ⟨_, Gst.trans (Gst.only [6, 7, 9, 10, 13, 16, 41, 42, 43, 119] rfl) (Gst.pick [0, 1, 2, 4, 5, 3] rfl rfl), rfl⟩
   refine OpsQ.yes (Want.plain rfl) rfl (OpR.pure rfl) ?_
   refine OpsQ.yes (Want.plain rfl) rfl (OpR.pure rfl) ?_
   refine OpsQ.yes (Want.plain rfl) rfl (OpR.neBool rfl rfl rfl rfl) ?_
   refine OpsQ.yes (Want.plain rfl) rfl (OpR.pure rfl) ?_
   refine OpsQ.yes (Want.bool rfl rfl rfl rfl (by rw [(not_t (c38))]; rfl)) rfl (OpR.pure rfl) ?_
   refine OpsQ.yes (Want.bool rfl rfl rfl rfl (by rw [(not_t (c38))]; rfl)) rfl (OpR.pure rfl) ?_
   refine OpsQ.yes (Want.plain rfl) rfl (OpR.pickF rfl (not_t (c38)) rfl) ?_
   refine OpsQ.yes (Want.plain rfl) rfl (OpR.pure rfl) ?_
   refine OpsQ.yes (Want.bool rfl rfl rfl rfl (by rw [(not_t (beq_iff_eq.2 c39))]; rfl)) rfl (OpR.pure rfl) ?_
   refine OpsQ.yes (Want.bool rfl rfl rfl rfl (by rw [(not_t (beq_iff_eq.2 c39))]; rfl)) rfl (OpR.loadPtr 4 rfl rfl rfl rfl) ?_
   refine OpsQ.yes (Want.bool rfl rfl rfl rfl (by rw [(not_t (beq_iff_eq.2 c39))]; rfl)) rfl (OpR.pure rfl) ?_
   refine OpsQ.yes (Want.bool rfl rfl rfl rfl (by rw [(not_t (beq_iff_eq.2 c39))]; rfl)) rfl (OpR.call [0, 3] fn46 (piece_Text_Flat_c hx40) rfl rfl rfl (fun _ => rfl)) ?_
   refine OpsQ.yes (Want.bool rfl rfl rfl rfl (by rw [(not_t (beq_iff_eq.2 c39))]; rfl)) rfl (OpR.toStr (bs := x40) rfl rfl rfl rfl rfl rfl rfl) ?_
   refine OpsQ.yes (Want.bool rfl rfl rfl rfl (by rw [(not_t (beq_iff_eq.2 c39))]; rfl)) rfl (OpR.pure rfl) ?_
   refine OpsQ.yes (Want.bool rfl rfl rfl rfl (by rw [(not_t (beq_iff_eq.2 c39))]; rfl)) rfl (OpR.loadPtr 5 rfl rfl rfl rfl) ?_
   refine OpsQ.yes (Want.bool rfl rfl rfl rfl (by rw [(not_t (beq_iff_eq.2 c39))]; rfl)) rfl (OpR.cast (OpR.pure rfl) (boolE (strNe _ _))) ?_
   refine OpsQ.yes (Want.plain rfl) rfl (OpR.pickF rfl (not_t (beq_iff_eq.2 c39)) rfl) ?_
   refine OpsQ.yes (Want.plain rfl) rfl (OpR.pure rfl) ?_
   refine OpsQ.no (Want.bool rfl rfl rfl rfl (by rw [(not_f (beq_eq_false_iff_ne.2 c41))]; rfl)) rfl ?_
   refine OpsQ.no (Want.bool rfl rfl rfl rfl (by rw [(not_f (beq_eq_false_iff_ne.2 c41))]; rfl)) rfl ?_
   refine OpsQ.no (Want.bool rfl rfl rfl rfl (by rw [(not_f (beq_eq_false_iff_ne.2 c41))]; rfl)) rfl ?_
   refine OpsQ.no (Want.bool rfl rfl rfl rfl (by rw [(not_f (beq_eq_false_iff_ne.2 c41))]; rfl)) rfl ?_
   refine OpsQ.no (Want.bool rfl rfl rfl rfl (by rw [(not_f (beq_eq_false_iff_ne.2 c41))]; rfl)) rfl ?_
   refine OpsQ.yes (Want.plain rfl) rfl (OpR.pickT rfl (not_f (beq_eq_false_iff_ne.2 c41)) rfl) ?_
   refine OpsQ.yes (Want.plain rfl) rfl (OpR.pure rfl) ?_
   refine OpsQ.no (Want.bool rfl rfl rfl rfl rfl) rfl ?_
   refine OpsQ.no (Want.bool rfl rfl rfl rfl rfl) rfl ?_
   refine OpsQ.no (Want.bool rfl rfl rfl rfl rfl) rfl ?_
   refine OpsQ.no (Want.bool rfl rfl rfl rfl rfl) rfl ?_
   refine OpsQ.no (Want.bool rfl rfl rfl rfl rfl) rfl ?_
   refine OpsQ.yes (Want.plain rfl) rfl (OpR.pickT rfl rfl rfl) ?_
   exact OpsQ.nil
 rcases ite_some ht36 with ⟨c42, ht36⟩ | ⟨c42, ht36⟩
 rotate_left
 · refine T.drawQ drawsX [.val (.bool x24.2.1), .val (.bool x27.2), .val (.bool (!(x24.2.1 == x27.2))), .val (.bool (!(x24.2.1 == x27.2))), .val (.int .i64 x24.2.2.1), .val (.bool (!(x24.2.2.1 == 0))), .val (.bool (!(x24.2.2.1 == 0))), .val (.bool (!(x24.2.2.1 == 0))), .val (.pointer (some ⟨(blk p26), 0, none⟩)), .agg [.sl 2 (List.map e_arena_Span x24.1.fT.fL), .val (.int .i64 x24.1.fT.fN)], .val (.pointer (some ⟨(blk (vn w3 0)), 0, none⟩)), .sl 1 (List.map byteD x40), .val (.string (bs x40)), .val (.pointer (some ⟨(blk p28), 0, none⟩)), .val (.string (bs x27.1.fS)), .val (.bool (!(x40 == x27.1.fS))), .val (.bool (!(x40 == x27.1.fS))), .val (.bool (!(x40 == x27.1.fS))), .val (.pointer (some ⟨(blk p26), 2, none⟩)), .val (.int .i64 x24.1.fAt), .val (.pointer (some ⟨(blk p28), 1, none⟩)), .val (.int .i64 x27.1.fAt), .val (.bool (!(x24.1.fAt == x27.1.fAt))), .val (.bool (!(x24.1.fAt == x27.1.fAt))), .val (.bool (!(x24.1.fAt == x27.1.fAt))), .tup [], .tup [], .tup [], .tup [], .tup [], .val (.bool true)] [6, 7, 9, 10, 11, 12, 13, 14, 15, 16, 17, 41, 42, 43, 44, 45, 46, 47, 48, 49, 50, 51, 52, 53, 54, 55, 56, 57, 58, 59, 60, 61, 62, 63, 64, 65, 66, 67, 89, 90, 91, 92, 93, 94, 95, 96, 97, 98, 99, 100, 101, 102, 103, 104, 105, 106, 107, 108, 109, 110, 111, 112, 113, 114, 115, 116, 117, 118, 119] (by decide +kernel) rfl ?_ rfl ?_
   rotate_left
   · obtain rfl := Option.some.inj ht36
     exact ⟨_, Gst.trans (Gst.only [6, 7, 9, 10, 13, 16, 41, 42, 43, 119] rfl) (Gst.pick [0, 1, 2, 4, 5, 3] rfl rfl), rfl⟩
   refine OpsQ.yes (Want.plain rfl) rfl (OpR.pure rfl) ?_
   refine OpsQ.yes (Want.plain rfl) rfl (OpR.pure rfl) ?_
   refine OpsQ.yes (Want.plain rfl) rfl (OpR.neBool rfl rfl rfl rfl) ?_
   refine OpsQ.yes (Want.plain rfl) rfl (OpR.pure rfl) ?_
   refine OpsQ.yes (Want.bool rfl rfl rfl rfl (by rw [(not_t (c38))]; rfl)) rfl (OpR.pure rfl) ?_
   refine OpsQ.yes (Want.bool rfl rfl rfl rfl (by rw [(not_t (c38))]; rfl)) rfl (OpR.pure rfl) ?_
   refine OpsQ.yes (Want.plain rfl) rfl (OpR.pickF rfl (not_t (c38)) rfl) ?_
   refine OpsQ.yes (Want.plain rfl) rfl (OpR.pure rfl) ?_
   refine OpsQ.yes (Want.bool rfl rfl rfl rfl (by rw [(not_t (beq_iff_eq.2 c39))]; rfl)) rfl (OpR.pure rfl) ?_
   refine OpsQ.yes (Want.bool rfl rfl rfl rfl (by rw [(not_t (beq_iff_eq.2 c39))]; rfl)) rfl (OpR.loadPtr 4 rfl rfl rfl rfl) ?_
   refine OpsQ.yes (Want.bool rfl rfl rfl rfl (by rw [(not_t (beq_iff_eq.2 c39))]; rfl)) rfl (OpR.pure rfl) ?_
   refine OpsQ.yes (Want.bool rfl rfl rfl rfl (by rw [(not_t (beq_iff_eq.2 c39))]; rfl)) rfl (OpR.call [0, 3] fn46 (piece_Text_Flat_c hx40) rfl rfl rfl (fun _ => rfl)) ?_
   refine OpsQ.yes (Want.bool rfl rfl rfl rfl (by rw [(not_t (beq_iff_eq.2 c39))]; rfl)) rfl (OpR.toStr (bs := x40) rfl rfl rfl rfl rfl rfl rfl) ?_
   refine OpsQ.yes (Want.bool rfl rfl rfl rfl (by rw [(not_t (beq_iff_eq.2 c39))]; rfl)) rfl (OpR.pure rfl) ?_
   refine OpsQ.yes (Want.bool rfl rfl rfl rfl (by rw [(not_t (beq_iff_eq.2 c39))]; rfl)) rfl (OpR.loadPtr 5 rfl rfl rfl rfl) ?_
   refine OpsQ.yes (Want.bool rfl rfl rfl rfl (by rw [(not_t (beq_iff_eq.2 c39))]; rfl)) rfl (OpR.cast (OpR.pure rfl) (boolE (strNe _ _))) ?_
   refine OpsQ.yes (Want.plain rfl) rfl (OpR.pickF rfl (not_t (beq_iff_eq.2 c39)) rfl) ?_
   refine OpsQ.yes (Want.plain rfl) rfl (OpR.pure rfl) ?_
   refine OpsQ.yes (Want.bool rfl rfl rfl rfl (by rw [(not_t (beq_iff_eq.2 c41))]; rfl)) rfl (OpR.pure rfl) ?_
   refine OpsQ.yes (Want.bool rfl rfl rfl rfl (by rw [(not_t (beq_iff_eq.2 c41))]; rfl)) rfl (OpR.loadPtr 4 rfl rfl rfl rfl) ?_
   refine OpsQ.yes (Want.bool rfl rfl rfl rfl (by rw [(not_t (beq_iff_eq.2 c41))]; rfl)) rfl (OpR.pure rfl) ?_
   refine OpsQ.yes (Want.bool rfl rfl rfl rfl (by rw [(not_t (beq_iff_eq.2 c41))]; rfl)) rfl (OpR.loadPtr 5 rfl rfl rfl rfl) ?_
   refine OpsQ.yes (Want.bool rfl rfl rfl rfl (by rw [(not_t (beq_iff_eq.2 c41))]; rfl)) rfl (OpR.pure rfl) ?_
   refine OpsQ.yes (Want.plain rfl) rfl (OpR.pickF rfl (not_t (beq_iff_eq.2 c41)) rfl) ?_
   refine OpsQ.yes (Want.plain rfl) rfl (OpR.pure rfl) ?_
   refine OpsQ.no (Want.bool rfl rfl rfl rfl (by rw [(not_f (beq_eq_false_iff_ne.2 c42))]; rfl)) rfl ?_
   refine OpsQ.no (Want.bool rfl rfl rfl rfl (by rw [(not_f (beq_eq_false_iff_ne.2 c42))]; rfl)) rfl ?_
   refine OpsQ.no (Want.bool rfl rfl rfl rfl (by rw [(not_f (beq_eq_false_iff_ne.2 c42))]; rfl)) rfl ?_
   refine OpsQ.no (Want.bool rfl rfl rfl rfl (by rw [(not_f (beq_eq_false_iff_ne.2 c42))]; rfl)) rfl ?_
   refine OpsQ.no (Want.bool rfl rfl rfl rfl (by rw [(not_f (beq_eq_false_iff_ne.2 c42))]; rfl)) rfl ?_
   refine OpsQ.yes (Want.plain rfl) rfl (OpR.pickT rfl (not_f (beq_eq_false_iff_ne.2 c42)) rfl) ?_
   exact OpsQ.nil
 obtain ⟨x43, hx43, ht36⟩ := bnd_some ht36
 refine T.drawQ drawsX [.val (.bool x24.2.1), .val (.bool x27.2), .val (.bool (!(x24.2.1 == x27.2))), .val (.bool (!(x24.2.1 == x27.2))), .val (.int .i64 x24.2.2.1), .val (.bool (!(x24.2.2.1 == 0))), .val (.bool (!(x24.2.2.1 == 0))), .val (.bool (!(x24.2.2.1 == 0))), .val (.pointer (some ⟨(blk p26), 0, none⟩)), .agg [.sl 2 (List.map e_arena_Span x24.1.fT.fL), .val (.int .i64 x24.1.fT.fN)], .val (.pointer (some ⟨(blk (vn w3 0)), 0, none⟩)), .sl 1 (List.map byteD x40), .val (.string (bs x40)), .val (.pointer (some ⟨(blk p28), 0, none⟩)), .val (.string (bs x27.1.fS)), .val (.bool (!(x40 == x27.1.fS))), .val (.bool (!(x40 == x27.1.fS))), .val (.bool (!(x40 == x27.1.fS))), .val (.pointer (some ⟨(blk p26), 2, none⟩)), .val (.int .i64 x24.1.fAt), .val (.pointer (some ⟨(blk p28), 1, none⟩)), .val (.int .i64 x27.1.fAt), .val (.bool (!(x24.1.fAt == x27.1.fAt))), .val (.bool (!(x24.1.fAt == x27.1.fAt))), .val (.bool (!(x24.1.fAt == x27.1.fAt))), .val (.pointer (some ⟨(blk p26), 0, none⟩)), .agg [.sl 2 (List.map e_arena_Span x24.1.fT.fL), .val (.int .i64 x24.1.fT.fN)], .sl 2 (List.map e_arena_Span x43), .val (.int .i64 (x43.length : Int)), .val (.bool (decide ((x43.length : Int) > 32))), .val (.bool (decide ((x43.length : Int) > 32)))] [6, 7, 9, 10, 11, 12, 13, 14, 15, 16, 17, 41, 42, 43, 44, 45, 46, 47, 48, 49, 50, 51, 52, 53, 54, 55, 56, 57, 58, 59, 60, 61, 62, 63, 64, 65, 66, 67, 89, 90, 91, 92, 93, 94, 95, 96, 97, 98, 99, 100, 101, 102, 103, 104, 105, 106, 107, 108, 109, 110, 111, 112, 113, 114, 115, 116, 117, 118, 119] (by decide +kernel) rfl ?_ rfl ?_
 rotate_left
 · obtain rfl := Option.some.inj ht36
   exact ⟨_, Gst.trans (Gst.only [6, 7, 9, 10, 13, 16, 41, 42, 43, 119] rfl) (Gst.pick [0, 1, 2, 4, 5, 3] rfl rfl), rfl⟩
 refine OpsQ.yes (Want.plain rfl) rfl (OpR.pure rfl) ?_
 refine OpsQ.yes (Want.plain rfl) rfl (OpR.pure rfl) ?_
 refine OpsQ.yes (Want.plain rfl) rfl (OpR.neBool rfl rfl rfl rfl) ?_
 refine OpsQ.yes (Want.plain rfl) rfl (OpR.pure rfl) ?_
 refine OpsQ.yes (Want.bool rfl rfl rfl rfl (by rw [(not_t (c38))]; rfl)) rfl (OpR.pure rfl) ?_
 refine OpsQ.yes (Want.bool rfl rfl rfl rfl (by rw [(not_t (c38))]; rfl)) rfl (OpR.pure rfl) ?_
 refine OpsQ.yes (Want.plain rfl) rfl (OpR.pickF rfl (not_t (c38)) rfl) ?_
 refine OpsQ.yes (Want.plain rfl) rfl (OpR.pure rfl) ?_
 refine OpsQ.yes (Want.bool rfl rfl rfl rfl (by rw [(not_t (beq_iff_eq.2 c39))]; rfl)) rfl (OpR.pure rfl) ?_
 refine OpsQ.yes (Want.bool rfl rfl rfl rfl (by rw [(not_t (beq_iff_eq.2 c39))]; rfl)) rfl (OpR.loadPtr 4 rfl rfl rfl rfl) ?_
 refine OpsQ.yes (Want.bool rfl rfl rfl rfl (by rw [(not_t (beq_iff_eq.2 c39))]; rfl)) rfl (OpR.pure rfl) ?_
 refine OpsQ.yes (Want.bool rfl rfl rfl rfl (by rw [(not_t (beq_iff_eq.2 c39))]; rfl)) rfl (OpR.call [0, 3] fn46 (piece_Text_Flat_c hx40) rfl rfl rfl (fun _ => rfl)) ?_
 refine OpsQ.yes (Want.bool rfl rfl rfl rfl (by rw [(not_t (beq_iff_eq.2 c39))]; rfl)) rfl (OpR.toStr (bs := x40) rfl rfl rfl rfl rfl rfl rfl) ?_
 refine OpsQ.yes (Want.bool rfl rfl rfl rfl (by rw [(not_t (beq_iff_eq.2 c39))]; rfl)) rfl (OpR.pure rfl) ?_
 refine OpsQ.yes (Want.bool rfl rfl rfl rfl (by rw [(not_t (beq_iff_eq.2 c39))]; rfl)) rfl (OpR.loadPtr 5 rfl rfl rfl rfl) ?_
 refine OpsQ.yes (Want.bool rfl rfl rfl rfl (by rw [(not_t (beq_iff_eq.2 c39))]; rfl)) rfl (OpR.cast (OpR.pure rfl) (boolE (strNe _ _))) ?_
 refine OpsQ.yes (Want.plain rfl) rfl (OpR.pickF rfl (not_t (beq_iff_eq.2 c39)) rfl) ?_
 refine OpsQ.yes (Want.plain rfl) rfl (OpR.pure rfl) ?_
 refine OpsQ.yes (Want.bool rfl rfl rfl rfl (by rw [(not_t (beq_iff_eq.2 c41))]; rfl)) rfl (OpR.pure rfl) ?_
 refine OpsQ.yes (Want.bool rfl rfl rfl rfl (by rw [(not_t (beq_iff_eq.2 c41))]; rfl)) rfl (OpR.loadPtr 4 rfl rfl rfl rfl) ?_
 refine OpsQ.yes (Want.bool rfl rfl rfl rfl (by rw [(not_t (beq_iff_eq.2 c41))]; rfl)) rfl (OpR.pure rfl) ?_
 refine OpsQ.yes (Want.bool rfl rfl rfl rfl (by rw [(not_t (beq_iff_eq.2 c41))]; rfl)) rfl (OpR.loadPtr 5 rfl rfl rfl rfl) ?_
 refine OpsQ.yes (Want.bool rfl rfl rfl rfl (by rw [(not_t (beq_iff_eq.2 c41))]; rfl)) rfl (OpR.pure rfl) ?_
 refine OpsQ.yes (Want.plain rfl) rfl (OpR.pickF rfl (not_t (beq_iff_eq.2 c41)) rfl) ?_
 refine OpsQ.yes (Want.plain rfl) rfl (OpR.pure rfl) ?_
 refine OpsQ.yes (Want.bool rfl rfl rfl rfl (by rw [(not_t (beq_iff_eq.2 c42))]; rfl)) rfl (OpR.pure rfl) ?_
 refine OpsQ.yes (Want.bool rfl rfl rfl rfl (by rw [(not_t (beq_iff_eq.2 c42))]; rfl)) rfl (OpR.loadPtr 4 rfl rfl rfl rfl) ?_
 refine OpsQ.yes (Want.bool rfl rfl rfl rfl (by rw [(not_t (beq_iff_eq.2 c42))]; rfl)) rfl (OpR.call0 fn47 (piece_Text_Spans_c hx43) rfl) ?_
 refine OpsQ.yes (Want.bool rfl rfl rfl rfl (by rw [(not_t (beq_iff_eq.2 c42))]; rfl)) rfl (OpR.cast (OpR.pure rfl) (intE (lenM _ _))) ?_
 refine OpsQ.yes (Want.bool rfl rfl rfl rfl (by rw [(not_t (beq_iff_eq.2 c42))]; rfl)) rfl (OpR.pure rfl) ?_
 refine OpsQ.yes (Want.plain rfl) rfl (OpR.pickF rfl (not_t (beq_iff_eq.2 c42)) rfl) ?_
 exact OpsQ.nil
end Go.Proofs.Ytbcbggdgkdfciaa.S
