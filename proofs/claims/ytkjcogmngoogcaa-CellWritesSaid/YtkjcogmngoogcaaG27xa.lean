/- Printed by a program of this session's own (gen.py): Lean functions for Go functions, and the proofs that the Go code comes to their answers. -/
import Derived.Test.YtkjcogmngoogcaaG21xa
import Derived.Test.YtkjcogmngoogcaaG17xa
import Derived.Test.YtkjcogmngoogcaaG3xa
import Derived.Test.YtkjcogmngoogcaaG20xa
import Derived.Test.YtkjcogmngoogcaaG22xa
set_option linter.unusedVariables false
set_option linter.unusedSimpArgs false
namespace Go.Proofs.Ytkjcogmngoogcaa.S
open Go Go.Sm
attribute [local irreducible] T TL OpR CallT iter loop
noncomputable def law07_CellWrites.l1 (a1 : law07_Cut) (t7 : (List arena_Span) × Int × Int × Int × Bool) (x12 : arena_Span × Int × (List UInt8)) (s18 : Int × (List arena_Span) × Int) : Option (Lp (Int × (List arena_Span) × Int) ((List arena_Span) × Int)) :=
  if s18.1 < ((ub (rem (a1.fTimes.toNat : Int) 39)).toNat : Int) then
    bnd (piece_Of [x12.1]) fun x28 =>
    bnd (piece_Text_Slice (⟨t7.1, t7.2.1⟩ : piece_Text) 0 2) fun x29 =>
    bnd (piece_Concat [(⟨s18.2.1, s18.2.2⟩ : piece_Text), x28, x29]) fun x30 =>
    some (Lp.next (w64 (s18.1 + 1), x30.fL, x30.fN))
  else
    some (Lp.done (s18.2.1, s18.2.2))
noncomputable def law07_CellWrites (a0 : List UInt8) (a1 : law07_Cut) : Option Bool :=
  bnd (law07_cut a0 300) fun x1 =>
  bnd (arena_New x1) fun x2 =>
  match x2 with
  | .inl x2 =>
      some false
  | .inr x2 =>
      bnd (scan_One x1 0) fun x5 =>
      bnd (if (x5.1.fFields.length : Int) > 0 then
        bnd (idx x5.1.fFields 0) fun x9 =>
        bnd (cell_Load x9) fun x10 =>
        some (x10.fText.fL, x10.fText.fN, x10.fRaw.fAt, x10.fRaw.fN, x10.fKept)
      else
        some ([], 0, 0, 0, false) : Option ((List arena_Span) × Int × Int × Int × Bool)) fun t7 =>
      bnd (law07_cut a1.fMore 100) fun x11 =>
      bnd (arena_Arena_Add x11 x2.2) fun x12 =>
      bnd (piece_Text_Slice (⟨t7.1, t7.2.1⟩ : piece_Text) a1.fI a1.fJ) fun x15 =>
      bnd (loop (law07_CellWrites.l1 a1 t7 x12) (0, x15.fL, x15.fN) : Option ((List arena_Span) × Int)) fun t17 =>
      bnd (piece_Text_Flat (⟨t17.1, t17.2⟩ : piece_Text) x12.2.2) fun x31 =>
      bnd (cell_Cell_Write (⟨(⟨t7.1, t7.2.1⟩ : piece_Text), (⟨t7.2.2.1, t7.2.2.2.1⟩ : arena_Span), t7.2.2.2.2⟩ : cell_Cell) (⟨t17.1, t17.2⟩ : piece_Text) x12.2.2) fun x32 =>
      if (x31.length : Int) > 400 then
        bnd (if x32.2.1 = 7 then
          bnd (cell_Cell_Empty x32.1) fun x38 =>
          if x38 = true then
            if x32.1.fKept = true then
              some false
            else
              bnd (law07_awake) fun x41 =>
              some x41
          else
            some false
        else
          some false : Option Bool) fun t36 =>
        some t36
      else
        bnd (if x32.2.1 = 0 then
          bnd (law07_Plain_2 x32.1 x32.2.2) fun x44 =>
          if x44 = (⟨x31, [], false⟩ : ref07_Cell) then
            bnd (piece_Text_Spans x32.1.fText) fun x46 =>
            if (x46.length : Int) ≤ 32 then
              bnd (law07_awake) fun x48 =>
              some x48
            else
              some false
          else
            some false
        else
          some false : Option Bool) fun t42 =>
        some t42
set_option maxHeartbeats 4000000 in
theorem law07_CellWrites_c {a0 : List UInt8} {a1 : law07_Cut} {res : Bool} (h0 : law07_CellWrites a0 a1 = some res) : CallF X 13 [.val (.string (bs a0)), .agg [.val (.int .i64 a1.fI), .val (.int .i64 a1.fJ), .val (.int .u8 (a1.fTimes.toNat : Int)), .val (.string (bs a1.fMore))]] [] (fun x => .val (.bool res)) (fun x => []) := by
 unfold law07_CellWrites at h0
 refine CallF.mkG (X := X) Try.func13 rfl rfl Try.ntmps13 rfl rfl ?_
 refine T.seq ?_
 refine T.region ?_
 refine TL.op1 (OpR.boxImm rfl rfl) rfl ?_
 refine TL.op1 (OpR.pure rfl) rfl ?_
 refine TL.nil ?_
 show T X _ _ _
 refine T.seq ?_
 refine T.region ?_
 refine TL.op1 (OpR.pure rfl) rfl ?_
 obtain ⟨x1, hx1, h0⟩ := bnd_some h0
 refine TL.op1 (OpR.call0 fn42 (law07_cut_c hx1) rfl) rfl ?_
 refine TL.op1 (OpR.pure rfl) rfl ?_
 refine TL.nil ?_
 show T X _ _ _
 refine T.seq ?_
 refine T.region ?_
 refine TL.op1 (OpR.pure rfl) rfl ?_
 refine TL.op1 (OpR.toBytesM rfl rfl rfl rfl rfl rfl rfl) rfl ?_
 obtain ⟨x2, hx2, h0⟩ := bnd_some h0
 rcases x2 with x2 | x2
 · dsimp only at h0
   refine TL.op1 (OpR.call0 fn43 (arena_New_cx1 hx2) rfl) rfl ?_
   refine TL.op1 (OpR.pure rfl) rfl ?_
   refine TL.op1 (OpR.pure rfl) rfl ?_
   refine TL.op1 (OpR.pure rfl) rfl ?_
   refine TL.op1 (OpR.pure rfl) rfl ?_
   refine TL.op1 (OpR.pure rfl) rfl ?_
   refine TL.nil ?_
   show T X _ _ _
   refine T.seq ?_
   refine T.seq ?_
   refine T.region ?_
   refine TL.op1 (OpR.pure rfl) rfl ?_
   refine TL.op1 (OpR.ptrNil rfl rfl rfl) rfl ?_
   refine TL.nil ?_
   show T X _ _ _
   refine T.condT rfl rfl ?_
   refine T.seq ?_
   refine T.region ?_
   refine TL.op1 (OpR.pure rfl) rfl ?_
   refine TL.nil ?_
   show T X _ _ _
   refine T.ret ?_
   obtain rfl := Option.some.inj h0
   exact PostG.retP (ks := []) (Gst.only [4] rfl) undef (ResL.cons (ResV.tmp rfl) ResL.nil) rfl rfl rfl rfl
 dsimp only at h0
 refine TL.op (OpR.call [] fn43 (arena_New_cx2 hx2) rfl rfl rfl (fun _ => rfl)) rfl (fun w3 => ?_)
 refine TL.op1 (OpR.pure rfl) rfl ?_
 refine TL.op1 (OpR.pure rfl) rfl ?_
 refine TL.op1 (OpR.pure rfl) rfl ?_
 refine TL.op1 (OpR.pure rfl) rfl ?_
 refine TL.op1 (OpR.pure rfl) rfl ?_
 refine TL.nil ?_
 show T X _ _ _
 refine T.seq ?_
 refine T.seq ?_
 refine T.region ?_
 refine TL.op1 (OpR.pure rfl) rfl ?_
 refine TL.op1 (OpR.ptrNil rfl rfl rfl) rfl ?_
 refine TL.nil ?_
 show T X _ _ _
 refine T.condF rfl rfl ?_
 refine T.skip ?_
 show T X _ _ _
 refine T.seq ?_
 refine T.region ?_
 refine TL.op (OpR.alloc rfl rfl (fun _ => rfl)) rfl (fun p4 => ?_)
 refine TL.nil ?_
 show T X _ _ _
 refine T.seq ?_
 refine T.region ?_
 refine TL.op1 (OpR.pure rfl) rfl ?_
 refine TL.op1 (OpR.toBytesM rfl rfl rfl rfl rfl rfl rfl) rfl ?_
 obtain ⟨x5, hx5, h0⟩ := bnd_some h0
 refine TL.op1 (OpR.call0 fn54 (scan_One_c hx5) rfl) rfl ?_
 refine TL.op1 (OpR.pure rfl) rfl ?_
 refine TL.op1 (OpR.pure rfl) rfl ?_
 refine TL.op1 (OpR.pure rfl) rfl ?_
 refine TL.op (OpR.alloc rfl rfl (fun _ => rfl)) rfl (fun p6 => ?_)
 refine TL.op0 (OpR.store 3 rfl rfl rfl rfl rfl rfl rfl rfl) ?_
 refine TL.op1 (OpR.pure rfl) rfl ?_
 refine TL.nil ?_
 show T X _ _ _
 refine T.seq ?_
 refine T.seq ?_
 refine T.region ?_
 refine TL.op1 (OpR.pure rfl) rfl ?_
 refine TL.op1 (OpR.loadPtr 3 rfl rfl rfl rfl) rfl ?_
 refine TL.op1 (OpR.cast (OpR.pure rfl) (intE (lenM _ _))) rfl ?_
 refine TL.op1 (OpR.pure rfl) rfl ?_
 refine TL.nil ?_
 show T X _ _ _
 obtain ⟨t7, ht7, h0⟩ := bnd_some h0
 refine T.cutC (fun S' => S' = ⟨[(7, .val (.pointer (some ⟨(blk p4), 0, none⟩))), (5, .val (.pointer (some ⟨(blk (vn w3 0)), 0, none⟩))), (4, .val (.bool false)), (3, .nod [.val (.int .i64 a1.fI), .val (.int .i64 a1.fJ), .val (.int .u8 (a1.fTimes.toNat : Int)), .val (.string (bs a1.fMore))])], [.var (blk (vn w3 0)) [.val (vn w3 1)] 127, .var (blk p4) [.sl 2 (List.map e_arena_Span t7.1), .val (.int .i64 t7.2.1), .val (.int .i64 t7.2.2.1), .val (.int .i64 t7.2.2.2.1), .val (.bool t7.2.2.2.2)] 83, .row (vn w3 1) (List.map byteD x2.2) 1 5], 123⟩) (fun _ h => h) ?_ ?_
 · rcases ite_some ht7 with ⟨c8, ht7⟩ | ⟨c8, ht7⟩
   rotate_left
   · refine T.condF rfl (decide_eq_false c8) ?_
     refine T.skip ?_
     obtain rfl := Option.some.inj ht7
     exact ⟨_, Gst.trans (Gst.only [3, 4, 5, 7] rfl) (Gst.trans (Gst.denil (ReS.cons Re.refl (ReS.cons Re.refl (ReS.cons Re.refl (ReS.cons Re.refl ReS.nil)))) (ReO.var (ReL.cons Re.refl ReL.nil) (ReO.same (ReO.var (ReL.cons (Re.base .nil) (ReL.cons Re.refl (ReL.cons Re.refl (ReL.cons Re.refl (ReL.cons Re.refl ReL.nil))))) (ReO.same ReO.nil))))) (Gst.pick [0, 2, 1] rfl rfl)), rfl⟩
   refine T.condT rfl (decide_eq_true c8) ?_
   refine T.region ?_
   refine TL.op1 (OpR.pure rfl) rfl ?_
   refine TL.op1 (OpR.loadPtr 3 rfl rfl rfl rfl) rfl ?_
   obtain ⟨x9, hx9, ht7⟩ := bnd_some ht7
   refine TL.op1 (OpR.indexM e_scan_Field hx9 rfl rfl rfl rfl rfl) rfl ?_
   refine TL.op1 (OpR.pure rfl) rfl ?_
   obtain ⟨x10, hx10, ht7⟩ := bnd_some ht7
   refine TL.op1 (OpR.call0 fn44 (cell_Load_c hx10) rfl) rfl ?_
   refine TL.op0 (OpR.store 2 rfl rfl rfl rfl rfl rfl rfl rfl) ?_
   refine TL.nil ?_
   obtain rfl := Option.some.inj ht7
   exact ⟨_, Gst.trans (Gst.only [3, 4, 5, 7] rfl) (Gst.pick [0, 2, 1] rfl rfl), rfl⟩
 rintro _ rfl
 show T X _ _ _
 refine T.seq ?_
 refine T.region ?_
 refine TL.op1 (OpR.pure rfl) rfl ?_
 refine TL.op1 (OpR.pure rfl) rfl ?_
 refine TL.op1 (OpR.pure rfl) rfl ?_
 obtain ⟨x11, hx11, h0⟩ := bnd_some h0
 refine TL.op1 (OpR.call0 fn42 (law07_cut_c hx11) rfl) rfl ?_
 refine TL.op1 (OpR.toBytesM rfl rfl rfl rfl rfl rfl rfl) rfl ?_
 obtain ⟨x12, hx12, h0⟩ := bnd_some h0
 refine TL.op (OpR.call [0, 2] fn32 (arena_Arena_Add_c_2 hx12) rfl rfl rfl (fun _ => rfl)) rfl (fun w13 => ?_)
 refine TL.op1 (OpR.pure rfl) rfl ?_
 refine TL.op1 (OpR.pure rfl) rfl ?_
 refine TL.op1 (OpR.pure rfl) rfl ?_
 refine TL.op (OpR.alloc rfl rfl (fun _ => rfl)) rfl (fun p14 => ?_)
 refine TL.op0 (OpR.store 3 rfl rfl rfl rfl rfl rfl rfl rfl) ?_
 refine TL.op1 (OpR.pure rfl) rfl ?_
 refine TL.nil ?_
 show T X _ _ _
 refine T.seq ?_
 refine T.region ?_
 refine TL.op1 (OpR.pure rfl) rfl ?_
 refine TL.op1 (OpR.loadPtr 1 rfl rfl rfl rfl) rfl ?_
 refine TL.op1 (OpR.pure rfl) rfl ?_
 refine TL.op1 (OpR.pure rfl) rfl ?_
 refine TL.op1 (OpR.pure rfl) rfl ?_
 refine TL.op1 (OpR.pure rfl) rfl ?_
 obtain ⟨x15, hx15, h0⟩ := bnd_some h0
 refine TL.op1 (OpR.call0 fn55 (piece_Text_Slice_c hx15) rfl) rfl ?_
 refine TL.op (OpR.alloc rfl rfl (fun _ => rfl)) rfl (fun p16 => ?_)
 refine TL.op0 (OpR.store 4 rfl rfl rfl rfl rfl rfl rfl rfl) ?_
 refine TL.nil ?_
 show T X _ _ _
 refine T.seq ?_
 refine T.seq ?_
 refine T.region ?_
 refine TL.op1 (OpR.pure rfl) rfl ?_
 refine TL.nil ?_
 show T X _ _ _
 obtain ⟨t17, ht17, h0⟩ := bnd_some h0
 refine T.cutC (fun S' => S' = ⟨[(12, .val (.pointer (some ⟨(blk p16), 0, none⟩))), (7, .val (.pointer (some ⟨(blk p4), 0, none⟩))), (5, .val (.pointer (some ⟨(blk (vn w3 0)), 0, none⟩))), (4, .val (.bool false))], [.var (blk (vn w3 0)) [.val (vn w13 0)] 127, .var (blk p4) [.sl 2 (List.map e_arena_Span t7.1), .val (.int .i64 t7.2.1), .val (.int .i64 t7.2.2.1), .val (.int .i64 t7.2.2.2.1), .val (.bool t7.2.2.2.2)] 83, .var (blk p16) [.sl 2 (List.map e_arena_Span t17.1), .val (.int .i64 t17.2)] 59, .row (vn w13 0) (List.map byteD x12.2.2) 1 5], 123⟩) (fun _ h => h) ?_ ?_
 · refine T.block ?_
   obtain ⟨n19, n24⟩ := loop_some ht17
   refine T.loop (fun n S' => ∃ S'', Gst S' S'' ∧ ∃ s18 : Int × (List arena_Span) × Int, S'' = ⟨[(13, .val (.int .i64 s18.1)), (12, .val (.pointer (some ⟨(blk p16), 0, none⟩))), (10, .val (.pointer (some ⟨(blk p14), 0, none⟩))), (7, .val (.pointer (some ⟨(blk p4), 0, none⟩))), (5, .val (.pointer (some ⟨(blk (vn w3 0)), 0, none⟩))), (4, .val (.bool false)), (3, .nod [.val (.int .i64 a1.fI), .val (.int .i64 a1.fJ), .val (.int .u8 (a1.fTimes.toNat : Int)), .val (.string (bs a1.fMore))])], [.var (blk (vn w3 0)) [.val (vn w13 0)] 127, .var (blk p4) [.sl 2 (List.map e_arena_Span t7.1), .val (.int .i64 t7.2.1), .val (.int .i64 t7.2.2.1), .val (.int .i64 t7.2.2.2.1), .val (.bool t7.2.2.2.2)] 83, .var (blk p14) [.val (.int .i64 x12.1.fAt), .val (.int .i64 x12.1.fN)] 50, .var (blk p16) [.sl 2 (List.map e_arena_Span s18.2.1), .val (.int .i64 s18.2.2)] 59, .row (vn w13 0) (List.map byteD x12.2.2) 1 5], 123⟩ ∧ iter (law07_CellWrites.l1 a1 t7 x12) n s18 = some t17) n19 ?_ ?_
   · exact ⟨_, Gst.trans (Gst.only [3, 4, 5, 7, 10, 12, 13] rfl) (Gst.pick [0, 1, 3, 4, 2] rfl rfl), (0, x15.fL, x15.fN), rfl, n24⟩
   rintro n19 _ ⟨_, g, s18, rfl, i23⟩
   refine T.ghost g ?_
   obtain ⟨m20, q21, rfl, q22, i23⟩ := iter_succ i23
   unfold law07_CellWrites.l1 at q22
   refine T.seq ?_
   refine T.seq ?_
   refine T.region ?_
   refine TL.op1 (OpR.pure rfl) rfl ?_
   refine TL.op1 (OpR.pure rfl) rfl ?_
   refine TL.op1 (OpR.pure rfl) rfl ?_
   refine TL.op1 (OpR.cast (OpR.pure rfl) (intE (u8_rem _ _))) rfl ?_
   refine TL.op1 (OpR.cast (OpR.pure rfl) (intE (w64_u8 _))) rfl ?_
   refine TL.op1 (OpR.pure rfl) rfl ?_
   refine TL.nil ?_
   show T X _ _ _
   rcases ite_some q22 with ⟨c26, q22⟩ | ⟨c26, q22⟩
   rotate_left
   · refine T.condF rfl (decide_eq_false c26) ?_
     refine T.exit ?_
     obtain rfl := Option.some.inj q22
     obtain rfl : _ = _ := i23
     exact ⟨_, Gst.trans (Gst.only [4, 5, 7, 12] rfl) (Gst.pick [0, 1, 3, 4] rfl rfl), rfl⟩
   refine T.condT rfl (decide_eq_true c26) ?_
   refine T.skip ?_
   show T X _ _ _
   refine T.seq ?_
   refine T.block ?_
   obtain ⟨x28, hx28, q22⟩ := bnd_some q22
   obtain ⟨x29, hx29, q22⟩ := bnd_some q22
   obtain ⟨x30, hx30, q22⟩ := bnd_some q22
   refine T.drawS drawsX (fun env27 => [.agg [.sl 2 (List.map e_arena_Span s18.2.1), .val (.int .i64 s18.2.2)], .agg [.val (.int .i64 x12.1.fAt), .val (.int .i64 x12.1.fN)], .sl 2 (List.map e_arena_Span [x12.1]), .agg [.sl 2 (List.map e_arena_Span x28.fL), .val (.int .i64 x28.fN)], .val (.pointer (some ⟨(blk p4), 0, none⟩)), .agg [.sl 2 (List.map e_arena_Span t7.1), .val (.int .i64 t7.2.1)], .agg [.sl 2 (List.map e_arena_Span x29.fL), .val (.int .i64 x29.fN)], .sl 2 (List.map e_piece_Text [(⟨s18.2.1, s18.2.2⟩ : piece_Text), x28, x29]), .agg [.sl 2 (List.map e_arena_Span x30.fL), .val (.int .i64 x30.fN)], .dead]) (fun D env27 => [.var (blk (vn w3 0)) [.val (vn w13 0)] 127, .var (blk p4) [.sl 2 (List.map e_arena_Span t7.1), .val (.int .i64 t7.2.1), .val (.int .i64 t7.2.2.1), .val (.int .i64 t7.2.2.2.1), .val (.bool t7.2.2.2.2)] 83, .var (blk p14) [.val (.int .i64 x12.1.fAt), .val (.int .i64 x12.1.fN)] 50, (bif D 9 then .var (blk p16) [.sl 2 (List.map e_arena_Span x30.fL), .val (.int .i64 x30.fN)] 59 else .var (blk p16) [.sl 2 (List.map e_arena_Span s18.2.1), .val (.int .i64 s18.2.2)] 59), .row (vn w13 0) (List.map byteD x12.2.2) 1 5]) [0, 0, 2, 6, 0, 16, 62, 127, 255, 511] [3, 4, 5, 7, 10, 12, 13, 58, 59, 60, 61, 62, 63, 66, 67, 68, 69, 70, 71, 72, 73, 74] (fun env27 => [.var (blk (vn w3 0)) [.val (vn w13 0)] 127, .var (blk p4) [.sl 2 (List.map e_arena_Span t7.1), .val (.int .i64 t7.2.1), .val (.int .i64 t7.2.2.1), .val (.int .i64 t7.2.2.2.1), .val (.bool t7.2.2.2.2)] 83, .var (blk p14) [.val (.int .i64 x12.1.fAt), .val (.int .i64 x12.1.fN)] 50, .var (blk p16) [.sl 2 (List.map e_arena_Span x30.fL), .val (.int .i64 x30.fN)] 59, .row (vn w13 0) (List.map byteD x12.2.2) 1 5]) (by decide +kernel) (by decide +kernel) (fun _ => rfl) (fun _ => rfl) ?_ (fun _ => rfl) (fun _ => rfl) ?_
   rotate_left
   · intro env27
     show T X _ _ _
     refine T.region ?_
     refine TL.op1 (OpR.pure rfl) rfl ?_
     refine TL.op1 (OpR.pure rfl) rfl ?_
     refine TL.op1 (OpR.pure rfl) rfl ?_
     refine TL.nil ?_
     obtain rfl := Option.some.inj q22
     exact ⟨m20, Nat.lt_succ_self _, _, Gst.only [3, 4, 5, 7, 10, 12, 13] rfl, (w64 (s18.1 + 1), x30.fL, x30.fN), rfl, i23⟩
   refine OpsS.cons' true ?_ (fun _ _ _ _ _ _ _ => rfl) ?_
   · intro D env27 hA
     have e9 : D 9 = false := hA.no 9 _ rfl rfl
     exact OpS.yes (o0 := [.var (blk (vn w3 0)) [.val (vn w13 0)] 127, .var (blk p4) [.sl 2 (List.map e_arena_Span t7.1), .val (.int .i64 t7.2.1), .val (.int .i64 t7.2.2.1), .val (.int .i64 t7.2.2.2.1), .val (.bool t7.2.2.2.2)] 83, .var (blk p14) [.val (.int .i64 x12.1.fAt), .val (.int .i64 x12.1.fN)] 50, .var (blk p16) [.sl 2 (List.map e_arena_Span s18.2.1), .val (.int .i64 s18.2.2)] 59, .row (vn w13 0) (List.map byteD x12.2.2) 1 5]) (o1 := fun x => [.var (blk (vn w3 0)) [.val (vn w13 0)] 127, .var (blk p4) [.sl 2 (List.map e_arena_Span t7.1), .val (.int .i64 t7.2.1), .val (.int .i64 t7.2.2.1), .val (.int .i64 t7.2.2.2.1), .val (.bool t7.2.2.2.2)] 83, .var (blk p14) [.val (.int .i64 x12.1.fAt), .val (.int .i64 x12.1.fN)] 50, .var (blk p16) [.sl 2 (List.map e_arena_Span s18.2.1), .val (.int .i64 s18.2.2)] 59, .row (vn w13 0) (List.map byteD x12.2.2) 1 5]) (d := fun x => .agg [.sl 2 (List.map e_arena_Span s18.2.1), .val (.int .i64 s18.2.2)]) (Want.plain rfl) (by first | rfl | simp only [e9, cond_true, cond_false, List.cons_append, List.nil_append, List.append_nil]) (fun x => by first | rfl | simp only [ins_self, ins_ne D (show 0 ≠ 9 by decide), upd_self, e9, cond_true, cond_false, List.cons_append, List.nil_append, List.append_nil]) (fun x => rfl) (OpR.loadPtr 3 rfl rfl rfl rfl)
   refine oS (d := .agg [.val (.int .i64 x12.1.fAt), .val (.int .i64 x12.1.fN)]) (fun _ => Want.plain rfl) (fun _ => rfl) (fun _ _ _ => rfl) (fun _ _ => OpR.loadPtr 2 rfl rfl rfl rfl) (fun _ _ _ _ _ _ _ => rfl) ?_
   refine oS (d := .sl 2 (List.map e_arena_Span [x12.1])) (fun _ => Want.plain rfl) (fun _ => rfl) (fun _ _ _ => rfl) (fun _ _ => OpR.lit rfl rfl rfl rfl rfl rfl rfl) (fun _ _ _ _ _ _ _ => rfl) ?_
   refine oS (d := .agg [.sl 2 (List.map e_arena_Span x28.fL), .val (.int .i64 x28.fN)]) (fun _ => Want.plain rfl) (fun _ => rfl) (fun _ _ _ => rfl) (fun _ _ => OpR.call0 fn57 (piece_Of_c_2 hx28) rfl) (fun _ _ _ _ _ _ _ => rfl) ?_
   refine oS (d := .val (.pointer (some ⟨(blk p4), 0, none⟩))) (fun _ => Want.plain rfl) (fun _ => rfl) (fun _ _ _ => rfl) (fun _ _ => OpR.pure rfl) (fun _ _ _ _ _ _ _ => rfl) ?_
   refine oS (d := .agg [.sl 2 (List.map e_arena_Span t7.1), .val (.int .i64 t7.2.1)]) (fun _ => Want.plain rfl) (fun _ => rfl) (fun _ _ _ => rfl) (fun _ _ => OpR.loadPtr 1 rfl rfl rfl rfl) (fun _ _ _ _ _ _ _ => rfl) ?_
   refine oS (d := .agg [.sl 2 (List.map e_arena_Span x29.fL), .val (.int .i64 x29.fN)]) (fun _ => Want.plain rfl) (fun _ => rfl) (fun _ _ _ => rfl) (fun _ _ => OpR.call0 fn55 (piece_Text_Slice_c hx29) rfl) (fun _ _ _ _ _ _ _ => rfl) ?_
   refine oS (d := .sl 2 (List.map e_piece_Text [(⟨s18.2.1, s18.2.2⟩ : piece_Text), x28, x29])) (fun _ => Want.plain rfl) (fun _ => rfl) (fun _ _ _ => rfl) (fun _ _ => OpR.lit rfl rfl rfl rfl rfl rfl rfl) (fun _ _ _ _ _ _ _ => rfl) ?_
   refine oS (d := .agg [.sl 2 (List.map e_arena_Span x30.fL), .val (.int .i64 x30.fN)]) (fun _ => Want.plain rfl) (fun _ => rfl) (fun _ _ _ => rfl) (fun _ _ => OpR.call0 fn56 (piece_Concat_c hx30) rfl) (fun _ _ _ _ _ _ _ => rfl) ?_
   refine OpsS.cons' true ?_ (fun _ _ _ _ _ _ _ => rfl) ?_
   · intro D env27 hA
     exact OpS.yes (o0 := [.var (blk (vn w3 0)) [.val (vn w13 0)] 127, .var (blk p4) [.sl 2 (List.map e_arena_Span t7.1), .val (.int .i64 t7.2.1), .val (.int .i64 t7.2.2.1), .val (.int .i64 t7.2.2.2.1), .val (.bool t7.2.2.2.2)] 83, .var (blk p14) [.val (.int .i64 x12.1.fAt), .val (.int .i64 x12.1.fN)] 50, .var (blk p16) [.sl 2 (List.map e_arena_Span s18.2.1), .val (.int .i64 s18.2.2)] 59, .row (vn w13 0) (List.map byteD x12.2.2) 1 5]) (o1 := fun x => [.var (blk (vn w3 0)) [.val (vn w13 0)] 127, .var (blk p4) [.sl 2 (List.map e_arena_Span t7.1), .val (.int .i64 t7.2.1), .val (.int .i64 t7.2.2.1), .val (.int .i64 t7.2.2.2.1), .val (.bool t7.2.2.2.2)] 83, .var (blk p14) [.val (.int .i64 x12.1.fAt), .val (.int .i64 x12.1.fN)] 50, .var (blk p16) [.sl 2 (List.map e_arena_Span x30.fL), .val (.int .i64 x30.fN)] 59, .row (vn w13 0) (List.map byteD x12.2.2) 1 5]) (d := fun x => .dead) (Want.plain rfl) (by first | rfl | simp only [hA.me, cond_true, cond_false, List.cons_append, List.nil_append, List.append_nil]) (fun x => by first | rfl | simp only [ins_self, upd_self, hA.me, cond_true, cond_false, List.cons_append, List.nil_append, List.append_nil]) (fun x => rfl) (OpR.store 3 rfl rfl rfl rfl rfl rfl rfl rfl)
   exact trivial
 rintro _ rfl
 show T X _ _ _
 refine T.seq ?_
 refine T.region ?_
 refine TL.op1 (OpR.loadPtr 2 rfl rfl rfl rfl) rfl ?_
 refine TL.op1 (OpR.pure rfl) rfl ?_
 obtain ⟨x31, hx31, h0⟩ := bnd_some h0
 refine TL.op1 (OpR.call [0, 3] fn40 (piece_Text_Flat_c hx31) rfl rfl rfl (fun _ => rfl)) rfl ?_
 refine TL.op1 (OpR.toStr (bs := x31) rfl rfl rfl rfl rfl rfl rfl) rfl ?_
 refine TL.op1 (OpR.pure rfl) rfl ?_
 refine TL.nil ?_
 show T X _ _ _
 refine T.seq ?_
 refine T.region ?_
 refine TL.op1 (OpR.loadPtr 1 rfl rfl rfl rfl) rfl ?_
 refine TL.op1 (OpR.pure rfl) rfl ?_
 refine TL.op1 (OpR.loadPtr 2 rfl rfl rfl rfl) rfl ?_
 obtain ⟨x32, hx32, h0⟩ := bnd_some h0
 refine TL.op (OpR.call [0, 3] fn58 (cell_Cell_Write_c hx32) rfl rfl rfl (fun _ => rfl)) rfl (fun w33 => ?_)
 refine TL.op1 (OpR.pure rfl) rfl ?_
 refine TL.op1 (OpR.pure rfl) rfl ?_
 refine TL.op1 (OpR.pure rfl) rfl ?_
 refine TL.op (OpR.alloc rfl rfl (fun _ => rfl)) rfl (fun p34 => ?_)
 refine TL.op0 (OpR.store 4 rfl rfl rfl rfl rfl rfl rfl rfl) ?_
 refine TL.op1 (OpR.pure rfl) rfl ?_
 refine TL.nil ?_
 show T X _ _ _
 refine T.seq ?_
 refine T.seq ?_
 refine T.region ?_
 refine TL.op1 (OpR.pure rfl) rfl ?_
 refine TL.op1 (OpR.cast (OpR.pure rfl) (intE (lenS _))) rfl ?_
 refine TL.op1 (OpR.pure rfl) rfl ?_
 refine TL.nil ?_
 show T X _ _ _
 rcases ite_some h0 with ⟨c35, h0⟩ | ⟨c35, h0⟩
 · refine T.condT rfl (decide_eq_true c35) ?_
   refine T.seq ?_
   obtain ⟨t36, ht36, h0⟩ := bnd_some h0
   refine T.cutC (fun S' => S' = ⟨[(16, .val (.int .i64 x32.2.1)), (15, .val (.pointer (some ⟨(blk p34), 0, none⟩))), (14, .val (.string (bs x31))), (5, .val (.pointer (some ⟨(blk (vn w3 0)), 0, none⟩))), (4, .val (.bool t36))], [.var (blk (vn w3 0)) [.val (vn w33 0)] 127, .var (blk p34) [.sl 2 (List.map e_arena_Span x32.1.fText.fL), .val (.int .i64 x32.1.fText.fN), .val (.int .i64 x32.1.fRaw.fAt), .val (.int .i64 x32.1.fRaw.fN), .val (.bool x32.1.fKept)] 83, .row (vn w33 0) (List.map byteD x32.2.2) 1 5], 123⟩) (fun _ h => h) ?_ ?_
   rotate_left
   · rintro _ rfl
     show T X _ _ _
     refine T.ret ?_
     obtain rfl := Option.some.inj h0
     exact PostG.retP (ks := []) (Gst.trans (Gst.only [4] rfl) (Gst.pick [] rfl rfl)) undef (ResL.cons (ResV.tmp rfl) ResL.nil) rfl rfl rfl rfl
   refine T.region ?_
   refine TL.op1 (OpR.pure rfl) rfl ?_
   refine TL.op1 (OpR.pure rfl) rfl ?_
   refine TL.op1 (OpR.pure rfl) rfl ?_
   rcases ite_some ht36 with ⟨c37, ht36⟩ | ⟨c37, ht36⟩
   rotate_left
   · refine TL.off rfl rfl rfl rfl (beq_eq_false_iff_ne.2 c37) rfl rfl ?_
     refine TL.off rfl rfl rfl rfl (beq_eq_false_iff_ne.2 c37) rfl rfl ?_
     refine TL.op1 (OpR.pickF rfl (beq_eq_false_iff_ne.2 c37) rfl) rfl ?_
     refine TL.op1 (OpR.pure rfl) rfl ?_
     refine TL.off rfl rfl rfl rfl rfl rfl rfl ?_
     refine TL.off rfl rfl rfl rfl rfl rfl rfl ?_
     refine TL.off rfl rfl rfl rfl rfl rfl rfl ?_
     refine TL.op1 (OpR.pickF rfl rfl rfl) rfl ?_
     refine TL.op1 (OpR.pure rfl) rfl ?_
     refine TL.off rfl rfl rfl rfl rfl rfl rfl ?_
     refine TL.op1 (OpR.pickF rfl rfl rfl) rfl ?_
     refine TL.op1 (OpR.pure rfl) rfl ?_
     refine TL.nil ?_
     obtain rfl := Option.some.inj ht36
     exact ⟨_, Gst.trans (Gst.only [4, 5, 14, 15, 16] rfl) (Gst.pick [0, 4, 3] rfl rfl), rfl⟩
   refine TL.on rfl rfl rfl rfl (beq_iff_eq.2 c37) ?_
   refine TL.op1 (OpR.loadPtr 4 rfl rfl rfl rfl) rfl ?_
   refine TL.on rfl rfl rfl rfl (beq_iff_eq.2 c37) ?_
   obtain ⟨x38, hx38, ht36⟩ := bnd_some ht36
   refine TL.op1 (OpR.call0 fn52 (cell_Cell_Empty_c hx38) rfl) rfl ?_
   refine TL.op1 (OpR.pickT rfl (beq_iff_eq.2 c37) rfl) rfl ?_
   refine TL.op1 (OpR.pure rfl) rfl ?_
   rcases ite_some ht36 with ⟨c39, ht36⟩ | ⟨c39, ht36⟩
   rotate_left
   · refine TL.off rfl rfl rfl rfl (eq_false_of_ne_true c39) rfl rfl ?_
     refine TL.off rfl rfl rfl rfl (eq_false_of_ne_true c39) rfl rfl ?_
     refine TL.off rfl rfl rfl rfl (eq_false_of_ne_true c39) rfl rfl ?_
     refine TL.op1 (OpR.pickF rfl (eq_false_of_ne_true c39) rfl) rfl ?_
     refine TL.op1 (OpR.pure rfl) rfl ?_
     refine TL.off rfl rfl rfl rfl rfl rfl rfl ?_
     refine TL.op1 (OpR.pickF rfl rfl rfl) rfl ?_
     refine TL.op1 (OpR.pure rfl) rfl ?_
     refine TL.nil ?_
     obtain rfl := Option.some.inj ht36
     exact ⟨_, Gst.trans (Gst.only [4, 5, 14, 15, 16] rfl) (Gst.pick [0, 4, 3] rfl rfl), rfl⟩
   refine TL.on rfl rfl rfl rfl (c39) ?_
   refine TL.op1 (OpR.pure rfl) rfl ?_
   refine TL.on rfl rfl rfl rfl (c39) ?_
   refine TL.op1 (OpR.loadPtr 4 rfl rfl rfl rfl) rfl ?_
   refine TL.on rfl rfl rfl rfl (c39) ?_
   refine TL.op1 (OpR.pure rfl) rfl ?_
   refine TL.op1 (OpR.pickT rfl (c39) rfl) rfl ?_
   refine TL.op1 (OpR.pure rfl) rfl ?_
   rcases ite_some ht36 with ⟨c40, ht36⟩ | ⟨c40, ht36⟩
   · refine TL.off rfl rfl rfl rfl (not_t (c40)) rfl rfl ?_
     refine TL.op1 (OpR.pickF rfl (not_t (c40)) rfl) rfl ?_
     refine TL.op1 (OpR.pure rfl) rfl ?_
     refine TL.nil ?_
     obtain rfl := Option.some.inj ht36
     exact ⟨_, Gst.trans (Gst.only [4, 5, 14, 15, 16] rfl) (Gst.pick [0, 4, 3] rfl rfl), rfl⟩
   refine TL.on rfl rfl rfl rfl (not_f (eq_false_of_ne_true c40)) ?_
   obtain ⟨x41, hx41, ht36⟩ := bnd_some ht36
   refine TL.op1 (OpR.call0 fn45 (law07_awake_c hx41) rfl) rfl ?_
   refine TL.op1 (OpR.pickT rfl (not_f (eq_false_of_ne_true c40)) rfl) rfl ?_
   refine TL.op1 (OpR.pure rfl) rfl ?_
   refine TL.nil ?_
   obtain rfl := Option.some.inj ht36
   exact ⟨_, Gst.trans (Gst.only [4, 5, 14, 15, 16] rfl) (Gst.pick [0, 4, 3] rfl rfl), rfl⟩
 refine T.condF rfl (decide_eq_false c35) ?_
 refine T.skip ?_
 show T X _ _ _
 refine T.seq ?_
 obtain ⟨t42, ht42, h0⟩ := bnd_some h0
 refine T.cutC (fun S' => S' = ⟨[(4, .val (.bool t42))], [], 123⟩) (fun _ h => h) ?_ ?_
 rotate_left
 · rintro _ rfl
   show T X _ _ _
   refine T.ret ?_
   obtain rfl := Option.some.inj h0
   exact PostG.retP (ks := []) (Gst.only [4] rfl) undef (ResL.cons (ResV.tmp rfl) ResL.nil) rfl rfl rfl rfl
 refine T.region ?_
 refine TL.op1 (OpR.pure rfl) rfl ?_
 refine TL.op1 (OpR.pure rfl) rfl ?_
 refine TL.op1 (OpR.pure rfl) rfl ?_
 rcases ite_some ht42 with ⟨c43, ht42⟩ | ⟨c43, ht42⟩
 rotate_left
 · refine TL.off rfl rfl rfl rfl (beq_eq_false_iff_ne.2 c43) rfl rfl ?_
   refine TL.off rfl rfl rfl rfl (beq_eq_false_iff_ne.2 c43) rfl rfl ?_
   refine TL.off rfl rfl rfl rfl (beq_eq_false_iff_ne.2 c43) rfl rfl ?_
   refine TL.off rfl rfl rfl rfl (beq_eq_false_iff_ne.2 c43) rfl rfl ?_
   refine TL.off rfl rfl rfl rfl (beq_eq_false_iff_ne.2 c43) rfl rfl ?_
   refine TL.off rfl rfl rfl rfl (beq_eq_false_iff_ne.2 c43) rfl rfl ?_
   refine TL.op1 (OpR.pickF rfl (beq_eq_false_iff_ne.2 c43) rfl) rfl ?_
   refine TL.op1 (OpR.pure rfl) rfl ?_
   refine TL.off rfl rfl rfl rfl rfl rfl rfl ?_
   refine TL.off rfl rfl rfl rfl rfl rfl rfl ?_
   refine TL.off rfl rfl rfl rfl rfl rfl rfl ?_
   refine TL.off rfl rfl rfl rfl rfl rfl rfl ?_
   refine TL.off rfl rfl rfl rfl rfl rfl rfl ?_
   refine TL.op1 (OpR.pickF rfl rfl rfl) rfl ?_
   refine TL.op1 (OpR.pure rfl) rfl ?_
   refine TL.off rfl rfl rfl rfl rfl rfl rfl ?_
   refine TL.op1 (OpR.pickF rfl rfl rfl) rfl ?_
   refine TL.op1 (OpR.pure rfl) rfl ?_
   refine TL.nil ?_
   obtain rfl := Option.some.inj ht42
   exact ⟨_, Gst.trans (Gst.only [4] rfl) (Gst.pick [] rfl rfl), rfl⟩
 refine TL.on rfl rfl rfl rfl (beq_iff_eq.2 c43) ?_
 refine TL.op1 (OpR.pure rfl) rfl ?_
 refine TL.on rfl rfl rfl rfl (beq_iff_eq.2 c43) ?_
 refine TL.op1 (OpR.loadPtr 4 rfl rfl rfl rfl) rfl ?_
 refine TL.on rfl rfl rfl rfl (beq_iff_eq.2 c43) ?_
 obtain ⟨x44, hx44, ht42⟩ := bnd_some ht42
 refine TL.op1 (OpR.call [0, 3] fn47 (law07_Plain_2_c hx44) rfl rfl rfl (fun _ => rfl)) rfl ?_
 refine TL.on rfl rfl rfl rfl (beq_iff_eq.2 c43) ?_
 refine TL.op1 (OpR.pure rfl) rfl ?_
 refine TL.on rfl rfl rfl rfl (beq_iff_eq.2 c43) ?_
 refine TL.op1 (OpR.build rfl rfl rfl rfl rfl) rfl ?_
 refine TL.on rfl rfl rfl rfl (beq_iff_eq.2 c43) ?_
 refine TL.op1 (OpR.cast (OpR.eqStruct rfl rfl rfl rfl rfl (by kernel_rfl) (by kernel_rfl)) (boolE (beq_ref07_Cell x44 (⟨x31, [], false⟩ : ref07_Cell)))) rfl ?_
 refine TL.op1 (OpR.pickT rfl (beq_iff_eq.2 c43) rfl) rfl ?_
 refine TL.op1 (OpR.pure rfl) rfl ?_
 rcases ite_some ht42 with ⟨c45, ht42⟩ | ⟨c45, ht42⟩
 rotate_left
 · refine TL.off rfl rfl rfl rfl (beq_eq_false_iff_ne.2 c45) rfl rfl ?_
   refine TL.off rfl rfl rfl rfl (beq_eq_false_iff_ne.2 c45) rfl rfl ?_
   refine TL.off rfl rfl rfl rfl (beq_eq_false_iff_ne.2 c45) rfl rfl ?_
   refine TL.off rfl rfl rfl rfl (beq_eq_false_iff_ne.2 c45) rfl rfl ?_
   refine TL.off rfl rfl rfl rfl (beq_eq_false_iff_ne.2 c45) rfl rfl ?_
   refine TL.op1 (OpR.pickF rfl (beq_eq_false_iff_ne.2 c45) rfl) rfl ?_
   refine TL.op1 (OpR.pure rfl) rfl ?_
   refine TL.off rfl rfl rfl rfl rfl rfl rfl ?_
   refine TL.op1 (OpR.pickF rfl rfl rfl) rfl ?_
   refine TL.op1 (OpR.pure rfl) rfl ?_
   refine TL.nil ?_
   obtain rfl := Option.some.inj ht42
   exact ⟨_, Gst.trans (Gst.only [4] rfl) (Gst.pick [] rfl rfl), rfl⟩
 refine TL.on rfl rfl rfl rfl (beq_iff_eq.2 c45) ?_
 refine TL.op1 (OpR.pure rfl) rfl ?_
 refine TL.on rfl rfl rfl rfl (beq_iff_eq.2 c45) ?_
 refine TL.op1 (OpR.loadPtr 4 rfl rfl rfl rfl) rfl ?_
 refine TL.on rfl rfl rfl rfl (beq_iff_eq.2 c45) ?_
 obtain ⟨x46, hx46, ht42⟩ := bnd_some ht42
 refine TL.op1 (OpR.call0 fn39 (piece_Text_Spans_c hx46) rfl) rfl ?_
 refine TL.on rfl rfl rfl rfl (beq_iff_eq.2 c45) ?_
 refine TL.op1 (OpR.cast (OpR.pure rfl) (intE (lenM _ _))) rfl ?_
 refine TL.on rfl rfl rfl rfl (beq_iff_eq.2 c45) ?_
 refine TL.op1 (OpR.pure rfl) rfl ?_
 refine TL.op1 (OpR.pickT rfl (beq_iff_eq.2 c45) rfl) rfl ?_
 refine TL.op1 (OpR.pure rfl) rfl ?_
 rcases ite_some ht42 with ⟨c47, ht42⟩ | ⟨c47, ht42⟩
 rotate_left
 · refine TL.off rfl rfl rfl rfl (decide_eq_false c47) rfl rfl ?_
   refine TL.op1 (OpR.pickF rfl (decide_eq_false c47) rfl) rfl ?_
   refine TL.op1 (OpR.pure rfl) rfl ?_
   refine TL.nil ?_
   obtain rfl := Option.some.inj ht42
   exact ⟨_, Gst.trans (Gst.only [4] rfl) (Gst.pick [] rfl rfl), rfl⟩
 refine TL.on rfl rfl rfl rfl (decide_eq_true c47) ?_
 obtain ⟨x48, hx48, ht42⟩ := bnd_some ht42
 refine TL.op1 (OpR.call0 fn45 (law07_awake_c hx48) rfl) rfl ?_
 refine TL.op1 (OpR.pickT rfl (decide_eq_true c47) rfl) rfl ?_
 refine TL.op1 (OpR.pure rfl) rfl ?_
 refine TL.nil ?_
 obtain rfl := Option.some.inj ht42
 exact ⟨_, Gst.trans (Gst.only [4] rfl) (Gst.pick [] rfl rfl), rfl⟩
end Go.Proofs.Ytkjcogmngoogcaa.S
