/- Printed by a program of this session's own (gen.py): Lean functions for Go functions, and the proofs that the Go code comes to their answers. -/
import Derived.Test.YtbcbggdgkdfciaaG2xa
set_option linter.unusedVariables false
set_option linter.unusedSimpArgs false
set_option maxRecDepth 20000
namespace Go.Proofs.Ytbcbggdgkdfciaa.S
open Go Go.Sm
attribute [local irreducible] T TL OpR CallT iter loop
noncomputable def law30_cut (a0 : List UInt8) (a1 : Int) : Option (List UInt8) :=
  if (a0.length : Int) > a1 then
    bnd (cut a0 0 a1) fun x2 =>
    some x2
  else
    some a0
set_option maxHeartbeats 4000000 in
theorem law30_cut_c {a0 : List UInt8} {a1 : Int} {res : (List UInt8)} (h0 : law30_cut a0 a1 = some res) : CallF X 40 [.val (.string (bs a0)), .val (.int .i64 a1)] [] (fun x => .val (.string (bs res))) (fun x => []) := by
 unfold law30_cut at h0
 refine CallF.mkG (X := X) Try.func40 rfl rfl Try.ntmps40 rfl rfl ?_
 refine T.seq ?_
 refine T.region ?_
 refine TL.op1 (OpR.pure rfl) rfl ?_
 refine TL.nil ?_
 show T X _ _ _
 refine T.seq ?_
 refine T.seq ?_
 refine T.region ?_
 refine TL.op1 (OpR.pure rfl) rfl ?_
 refine TL.op1 (OpR.cast (OpR.pure rfl) (intE (lenS _))) rfl ?_
 refine TL.op1 (OpR.pure rfl) rfl ?_
 refine TL.op1 (OpR.pure rfl) rfl ?_
 refine TL.nil ?_
 show T X _ _ _
 rcases ite_some h0 with ⟨c1, h0⟩ | ⟨c1, h0⟩
 rotate_left
 · refine T.condF rfl (decide_eq_false c1) ?_
   refine T.skip ?_
   show T X _ _ _
   refine T.seq ?_
   refine T.region ?_
   refine TL.op1 (OpR.pure rfl) rfl ?_
   refine TL.op1 (OpR.pure rfl) rfl ?_
   refine TL.nil ?_
   show T X _ _ _
   refine T.ret ?_
   obtain rfl := Option.some.inj h0
   exact PostG.retP (ks := []) (Gst.only [4] rfl) undef (ResL.cons (ResV.tmp rfl) ResL.nil) rfl rfl rfl rfl
 refine T.condT rfl (decide_eq_true c1) ?_
 refine T.seq ?_
 refine T.region ?_
 refine TL.op1 (OpR.pure rfl) rfl ?_
 refine TL.op1 (OpR.pure rfl) rfl ?_
 obtain ⟨x2, hx2, h0⟩ := bnd_some h0
 refine TL.op1 (OpR.sliceS hx2 rfl rfl rfl BdM.none (BdM.some rfl)) rfl ?_
 refine TL.op1 (OpR.pure rfl) rfl ?_
 refine TL.nil ?_
 show T X _ _ _
 refine T.ret ?_
 obtain rfl := Option.some.inj h0
 exact PostG.retP (ks := []) (Gst.only [4] rfl) undef (ResL.cons (ResV.tmp rfl) ResL.nil) rfl rfl rfl rfl
noncomputable def line_Open (a0 : piece_Text) (a1 : Bool) : Option line_Line :=
  if a1 = true then
    bnd (piece_Text_Len a0) fun x4 =>
    some (⟨a0, x4⟩ : line_Line)
  else
    some (⟨a0, 0⟩ : line_Line)
set_option maxHeartbeats 4000000 in
theorem line_Open_c {a0 : piece_Text} {a1 : Bool} {res : line_Line} (h0 : line_Open a0 a1 = some res) : CallF X 41 [.agg [.sl 2 (List.map e_arena_Span a0.fL), .val (.int .i64 a0.fN)], .val (.bool a1)] [] (fun x => .agg [.sl 2 (List.map e_arena_Span res.fT.fL), .val (.int .i64 res.fT.fN), .val (.int .i64 res.fAt)]) (fun x => []) := by
 unfold line_Open at h0
 refine CallF.mkG (X := X) Try.func41 rfl rfl Try.ntmps41 rfl rfl ?_
 refine T.seq ?_
 refine T.region ?_
 refine TL.op1 (OpR.boxImm rfl rfl) rfl ?_
 refine TL.op (OpR.alloc rfl rfl (fun _ => rfl)) rfl (fun p1 => ?_)
 refine TL.nil ?_
 show T X _ _ _
 refine T.seq ?_
 refine T.seq ?_
 refine T.region ?_
 refine TL.op1 (OpR.pure rfl) rfl ?_
 refine TL.nil ?_
 show T X _ _ _
 rcases ite_some h0 with ⟨c2, h0⟩ | ⟨c2, h0⟩
 rotate_left
 · refine T.condF rfl (eq_false_of_ne_true c2) ?_
   refine T.skip ?_
   show T X _ _ _
   refine T.seq ?_
   refine T.region ?_
   refine TL.op1 (OpR.pure rfl) rfl ?_
   refine TL.op1 (OpR.build rfl rfl rfl rfl rfl) rfl ?_
   refine TL.op0 (OpR.store 0 rfl rfl rfl rfl rfl rfl rfl rfl) ?_
   refine TL.nil ?_
   show T X _ _ _
   refine T.ret ?_
   obtain rfl := Option.some.inj h0
   exact PostG.retP (ks := []) (Gst.only [4] rfl) undef (ResL.cons (ResV.var 0 rfl rfl rfl rfl) ResL.nil) rfl rfl rfl rfl
 refine T.condT rfl (c2) ?_
 refine T.seq ?_
 obtain ⟨x4, hx4, h0⟩ := bnd_some h0
 refine T.drawS drawsX (fun env3 => [.agg [.sl 2 (List.map e_arena_Span a0.fL), .val (.int .i64 a0.fN)], .agg [.sl 2 (List.map e_arena_Span a0.fL), .val (.int .i64 a0.fN)], .val (.int .i64 x4), .agg [.sl 2 (List.map e_arena_Span a0.fL), .val (.int .i64 a0.fN), .val (.int .i64 x4)], .dead]) (fun D env3 => [(bif D 4 then .var (blk p1) [.sl 2 (List.map e_arena_Span a0.fL), .val (.int .i64 a0.fN), .val (.int .i64 x4)] 84 else .var (blk p1) [.val (.slice none 0 0), .val (.int .i64 0), .val (.int .i64 0)] 84)]) [0, 0, 2, 7, 15] [0, 1, 2, 4, 5, 6, 7, 8, 9] (fun env3 => [.var (blk p1) [.sl 2 (List.map e_arena_Span a0.fL), .val (.int .i64 a0.fN), .val (.int .i64 x4)] 84]) (by decide +kernel) (by decide +kernel) (fun _ => rfl) (fun _ => rfl) ?_ (fun _ => rfl) (fun _ => rfl) ?_
 rotate_left
 · intro env3
   show T X _ _ _
   refine T.ret ?_
   obtain rfl := Option.some.inj h0
   exact PostG.retP (ks := []) (Gst.only [4] rfl) undef (ResL.cons (ResV.var 0 rfl rfl rfl rfl) ResL.nil) rfl rfl rfl rfl
 refine oS (d := .agg [.sl 2 (List.map e_arena_Span a0.fL), .val (.int .i64 a0.fN)]) (fun _ => Want.plain rfl) (fun _ => rfl) (fun _ _ _ => rfl) (fun _ _ => OpR.pure rfl) (fun _ _ _ _ _ _ _ => rfl) ?_
 refine oS (d := .agg [.sl 2 (List.map e_arena_Span a0.fL), .val (.int .i64 a0.fN)]) (fun _ => Want.plain rfl) (fun _ => rfl) (fun _ _ _ => rfl) (fun _ _ => OpR.pure rfl) (fun _ _ _ _ _ _ _ => rfl) ?_
 refine oS (d := .val (.int .i64 x4)) (fun _ => Want.plain rfl) (fun _ => rfl) (fun _ _ _ => rfl) (fun _ _ => OpR.call0 fn68 (piece_Text_Len_c hx4) rfl) (fun _ _ _ _ _ _ _ => rfl) ?_
 refine oS (d := .agg [.sl 2 (List.map e_arena_Span a0.fL), .val (.int .i64 a0.fN), .val (.int .i64 x4)]) (fun _ => Want.plain rfl) (fun _ => rfl) (fun _ _ _ => rfl) (fun _ _ => OpR.build rfl rfl rfl rfl rfl) (fun _ _ _ _ _ _ _ => rfl) ?_
 refine OpsS.cons' true ?_ (fun _ _ _ _ _ _ _ => rfl) ?_
 · intro D env3 hA
   exact OpS.yes (o0 := [.var (blk p1) [.val (.slice none 0 0), .val (.int .i64 0), .val (.int .i64 0)] 84]) (o1 := fun x => [.var (blk p1) [.sl 2 (List.map e_arena_Span a0.fL), .val (.int .i64 a0.fN), .val (.int .i64 x4)] 84]) (d := fun x => .dead) (Want.plain rfl) (by first | rfl | simp only [hA.me, cond_true, cond_false, List.cons_append, List.nil_append, List.append_nil]) (fun x => by first | rfl | simp only [ins_self, upd_self, hA.me, cond_true, cond_false, List.cons_append, List.nil_append, List.append_nil]) (fun x => rfl) (OpR.store 0 rfl rfl rfl rfl rfl rfl rfl rfl)
 exact trivial
noncomputable def utf_within (a0 : List UInt8) (a1 : Int) : Option Bool :=
  bnd (if a1 ≥ 0 then
    some (decide (a1 < (a0.length : Int)))
  else
    some false : Option Bool) fun t1 =>
  some t1
set_option maxHeartbeats 4000000 in
theorem utf_within_c {a0 : List UInt8} {a1 : Int} {res : Bool} (h0 : utf_within a0 a1 = some res) : CallF X 205 [.sl 1 (List.map byteD a0), .val (.int .i64 a1)] [] (fun x => .val (.bool res)) (fun x => []) := by
 unfold utf_within at h0
 refine CallF.mkG (X := X) Try.func205 rfl rfl Try.ntmps205 rfl rfl ?_
 refine T.seq ?_
 refine T.region ?_
 refine TL.op1 (OpR.pure rfl) rfl ?_
 refine TL.nil ?_
 show T X _ _ _
 refine T.seq ?_
 obtain ⟨t1, ht1, h0⟩ := bnd_some h0
 refine T.cutC (fun S' => S' = ⟨[(4, .val (.bool t1))], [], 13⟩) (fun _ h => h) ?_ ?_
 rotate_left
 · rintro _ rfl
   show T X _ _ _
   refine T.ret ?_
   obtain rfl := Option.some.inj h0
   exact PostG.retP (ks := []) (Gst.only [4] rfl) undef (ResL.cons (ResV.tmp rfl) ResL.nil) rfl rfl rfl rfl
 refine T.region ?_
 refine TL.op1 (OpR.pure rfl) rfl ?_
 refine TL.op1 (OpR.pure rfl) rfl ?_
 refine TL.op1 (OpR.pure rfl) rfl ?_
 rcases ite_some ht1 with ⟨c2, ht1⟩ | ⟨c2, ht1⟩
 rotate_left
 · refine TL.off rfl rfl rfl rfl (decide_eq_false c2) rfl rfl ?_
   refine TL.off rfl rfl rfl rfl (decide_eq_false c2) rfl rfl ?_
   refine TL.off rfl rfl rfl rfl (decide_eq_false c2) rfl rfl ?_
   refine TL.off rfl rfl rfl rfl (decide_eq_false c2) rfl rfl ?_
   refine TL.op1 (OpR.pickF rfl (decide_eq_false c2) rfl) rfl ?_
   refine TL.op1 (OpR.pure rfl) rfl ?_
   refine TL.nil ?_
   obtain rfl := Option.some.inj ht1
   exact ⟨_, Gst.only [4] rfl, rfl⟩
 refine TL.on rfl rfl rfl rfl (decide_eq_true c2) ?_
 refine TL.op1 (OpR.pure rfl) rfl ?_
 refine TL.on rfl rfl rfl rfl (decide_eq_true c2) ?_
 refine TL.op1 (OpR.pure rfl) rfl ?_
 refine TL.on rfl rfl rfl rfl (decide_eq_true c2) ?_
 refine TL.op1 (OpR.cast (OpR.pure rfl) (intE (lenM _ _))) rfl ?_
 refine TL.on rfl rfl rfl rfl (decide_eq_true c2) ?_
 refine TL.op1 (OpR.pure rfl) rfl ?_
 refine TL.op1 (OpR.pickT rfl (decide_eq_true c2) rfl) rfl ?_
 refine TL.op1 (OpR.pure rfl) rfl ?_
 refine TL.nil ?_
 obtain rfl := Option.some.inj ht1
 exact ⟨_, Gst.only [4] rfl, rfl⟩
noncomputable def utf_lead (a0 : UInt8) : Option (Int × Int) :=
  if (a0.toNat : Int) < 128 then
    some (0, (a0.toNat : Int))
  else
    bnd (if (a0.toNat : Int) ≥ 194 then
      some (decide ((a0.toNat : Int) ≤ 223))
    else
      some false : Option Bool) fun t2 =>
    if t2 = true then
      some (1, ((ub (iand .u8 (a0.toNat : Int) 31)).toNat : Int))
    else
      bnd (if (a0.toNat : Int) ≥ 224 then
        some (decide ((a0.toNat : Int) ≤ 239))
      else
        some false : Option Bool) fun t5 =>
      if t5 = true then
        some (2, ((ub (iand .u8 (a0.toNat : Int) 15)).toNat : Int))
      else
        bnd (if (a0.toNat : Int) ≥ 240 then
          some (decide ((a0.toNat : Int) ≤ 244))
        else
          some false : Option Bool) fun t8 =>
        if t8 = true then
          some (3, ((ub (iand .u8 (a0.toNat : Int) 7)).toNat : Int))
        else
          some ((-1), 0)
set_option maxHeartbeats 4000000 in
theorem utf_lead_c {a0 : UInt8} {res : Int × Int} (h0 : utf_lead a0 = some res) : CallF X 217 [.val (.int .u8 (a0.toNat : Int))] [] (fun x => .tup [.val (.int .i64 res.1), .val (.int .i64 res.2)]) (fun x => []) := by
 unfold utf_lead at h0
 refine CallF.mkG (X := X) Try.func217 rfl rfl Try.ntmps217 rfl rfl ?_
 refine T.seq ?_
 refine T.region ?_
 refine TL.op1 (OpR.pure rfl) rfl ?_
 refine TL.op1 (OpR.pure rfl) rfl ?_
 refine TL.nil ?_
 show T X _ _ _
 refine T.seq ?_
 refine T.block ?_
 refine T.seq ?_
 refine T.region ?_
 refine TL.op1 (OpR.pure rfl) rfl ?_
 refine TL.op1 (OpR.pure rfl) rfl ?_
 refine TL.op1 (OpR.pure rfl) rfl ?_
 refine TL.nil ?_
 show T X _ _ _
 rcases ite_some h0 with ⟨c1, h0⟩ | ⟨c1, h0⟩
 · refine T.condT rfl (decide_eq_true c1) ?_
   refine T.seq ?_
   refine T.region ?_
   refine TL.op1 (OpR.pure rfl) rfl ?_
   refine TL.op1 (OpR.cast (OpR.pure rfl) (intE (w64_u8 _))) rfl ?_
   refine TL.op1 (OpR.pure rfl) rfl ?_
   refine TL.op1 (OpR.pure rfl) rfl ?_
   refine TL.nil ?_
   show T X _ _ _
   refine T.ret ?_
   obtain rfl := Option.some.inj h0
   exact PostG.retP (ks := []) (Gst.only [2, 3] rfl) undef (ResL.cons (ResV.tmp rfl) (ResL.cons (ResV.tmp rfl) ResL.nil)) rfl rfl rfl rfl
 refine T.condF rfl (decide_eq_false c1) ?_
 refine T.seq ?_
 obtain ⟨t2, ht2, h0⟩ := bnd_some h0
 refine T.cutC (fun S' => S' = ⟨[(9, .val (.bool t2)), (3, .val (.int .i64 0)), (2, .val (.int .i64 0)), (0, .val (.int .u8 (a0.toNat : Int)))], [], 39⟩) (fun _ h => h) ?_ ?_
 · refine T.region ?_
   refine TL.op1 (OpR.pure rfl) rfl ?_
   refine TL.op1 (OpR.pure rfl) rfl ?_
   refine TL.op1 (OpR.pure rfl) rfl ?_
   rcases ite_some ht2 with ⟨c3, ht2⟩ | ⟨c3, ht2⟩
   rotate_left
   · refine TL.off rfl rfl rfl rfl (decide_eq_false c3) rfl rfl ?_
     refine TL.off rfl rfl rfl rfl (decide_eq_false c3) rfl rfl ?_
     refine TL.op1 (OpR.pickF rfl (decide_eq_false c3) rfl) rfl ?_
     refine TL.op1 (OpR.pure rfl) rfl ?_
     refine TL.nil ?_
     obtain rfl := Option.some.inj ht2
     exact ⟨_, Gst.only [0, 2, 3, 9] rfl, rfl⟩
   refine TL.on rfl rfl rfl rfl (decide_eq_true c3) ?_
   refine TL.op1 (OpR.pure rfl) rfl ?_
   refine TL.on rfl rfl rfl rfl (decide_eq_true c3) ?_
   refine TL.op1 (OpR.pure rfl) rfl ?_
   refine TL.op1 (OpR.pickT rfl (decide_eq_true c3) rfl) rfl ?_
   refine TL.op1 (OpR.pure rfl) rfl ?_
   refine TL.nil ?_
   obtain rfl := Option.some.inj ht2
   exact ⟨_, Gst.only [0, 2, 3, 9] rfl, rfl⟩
 rintro _ rfl
 show T X _ _ _
 rcases ite_some h0 with ⟨c4, h0⟩ | ⟨c4, h0⟩
 · refine T.condT rfl (c4) ?_
   refine T.seq ?_
   refine T.region ?_
   refine TL.op1 (OpR.pure rfl) rfl ?_
   refine TL.op1 (OpR.cast (OpR.pure rfl) (intE (ub_wrap _))) rfl ?_
   refine TL.op1 (OpR.cast (OpR.pure rfl) (intE (w64_u8 _))) rfl ?_
   refine TL.op1 (OpR.pure rfl) rfl ?_
   refine TL.op1 (OpR.pure rfl) rfl ?_
   refine TL.nil ?_
   show T X _ _ _
   refine T.ret ?_
   obtain rfl := Option.some.inj h0
   exact PostG.retP (ks := []) (Gst.only [2, 3] rfl) undef (ResL.cons (ResV.tmp rfl) (ResL.cons (ResV.tmp rfl) ResL.nil)) rfl rfl rfl rfl
 refine T.condF rfl (eq_false_of_ne_true c4) ?_
 refine T.seq ?_
 obtain ⟨t5, ht5, h0⟩ := bnd_some h0
 refine T.cutC (fun S' => S' = ⟨[(19, .val (.bool t5)), (3, .val (.int .i64 0)), (2, .val (.int .i64 0)), (0, .val (.int .u8 (a0.toNat : Int)))], [], 39⟩) (fun _ h => h) ?_ ?_
 · refine T.region ?_
   refine TL.op1 (OpR.pure rfl) rfl ?_
   refine TL.op1 (OpR.pure rfl) rfl ?_
   refine TL.op1 (OpR.pure rfl) rfl ?_
   rcases ite_some ht5 with ⟨c6, ht5⟩ | ⟨c6, ht5⟩
   rotate_left
   · refine TL.off rfl rfl rfl rfl (decide_eq_false c6) rfl rfl ?_
     refine TL.off rfl rfl rfl rfl (decide_eq_false c6) rfl rfl ?_
     refine TL.op1 (OpR.pickF rfl (decide_eq_false c6) rfl) rfl ?_
     refine TL.op1 (OpR.pure rfl) rfl ?_
     refine TL.nil ?_
     obtain rfl := Option.some.inj ht5
     exact ⟨_, Gst.only [0, 2, 3, 19] rfl, rfl⟩
   refine TL.on rfl rfl rfl rfl (decide_eq_true c6) ?_
   refine TL.op1 (OpR.pure rfl) rfl ?_
   refine TL.on rfl rfl rfl rfl (decide_eq_true c6) ?_
   refine TL.op1 (OpR.pure rfl) rfl ?_
   refine TL.op1 (OpR.pickT rfl (decide_eq_true c6) rfl) rfl ?_
   refine TL.op1 (OpR.pure rfl) rfl ?_
   refine TL.nil ?_
   obtain rfl := Option.some.inj ht5
   exact ⟨_, Gst.only [0, 2, 3, 19] rfl, rfl⟩
 rintro _ rfl
 show T X _ _ _
 rcases ite_some h0 with ⟨c7, h0⟩ | ⟨c7, h0⟩
 · refine T.condT rfl (c7) ?_
   refine T.seq ?_
   refine T.region ?_
   refine TL.op1 (OpR.pure rfl) rfl ?_
   refine TL.op1 (OpR.cast (OpR.pure rfl) (intE (ub_wrap _))) rfl ?_
   refine TL.op1 (OpR.cast (OpR.pure rfl) (intE (w64_u8 _))) rfl ?_
   refine TL.op1 (OpR.pure rfl) rfl ?_
   refine TL.op1 (OpR.pure rfl) rfl ?_
   refine TL.nil ?_
   show T X _ _ _
   refine T.ret ?_
   obtain rfl := Option.some.inj h0
   exact PostG.retP (ks := []) (Gst.only [2, 3] rfl) undef (ResL.cons (ResV.tmp rfl) (ResL.cons (ResV.tmp rfl) ResL.nil)) rfl rfl rfl rfl
 refine T.condF rfl (eq_false_of_ne_true c7) ?_
 refine T.seq ?_
 obtain ⟨t8, ht8, h0⟩ := bnd_some h0
 refine T.cutC (fun S' => S' = ⟨[(29, .val (.bool t8)), (3, .val (.int .i64 0)), (2, .val (.int .i64 0)), (0, .val (.int .u8 (a0.toNat : Int)))], [], 39⟩) (fun _ h => h) ?_ ?_
 · refine T.region ?_
   refine TL.op1 (OpR.pure rfl) rfl ?_
   refine TL.op1 (OpR.pure rfl) rfl ?_
   refine TL.op1 (OpR.pure rfl) rfl ?_
   rcases ite_some ht8 with ⟨c9, ht8⟩ | ⟨c9, ht8⟩
   rotate_left
   · refine TL.off rfl rfl rfl rfl (decide_eq_false c9) rfl rfl ?_
     refine TL.off rfl rfl rfl rfl (decide_eq_false c9) rfl rfl ?_
     refine TL.op1 (OpR.pickF rfl (decide_eq_false c9) rfl) rfl ?_
     refine TL.op1 (OpR.pure rfl) rfl ?_
     refine TL.nil ?_
     obtain rfl := Option.some.inj ht8
     exact ⟨_, Gst.only [0, 2, 3, 29] rfl, rfl⟩
   refine TL.on rfl rfl rfl rfl (decide_eq_true c9) ?_
   refine TL.op1 (OpR.pure rfl) rfl ?_
   refine TL.on rfl rfl rfl rfl (decide_eq_true c9) ?_
   refine TL.op1 (OpR.pure rfl) rfl ?_
   refine TL.op1 (OpR.pickT rfl (decide_eq_true c9) rfl) rfl ?_
   refine TL.op1 (OpR.pure rfl) rfl ?_
   refine TL.nil ?_
   obtain rfl := Option.some.inj ht8
   exact ⟨_, Gst.only [0, 2, 3, 29] rfl, rfl⟩
 rintro _ rfl
 show T X _ _ _
 rcases ite_some h0 with ⟨c10, h0⟩ | ⟨c10, h0⟩
 rotate_left
 · refine T.condF rfl (eq_false_of_ne_true c10) ?_
   refine T.skip ?_
   show T X _ _ _
   refine T.seq ?_
   refine T.region ?_
   refine TL.op1 (OpR.pure rfl) rfl ?_
   refine TL.op1 (OpR.pure rfl) rfl ?_
   refine TL.nil ?_
   show T X _ _ _
   refine T.ret ?_
   obtain rfl := Option.some.inj h0
   exact PostG.retP (ks := []) (Gst.only [2, 3] rfl) undef (ResL.cons (ResV.tmp rfl) (ResL.cons (ResV.tmp rfl) ResL.nil)) rfl rfl rfl rfl
 refine T.condT rfl (c10) ?_
 refine T.seq ?_
 refine T.region ?_
 refine TL.op1 (OpR.pure rfl) rfl ?_
 refine TL.op1 (OpR.cast (OpR.pure rfl) (intE (ub_wrap _))) rfl ?_
 refine TL.op1 (OpR.cast (OpR.pure rfl) (intE (w64_u8 _))) rfl ?_
 refine TL.op1 (OpR.pure rfl) rfl ?_
 refine TL.op1 (OpR.pure rfl) rfl ?_
 refine TL.nil ?_
 show T X _ _ _
 refine T.ret ?_
 obtain rfl := Option.some.inj h0
 exact PostG.retP (ks := []) (Gst.only [2, 3] rfl) undef (ResL.cons (ResV.tmp rfl) (ResL.cons (ResV.tmp rfl) ResL.nil)) rfl rfl rfl rfl
noncomputable def utf_scalar (a0 : Int) : Option Bool :=
  bnd (if a0 ≥ 0 then
    if a0 ≤ 1114111 then
      if a0 < 55296 then
        some true
      else
        some (decide (a0 > 57343))
    else
      some false
  else
    some false : Option Bool) fun t1 =>
  some t1
set_option maxHeartbeats 4000000 in
theorem utf_scalar_c {a0 : Int} {res : Bool} (h0 : utf_scalar a0 = some res) : CallF X 171 [.val (.int .i64 a0)] [] (fun x => .val (.bool res)) (fun x => []) := by
 unfold utf_scalar at h0
 refine CallF.mkG (X := X) Try.func171 rfl rfl Try.ntmps171 rfl rfl ?_
 refine T.seq ?_
 refine T.region ?_
 refine TL.op1 (OpR.pure rfl) rfl ?_
 refine TL.nil ?_
 show T X _ _ _
 refine T.seq ?_
 obtain ⟨t1, ht1, h0⟩ := bnd_some h0
 refine T.cutC (fun S' => S' = ⟨[(2, .val (.bool t1))], [], 17⟩) (fun _ h => h) ?_ ?_
 rotate_left
 · rintro _ rfl
   show T X _ _ _
   refine T.ret ?_
   obtain rfl := Option.some.inj h0
   exact PostG.retP (ks := []) (Gst.only [2] rfl) undef (ResL.cons (ResV.tmp rfl) ResL.nil) rfl rfl rfl rfl
 refine T.region ?_
 refine TL.op1 (OpR.pure rfl) rfl ?_
 refine TL.op1 (OpR.pure rfl) rfl ?_
 refine TL.op1 (OpR.pure rfl) rfl ?_
 rcases ite_some ht1 with ⟨c2, ht1⟩ | ⟨c2, ht1⟩
 rotate_left
 · refine TL.off rfl rfl rfl rfl (decide_eq_false c2) rfl rfl ?_
   refine TL.off rfl rfl rfl rfl (decide_eq_false c2) rfl rfl ?_
   refine TL.op1 (OpR.pickF rfl (decide_eq_false c2) rfl) rfl ?_
   refine TL.op1 (OpR.pure rfl) rfl ?_
   refine TL.off rfl rfl rfl rfl rfl rfl rfl ?_
   refine TL.off rfl rfl rfl rfl rfl rfl rfl ?_
   refine TL.off rfl rfl rfl rfl rfl rfl rfl ?_
   refine TL.offU rfl rfl rfl rfl rfl rfl ?_
   refine TL.offU rfl rfl rfl rfl rfl rfl ?_
   refine TL.off rfl rfl rfl rfl rfl rfl rfl ?_
   refine TL.op1 (OpR.pickF rfl rfl rfl) rfl ?_
   refine TL.op1 (OpR.pure rfl) rfl ?_
   refine TL.nil ?_
   obtain rfl := Option.some.inj ht1
   exact ⟨_, Gst.only [2] rfl, rfl⟩
 refine TL.on rfl rfl rfl rfl (decide_eq_true c2) ?_
 refine TL.op1 (OpR.pure rfl) rfl ?_
 refine TL.on rfl rfl rfl rfl (decide_eq_true c2) ?_
 refine TL.op1 (OpR.pure rfl) rfl ?_
 refine TL.op1 (OpR.pickT rfl (decide_eq_true c2) rfl) rfl ?_
 refine TL.op1 (OpR.pure rfl) rfl ?_
 rcases ite_some ht1 with ⟨c3, ht1⟩ | ⟨c3, ht1⟩
 rotate_left
 · refine TL.off rfl rfl rfl rfl (decide_eq_false c3) rfl rfl ?_
   refine TL.off rfl rfl rfl rfl (decide_eq_false c3) rfl rfl ?_
   refine TL.off rfl rfl rfl rfl (decide_eq_false c3) rfl rfl ?_
   refine TL.offU rfl rfl rfl rfl rfl rfl ?_
   refine TL.offU rfl rfl rfl rfl rfl rfl ?_
   refine TL.off rfl rfl rfl rfl (decide_eq_false c3) rfl rfl ?_
   refine TL.op1 (OpR.pickF rfl (decide_eq_false c3) rfl) rfl ?_
   refine TL.op1 (OpR.pure rfl) rfl ?_
   refine TL.nil ?_
   obtain rfl := Option.some.inj ht1
   exact ⟨_, Gst.only [2] rfl, rfl⟩
 refine TL.on rfl rfl rfl rfl (decide_eq_true c3) ?_
 refine TL.op1 (OpR.pure rfl) rfl ?_
 refine TL.on rfl rfl rfl rfl (decide_eq_true c3) ?_
 refine TL.op1 (OpR.pure rfl) rfl ?_
 refine TL.on rfl rfl rfl rfl (decide_eq_true c3) ?_
 refine TL.op1 (OpR.pure rfl) rfl ?_
 rcases ite_some ht1 with ⟨c4, ht1⟩ | ⟨c4, ht1⟩
 · refine TL.off rfl rfl rfl rfl (decide_eq_true c4) rfl rfl ?_
   refine TL.off rfl rfl rfl rfl (decide_eq_true c4) rfl rfl ?_
   refine TL.on rfl rfl rfl rfl (decide_eq_true c3) ?_
   refine TL.op1 (OpR.pickT rfl (decide_eq_true c4) rfl) rfl ?_
   refine TL.op1 (OpR.pickT rfl (decide_eq_true c3) rfl) rfl ?_
   refine TL.op1 (OpR.pure rfl) rfl ?_
   refine TL.nil ?_
   obtain rfl := Option.some.inj ht1
   exact ⟨_, Gst.only [2] rfl, rfl⟩
 refine TL.on rfl rfl rfl rfl (decide_eq_false c4) ?_
 refine TL.op1 (OpR.pure rfl) rfl ?_
 refine TL.on rfl rfl rfl rfl (decide_eq_false c4) ?_
 refine TL.op1 (OpR.pure rfl) rfl ?_
 refine TL.on rfl rfl rfl rfl (decide_eq_true c3) ?_
 refine TL.op1 (OpR.pickF rfl (decide_eq_false c4) rfl) rfl ?_
 refine TL.op1 (OpR.pickT rfl (decide_eq_true c3) rfl) rfl ?_
 refine TL.op1 (OpR.pure rfl) rfl ?_
 refine TL.nil ?_
 obtain rfl := Option.some.inj ht1
 exact ⟨_, Gst.only [2] rfl, rfl⟩
noncomputable def utf_least (a0 : Int) : Option Int :=
  if a0 = 1 then
    some 128
  else
    if a0 = 2 then
      some 2048
    else
      if a0 = 3 then
        some 65536
      else
        some 0
set_option maxHeartbeats 4000000 in
theorem utf_least_c {a0 : Int} {res : Int} (h0 : utf_least a0 = some res) : CallF X 218 [.val (.int .i64 a0)] [] (fun x => .val (.int .i64 res)) (fun x => []) := by
 unfold utf_least at h0
 refine CallF.mkG (X := X) Try.func218 rfl rfl Try.ntmps218 rfl rfl ?_
 refine T.seq ?_
 refine T.region ?_
 refine TL.op1 (OpR.pure rfl) rfl ?_
 refine TL.nil ?_
 show T X _ _ _
 refine T.seq ?_
 refine T.seq ?_
 refine T.region ?_
 refine TL.op1 (OpR.pure rfl) rfl ?_
 refine TL.nil ?_
 show T X _ _ _
 refine T.block ?_
 refine T.seq ?_
 refine T.region ?_
 refine TL.op1 (OpR.pure rfl) rfl ?_
 refine TL.op1 (OpR.pure rfl) rfl ?_
 refine TL.nil ?_
 show T X _ _ _
 rcases ite_some h0 with ⟨c1, h0⟩ | ⟨c1, h0⟩
 · refine T.condT rfl (beq_iff_eq.2 c1) ?_
   refine T.seq ?_
   refine T.region ?_
   refine TL.op1 (OpR.pure rfl) rfl ?_
   refine TL.nil ?_
   show T X _ _ _
   refine T.ret ?_
   obtain rfl := Option.some.inj h0
   exact PostG.retP (ks := []) (Gst.only [2] rfl) undef (ResL.cons (ResV.tmp rfl) ResL.nil) rfl rfl rfl rfl
 refine T.condF rfl (beq_eq_false_iff_ne.2 c1) ?_
 refine T.seq ?_
 refine T.region ?_
 refine TL.op1 (OpR.pure rfl) rfl ?_
 refine TL.op1 (OpR.pure rfl) rfl ?_
 refine TL.nil ?_
 show T X _ _ _
 rcases ite_some h0 with ⟨c2, h0⟩ | ⟨c2, h0⟩
 · refine T.condT rfl (beq_iff_eq.2 c2) ?_
   refine T.seq ?_
   refine T.region ?_
   refine TL.op1 (OpR.pure rfl) rfl ?_
   refine TL.nil ?_
   show T X _ _ _
   refine T.ret ?_
   obtain rfl := Option.some.inj h0
   exact PostG.retP (ks := []) (Gst.only [2] rfl) undef (ResL.cons (ResV.tmp rfl) ResL.nil) rfl rfl rfl rfl
 refine T.condF rfl (beq_eq_false_iff_ne.2 c2) ?_
 refine T.seq ?_
 refine T.region ?_
 refine TL.op1 (OpR.pure rfl) rfl ?_
 refine TL.op1 (OpR.pure rfl) rfl ?_
 refine TL.nil ?_
 show T X _ _ _
 rcases ite_some h0 with ⟨c3, h0⟩ | ⟨c3, h0⟩
 · refine T.condT rfl (beq_iff_eq.2 c3) ?_
   refine T.seq ?_
   refine T.region ?_
   refine TL.op1 (OpR.pure rfl) rfl ?_
   refine TL.nil ?_
   show T X _ _ _
   refine T.ret ?_
   obtain rfl := Option.some.inj h0
   exact PostG.retP (ks := []) (Gst.only [2] rfl) undef (ResL.cons (ResV.tmp rfl) ResL.nil) rfl rfl rfl rfl
 refine T.condF rfl (beq_eq_false_iff_ne.2 c3) ?_
 refine T.skip ?_
 show T X _ _ _
 refine T.seq ?_
 refine T.region ?_
 refine TL.op1 (OpR.pure rfl) rfl ?_
 refine TL.nil ?_
 show T X _ _ _
 refine T.ret ?_
 obtain rfl := Option.some.inj h0
 exact PostG.retP (ks := []) (Gst.only [2] rfl) undef (ResL.cons (ResV.tmp rfl) ResL.nil) rfl rfl rfl rfl
noncomputable def utf_decode.l1 (x6 : List UInt8) (s9 : Int × Int) : Option (Lp (Int × Int) (Ex Int (Int × Int))) :=
  if s9.2 < (x6.length : Int) then
    bnd (idx x6 s9.2) fun x18 =>
    if ((ub (iand .u8 (x18.toNat : Int) 192)).toNat : Int) = 128 then
      bnd (some (w64 (ior .i64 (w64 (ishl .i64 s9.1 6)) ((ub (iand .u8 (x18.toNat : Int) 63)).toNat : Int)))) fun x20 =>
      some (Lp.next (x20, w64 (s9.2 + 1)))
    else
      some (Lp.done (Ex.ret ((-1), 1)))
  else
    some (Lp.done (Ex.brk s9.1))
noncomputable def utf_decode (a0 : List UInt8) : Option (Int × Int) :=
  bnd (idx a0 0) fun x1 =>
  bnd (utf_lead x1) fun x2 =>
  bnd (if x2.1 < 0 then
    some true
  else
    some (decide (x2.1 ≥ (a0.length : Int))) : Option Bool) fun t3 =>
  if t3 = true then
    some ((-1), 1)
  else
    bnd (cut a0 1 (w64 (x2.1 + 1))) fun x6 =>
    bnd (loop (utf_decode.l1 x6) (x2.2, 0) : Option (Ex Int (Int × Int))) fun t7 => match t7 with
      | .brk u8 =>
        bnd (bnd (utf_scalar u8) fun x22 =>
        if x22 = true then
          bnd (utf_least x2.1) fun x24 =>
          some (decide (u8 < x24))
        else
          some true : Option Bool) fun t21 =>
        if t21 = true then
          some ((-1), 1)
        else
          some (u8, w64 (x2.1 + 1))
      | .ret u8 => some u8
set_option maxHeartbeats 4000000 in
theorem utf_decode_c {a0 : List UInt8} {res : Int × Int} (h0 : utf_decode a0 = some res) : CallF X 206 [.sl 1 (List.map byteD a0)] [] (fun x => .tup [.val (.int .i64 res.1), .val (.int .i64 res.2)]) (fun x => []) := by
 unfold utf_decode at h0
 refine CallF.mkG (X := X) Try.func206 rfl rfl Try.ntmps206 rfl rfl ?_
 refine T.seq ?_
 refine T.region ?_
 refine TL.op1 (OpR.pure rfl) rfl ?_
 refine TL.op1 (OpR.pure rfl) rfl ?_
 refine TL.nil ?_
 show T X _ _ _
 refine T.seq ?_
 refine T.region ?_
 refine TL.op1 (OpR.pure rfl) rfl ?_
 obtain ⟨x1, hx1, h0⟩ := bnd_some h0
 refine TL.op1 (OpR.indexM byteD hx1 rfl rfl rfl rfl rfl) rfl ?_
 refine TL.op1 (OpR.pure rfl) rfl ?_
 obtain ⟨x2, hx2, h0⟩ := bnd_some h0
 refine TL.op1 (OpR.call0 fn217 (utf_lead_c hx2) rfl) rfl ?_
 refine TL.op1 (OpR.pure rfl) rfl ?_
 refine TL.op1 (OpR.pure rfl) rfl ?_
 refine TL.op1 (OpR.pure rfl) rfl ?_
 refine TL.op1 (OpR.pure rfl) rfl ?_
 refine TL.op1 (OpR.pure rfl) rfl ?_
 refine TL.nil ?_
 show T X _ _ _
 refine T.seq ?_
 refine T.seq ?_
 obtain ⟨t3, ht3, h0⟩ := bnd_some h0
 refine T.cutC (fun S' => S' = ⟨[(22, .val (.bool t3)), (5, .val (.int .i64 x2.2)), (4, .val (.int .i64 x2.1)), (3, .val (.int .i64 0)), (2, .val (.int .i64 0)), (0, .sl 1 (List.map byteD a0))], [], 54⟩) (fun _ h => h) ?_ ?_
 · refine T.region ?_
   refine TL.op1 (OpR.pure rfl) rfl ?_
   refine TL.op1 (OpR.pure rfl) rfl ?_
   refine TL.op1 (OpR.pure rfl) rfl ?_
   rcases ite_some ht3 with ⟨c4, ht3⟩ | ⟨c4, ht3⟩
   · refine TL.off rfl rfl rfl rfl (decide_eq_true c4) rfl rfl ?_
     refine TL.off rfl rfl rfl rfl (decide_eq_true c4) rfl rfl ?_
     refine TL.off rfl rfl rfl rfl (decide_eq_true c4) rfl rfl ?_
     refine TL.off rfl rfl rfl rfl (decide_eq_true c4) rfl rfl ?_
     refine TL.op1 (OpR.pickT rfl (decide_eq_true c4) rfl) rfl ?_
     refine TL.nil ?_
     obtain rfl := Option.some.inj ht3
     exact ⟨_, Gst.only [0, 2, 3, 4, 5, 22] rfl, rfl⟩
   refine TL.on rfl rfl rfl rfl (decide_eq_false c4) ?_
   refine TL.op1 (OpR.pure rfl) rfl ?_
   refine TL.on rfl rfl rfl rfl (decide_eq_false c4) ?_
   refine TL.op1 (OpR.pure rfl) rfl ?_
   refine TL.on rfl rfl rfl rfl (decide_eq_false c4) ?_
   refine TL.op1 (OpR.cast (OpR.pure rfl) (intE (lenM _ _))) rfl ?_
   refine TL.on rfl rfl rfl rfl (decide_eq_false c4) ?_
   refine TL.op1 (OpR.pure rfl) rfl ?_
   refine TL.op1 (OpR.pickF rfl (decide_eq_false c4) rfl) rfl ?_
   refine TL.nil ?_
   obtain rfl := Option.some.inj ht3
   exact ⟨_, Gst.only [0, 2, 3, 4, 5, 22] rfl, rfl⟩
 rintro _ rfl
 show T X _ _ _
 rcases ite_some h0 with ⟨c5, h0⟩ | ⟨c5, h0⟩
 · refine T.condT rfl (c5) ?_
   refine T.seq ?_
   refine T.region ?_
   refine TL.op1 (OpR.pure rfl) rfl ?_
   refine TL.op1 (OpR.pure rfl) rfl ?_
   refine TL.nil ?_
   show T X _ _ _
   refine T.ret ?_
   obtain rfl := Option.some.inj h0
   exact PostG.retP (ks := []) (Gst.only [2, 3] rfl) undef (ResL.cons (ResV.tmp rfl) (ResL.cons (ResV.tmp rfl) ResL.nil)) rfl rfl rfl rfl
 refine T.condF rfl (eq_false_of_ne_true c5) ?_
 refine T.skip ?_
 show T X _ _ _
 refine T.seq ?_
 refine T.seq ?_
 refine T.region ?_
 refine TL.op1 (OpR.pure rfl) rfl ?_
 refine TL.op1 (OpR.pure rfl) rfl ?_
 refine TL.op1 (OpR.pure rfl) rfl ?_
 obtain ⟨x6, hx6, h0⟩ := bnd_some h0
 refine TL.op1 (OpR.sliceM (sz := 1) byteD hx6 rfl rfl rfl rfl (BdM.some rfl) (BdM.some rfl) rfl) rfl ?_
 refine TL.op1 (OpR.cast (OpR.pure rfl) (intE (lenM _ _))) rfl ?_
 refine TL.op1 (OpR.pure rfl) rfl ?_
 refine TL.nil ?_
 show T X _ _ _
 obtain ⟨t7, ht7, h0⟩ := bnd_some h0
 refine T.cutC (fun S' => ∃ u8, t7 = Ex.brk u8 ∧ S' = ⟨[(5, .val (.int .i64 u8)), (4, .val (.int .i64 x2.1)), (3, .val (.int .i64 0)), (2, .val (.int .i64 0))], [], 54⟩) (fun _ h => h) ?_ ?_
 rotate_left
 · rintro _ ⟨u8, rfl, rfl⟩
   show T X _ _ _
   refine T.seq ?_
   refine T.seq ?_
   obtain ⟨t21, ht21, h0⟩ := bnd_some h0
   refine T.cutC (fun S' => S' = ⟨[(50, .val (.bool t21)), (5, .val (.int .i64 u8)), (4, .val (.int .i64 x2.1)), (3, .val (.int .i64 0)), (2, .val (.int .i64 0))], [], 54⟩) (fun _ h => h) ?_ ?_
   rotate_left
   · rintro _ rfl
     show T X _ _ _
     rcases ite_some h0 with ⟨c25, h0⟩ | ⟨c25, h0⟩
     · refine T.condT rfl (c25) ?_
       refine T.seq ?_
       refine T.region ?_
       refine TL.op1 (OpR.pure rfl) rfl ?_
       refine TL.op1 (OpR.pure rfl) rfl ?_
       refine TL.nil ?_
       show T X _ _ _
       refine T.ret ?_
       obtain rfl := Option.some.inj h0
       exact PostG.retP (ks := []) (Gst.only [2, 3] rfl) undef (ResL.cons (ResV.tmp rfl) (ResL.cons (ResV.tmp rfl) ResL.nil)) rfl rfl rfl rfl
     refine T.condF rfl (eq_false_of_ne_true c25) ?_
     refine T.skip ?_
     show T X _ _ _
     refine T.seq ?_
     refine T.region ?_
     refine TL.op1 (OpR.pure rfl) rfl ?_
     refine TL.op1 (OpR.pure rfl) rfl ?_
     refine TL.op1 (OpR.pure rfl) rfl ?_
     refine TL.op1 (OpR.pure rfl) rfl ?_
     refine TL.op1 (OpR.pure rfl) rfl ?_
     refine TL.nil ?_
     show T X _ _ _
     refine T.ret ?_
     obtain rfl := Option.some.inj h0
     exact PostG.retP (ks := []) (Gst.only [2, 3] rfl) undef (ResL.cons (ResV.tmp rfl) (ResL.cons (ResV.tmp rfl) ResL.nil)) rfl rfl rfl rfl
   refine T.region ?_
   refine TL.op1 (OpR.pure rfl) rfl ?_
   obtain ⟨x22, hx22, ht21⟩ := bnd_some ht21
   refine TL.op1 (OpR.call0 fn171 (utf_scalar_c hx22) rfl) rfl ?_
   refine TL.op1 (OpR.pure rfl) rfl ?_
   refine TL.op1 (OpR.pure rfl) rfl ?_
   rcases ite_some ht21 with ⟨c23, ht21⟩ | ⟨c23, ht21⟩
   rotate_left
   · refine TL.off rfl rfl rfl rfl (not_f (eq_false_of_ne_true c23)) rfl rfl ?_
     refine TL.off rfl rfl rfl rfl (not_f (eq_false_of_ne_true c23)) rfl rfl ?_
     refine TL.off rfl rfl rfl rfl (not_f (eq_false_of_ne_true c23)) rfl rfl ?_
     refine TL.off rfl rfl rfl rfl (not_f (eq_false_of_ne_true c23)) rfl rfl ?_
     refine TL.op1 (OpR.pickT rfl (not_f (eq_false_of_ne_true c23)) rfl) rfl ?_
     refine TL.nil ?_
     obtain rfl := Option.some.inj ht21
     exact ⟨_, Gst.only [2, 3, 4, 5, 50] rfl, rfl⟩
   refine TL.on rfl rfl rfl rfl (not_t (c23)) ?_
   refine TL.op1 (OpR.pure rfl) rfl ?_
   refine TL.on rfl rfl rfl rfl (not_t (c23)) ?_
   refine TL.op1 (OpR.pure rfl) rfl ?_
   refine TL.on rfl rfl rfl rfl (not_t (c23)) ?_
   obtain ⟨x24, hx24, ht21⟩ := bnd_some ht21
   refine TL.op1 (OpR.call0 fn218 (utf_least_c hx24) rfl) rfl ?_
   refine TL.on rfl rfl rfl rfl (not_t (c23)) ?_
   refine TL.op1 (OpR.pure rfl) rfl ?_
   refine TL.op1 (OpR.pickF rfl (not_t (c23)) rfl) rfl ?_
   refine TL.nil ?_
   obtain rfl := Option.some.inj ht21
   exact ⟨_, Gst.only [2, 3, 4, 5, 50] rfl, rfl⟩
 refine T.block ?_
 obtain ⟨n10, n15⟩ := loop_some ht7
 refine T.loop (fun n S' => ∃ S'', Gst S' S'' ∧ ∃ s9 : Int × Int, S'' = ⟨[(28, .val (.int .i64 s9.2)), (27, .val (.int .i64 (x6.length : Int))), (26, .sl 1 (List.map byteD x6)), (5, .val (.int .i64 s9.1)), (4, .val (.int .i64 x2.1)), (3, .val (.int .i64 0)), (2, .val (.int .i64 0))], [], 54⟩ ∧ iter (utf_decode.l1 x6) n s9 = some t7) n10 ?_ ?_
 · exact ⟨_, Gst.only [2, 3, 4, 5, 26, 27, 28] rfl, (x2.2, 0), rfl, n15⟩
 rintro n10 _ ⟨_, g, s9, rfl, i14⟩
 refine T.ghost g ?_
 obtain ⟨m11, q12, rfl, q13, i14⟩ := iter_succ i14
 unfold utf_decode.l1 at q13
 refine T.seq ?_
 refine T.region ?_
 refine TL.op1 (OpR.pure rfl) rfl ?_
 refine TL.nil ?_
 show T X _ _ _
 refine T.seq ?_
 rcases ite_some q13 with ⟨c17, q13⟩ | ⟨c17, q13⟩
 rotate_left
 · refine T.condF rfl (decide_eq_false c17) ?_
   refine T.exit ?_
   obtain rfl := Option.some.inj q13
   obtain rfl : _ = _ := i14
   exact ⟨_, Gst.only [2, 3, 4, 5] rfl, _, rfl, rfl⟩
 refine T.condT rfl (decide_eq_true c17) ?_
 refine T.skip ?_
 show T X _ _ _
 refine T.seq ?_
 refine T.block ?_
 refine T.seq ?_
 refine T.region ?_
 obtain ⟨x18, hx18, q13⟩ := bnd_some q13
 refine TL.op1 (OpR.indexM byteD hx18 rfl rfl rfl rfl rfl) rfl ?_
 refine TL.op1 (OpR.pure rfl) rfl ?_
 refine TL.op1 (OpR.pure rfl) rfl ?_
 refine TL.nil ?_
 show T X _ _ _
 refine T.seq ?_
 refine T.seq ?_
 refine T.region ?_
 refine TL.op1 (OpR.pure rfl) rfl ?_
 refine TL.op1 (OpR.cast (OpR.pure rfl) (intE (ub_wrap _))) rfl ?_
 refine TL.op1 (OpR.pure rfl) rfl ?_
 refine TL.nil ?_
 show T X _ _ _
 rcases ite_some q13 with ⟨c19, q13⟩ | ⟨c19, q13⟩
 rotate_left
 · refine T.condT rfl (not_f (beq_eq_false_iff_ne.2 c19)) ?_
   refine T.seq ?_
   refine T.region ?_
   refine TL.op1 (OpR.pure rfl) rfl ?_
   refine TL.op1 (OpR.pure rfl) rfl ?_
   refine TL.nil ?_
   show T X _ _ _
   refine T.ret ?_
   obtain rfl := Option.some.inj q13
   obtain rfl : _ = _ := i14
   obtain rfl := Option.some.inj h0
   exact PostG.retP (ks := []) (Gst.only [2, 3] rfl) undef (ResL.cons (ResV.tmp rfl) (ResL.cons (ResV.tmp rfl) ResL.nil)) rfl rfl rfl rfl
 refine T.condF rfl (not_t (beq_iff_eq.2 c19)) ?_
 refine T.skip ?_
 show T X _ _ _
 refine T.region ?_
 refine TL.op1 (OpR.pure rfl) rfl ?_
 refine TL.op1 (OpR.pure rfl) rfl ?_
 refine TL.op1 (OpR.pure rfl) rfl ?_
 refine TL.op1 (OpR.cast (OpR.pure rfl) (intE (ub_wrap _))) rfl ?_
 refine TL.op1 (OpR.cast (OpR.pure rfl) (intE (w64_u8 _))) rfl ?_
 obtain ⟨x20, hx20, q13⟩ := bnd_some q13
 refine TL.op1 (OpR.cast (OpR.pure rfl) (intE (Option.some.inj hx20))) rfl ?_
 refine TL.op1 (OpR.pure rfl) rfl ?_
 refine TL.nil ?_
 show T X _ _ _
 refine T.region ?_
 refine TL.op1 (OpR.pure rfl) rfl ?_
 refine TL.op1 (OpR.pure rfl) rfl ?_
 refine TL.nil ?_
 obtain rfl := Option.some.inj q13
 exact ⟨m11, Nat.lt_succ_self _, _, Gst.only [2, 3, 4, 5, 26, 27, 28] rfl, (x20, w64 (s9.2 + 1)), rfl, i14⟩
noncomputable def utf_Size (a0 : List UInt8) (a1 : Int) : Option Int :=
  bnd (utf_within a0 a1) fun x1 =>
  if x1 = true then
    bnd (cut a0 a1 (a0.length : Int)) fun x3 =>
    bnd (utf_decode x3) fun x4 =>
    some x4.2
  else
    some 0
set_option maxHeartbeats 4000000 in
theorem utf_Size_c {a0 : List UInt8} {a1 : Int} {res : Int} (h0 : utf_Size a0 a1 = some res) : CallF X 184 [.sl 1 (List.map byteD a0), .val (.int .i64 a1)] [] (fun x => .val (.int .i64 res)) (fun x => []) := by
 unfold utf_Size at h0
 refine CallF.mkG (X := X) Try.func184 rfl rfl Try.ntmps184 rfl rfl ?_
 refine T.seq ?_
 refine T.region ?_
 refine TL.op1 (OpR.pure rfl) rfl ?_
 refine TL.nil ?_
 show T X _ _ _
 refine T.seq ?_
 refine T.seq ?_
 refine T.region ?_
 refine TL.op1 (OpR.pure rfl) rfl ?_
 refine TL.op1 (OpR.pure rfl) rfl ?_
 obtain ⟨x1, hx1, h0⟩ := bnd_some h0
 refine TL.op1 (OpR.call0 fn205 (utf_within_c hx1) rfl) rfl ?_
 refine TL.op1 (OpR.pure rfl) rfl ?_
 refine TL.nil ?_
 show T X _ _ _
 rcases ite_some h0 with ⟨c2, h0⟩ | ⟨c2, h0⟩
 rotate_left
 · refine T.condT rfl (not_f (eq_false_of_ne_true c2)) ?_
   refine T.seq ?_
   refine T.region ?_
   refine TL.op1 (OpR.pure rfl) rfl ?_
   refine TL.nil ?_
   show T X _ _ _
   refine T.ret ?_
   obtain rfl := Option.some.inj h0
   exact PostG.retP (ks := []) (Gst.only [4] rfl) undef (ResL.cons (ResV.tmp rfl) ResL.nil) rfl rfl rfl rfl
 refine T.condF rfl (not_t (c2)) ?_
 refine T.skip ?_
 show T X _ _ _
 refine T.seq ?_
 refine T.region ?_
 refine TL.op1 (OpR.pure rfl) rfl ?_
 refine TL.op1 (OpR.pure rfl) rfl ?_
 obtain ⟨x3, hx3, h0⟩ := bnd_some h0
 refine TL.op1 (OpR.sliceM (sz := 1) byteD hx3 rfl rfl rfl rfl (BdM.some rfl) BdM.none rfl) rfl ?_
 obtain ⟨x4, hx4, h0⟩ := bnd_some h0
 refine TL.op1 (OpR.call0 fn206 (utf_decode_c hx4) rfl) rfl ?_
 refine TL.op1 (OpR.pure rfl) rfl ?_
 refine TL.op1 (OpR.pure rfl) rfl ?_
 refine TL.op1 (OpR.pure rfl) rfl ?_
 refine TL.op1 (OpR.pure rfl) rfl ?_
 refine TL.op1 (OpR.pure rfl) rfl ?_
 refine TL.nil ?_
 show T X _ _ _
 refine T.seq ?_
 refine T.region ?_
 refine TL.op1 (OpR.pure rfl) rfl ?_
 refine TL.op1 (OpR.pure rfl) rfl ?_
 refine TL.nil ?_
 show T X _ _ _
 refine T.ret ?_
 obtain rfl := Option.some.inj h0
 exact PostG.retP (ks := []) (Gst.only [4] rfl) undef (ResL.cons (ResV.tmp rfl) ResL.nil) rfl rfl rfl rfl
noncomputable def utf_Bound.l1 (a0 : List UInt8) (a1 : Int) (s6 : Int) : Option (Lp Int (Ex Unit Bool)) :=
  bnd (if s6 < 4 then
    some (decide (s6 ≤ a1))
  else
    some false : Option Bool) fun t14 =>
  if t14 = true then
    bnd (utf_Size a0 (w64 (a1 - s6))) fun x17 =>
    if x17 > s6 then
      some (Lp.done (Ex.ret false))
    else
      some (Lp.next (w64 (s6 + 1)))
  else
    some (Lp.done (Ex.brk ()))
noncomputable def utf_Bound (a0 : List UInt8) (a1 : Int) : Option Bool :=
  bnd (if a1 < 0 then
    some true
  else
    some (decide (a1 > (a0.length : Int))) : Option Bool) fun t1 =>
  if t1 = true then
    some false
  else
    bnd (loop (utf_Bound.l1 a0 a1) 1 : Option (Ex Unit Bool)) fun t4 => match t4 with
      | .brk u5 =>
        some true
      | .ret u5 => some u5
set_option maxHeartbeats 4000000 in
theorem utf_Bound_c {a0 : List UInt8} {a1 : Int} {res : Bool} (h0 : utf_Bound a0 a1 = some res) : CallF X 142 [.sl 1 (List.map byteD a0), .val (.int .i64 a1)] [] (fun x => .val (.bool res)) (fun x => []) := by
 unfold utf_Bound at h0
 refine CallF.mkG (X := X) Try.func142 rfl rfl Try.ntmps142 rfl rfl ?_
 refine T.seq ?_
 refine T.region ?_
 refine TL.op1 (OpR.pure rfl) rfl ?_
 refine TL.nil ?_
 show T X _ _ _
 refine T.seq ?_
 refine T.seq ?_
 obtain ⟨t1, ht1, h0⟩ := bnd_some h0
 refine T.cutC (fun S' => S' = ⟨[(13, .val (.bool t1)), (4, .val (.bool false)), (1, .val (.int .i64 a1)), (0, .sl 1 (List.map byteD a0))], [], 30⟩) (fun _ h => h) ?_ ?_
 · refine T.region ?_
   refine TL.op1 (OpR.pure rfl) rfl ?_
   refine TL.op1 (OpR.pure rfl) rfl ?_
   refine TL.op1 (OpR.pure rfl) rfl ?_
   rcases ite_some ht1 with ⟨c2, ht1⟩ | ⟨c2, ht1⟩
   · refine TL.off rfl rfl rfl rfl (decide_eq_true c2) rfl rfl ?_
     refine TL.off rfl rfl rfl rfl (decide_eq_true c2) rfl rfl ?_
     refine TL.off rfl rfl rfl rfl (decide_eq_true c2) rfl rfl ?_
     refine TL.off rfl rfl rfl rfl (decide_eq_true c2) rfl rfl ?_
     refine TL.op1 (OpR.pickT rfl (decide_eq_true c2) rfl) rfl ?_
     refine TL.nil ?_
     obtain rfl := Option.some.inj ht1
     exact ⟨_, Gst.only [0, 1, 4, 13] rfl, rfl⟩
   refine TL.on rfl rfl rfl rfl (decide_eq_false c2) ?_
   refine TL.op1 (OpR.pure rfl) rfl ?_
   refine TL.on rfl rfl rfl rfl (decide_eq_false c2) ?_
   refine TL.op1 (OpR.pure rfl) rfl ?_
   refine TL.on rfl rfl rfl rfl (decide_eq_false c2) ?_
   refine TL.op1 (OpR.cast (OpR.pure rfl) (intE (lenM _ _))) rfl ?_
   refine TL.on rfl rfl rfl rfl (decide_eq_false c2) ?_
   refine TL.op1 (OpR.pure rfl) rfl ?_
   refine TL.op1 (OpR.pickF rfl (decide_eq_false c2) rfl) rfl ?_
   refine TL.nil ?_
   obtain rfl := Option.some.inj ht1
   exact ⟨_, Gst.only [0, 1, 4, 13] rfl, rfl⟩
 rintro _ rfl
 show T X _ _ _
 rcases ite_some h0 with ⟨c3, h0⟩ | ⟨c3, h0⟩
 · refine T.condT rfl (c3) ?_
   refine T.seq ?_
   refine T.region ?_
   refine TL.op1 (OpR.pure rfl) rfl ?_
   refine TL.nil ?_
   show T X _ _ _
   refine T.ret ?_
   obtain rfl := Option.some.inj h0
   exact PostG.retP (ks := []) (Gst.only [4] rfl) undef (ResL.cons (ResV.tmp rfl) ResL.nil) rfl rfl rfl rfl
 refine T.condF rfl (eq_false_of_ne_true c3) ?_
 refine T.skip ?_
 show T X _ _ _
 refine T.seq ?_
 refine T.seq ?_
 refine T.region ?_
 refine TL.op1 (OpR.pure rfl) rfl ?_
 refine TL.nil ?_
 show T X _ _ _
 obtain ⟨t4, ht4, h0⟩ := bnd_some h0
 refine T.cutC (fun S' => ∃ u5, t4 = Ex.brk u5 ∧ S' = ⟨[(4, .val (.bool false))], [], 30⟩) (fun _ h => h) ?_ ?_
 rotate_left
 · rintro _ ⟨u5, rfl, rfl⟩
   show T X _ _ _
   refine T.seq ?_
   refine T.region ?_
   refine TL.op1 (OpR.pure rfl) rfl ?_
   refine TL.nil ?_
   show T X _ _ _
   refine T.ret ?_
   obtain rfl := Option.some.inj h0
   exact PostG.retP (ks := []) (Gst.only [4] rfl) undef (ResL.cons (ResV.tmp rfl) ResL.nil) rfl rfl rfl rfl
 refine T.block ?_
 obtain ⟨n7, n12⟩ := loop_some ht4
 refine T.loop (fun n S' => ∃ S'', Gst S' S'' ∧ ∃ s6 : Int, S'' = ⟨[(5, .val (.int .i64 s6)), (4, .val (.bool false)), (1, .val (.int .i64 a1)), (0, .sl 1 (List.map byteD a0))], [], 30⟩ ∧ iter (utf_Bound.l1 a0 a1) n s6 = some t4) n7 ?_ ?_
 · exact ⟨_, Gst.only [0, 1, 4, 5] rfl, 1, rfl, n12⟩
 rintro n7 _ ⟨_, g, s6, rfl, i11⟩
 refine T.ghost g ?_
 obtain ⟨m8, q9, rfl, q10, i11⟩ := iter_succ i11
 unfold utf_Bound.l1 at q10
 refine T.seq ?_
 refine T.seq ?_
 obtain ⟨t14, ht14, q10⟩ := bnd_some q10
 refine T.cutC (fun S' => S' = ⟨[(20, .val (.bool t14)), (5, .val (.int .i64 s6)), (4, .val (.bool false)), (1, .val (.int .i64 a1)), (0, .sl 1 (List.map byteD a0))], [], 30⟩) (fun _ h => h) ?_ ?_
 · refine T.region ?_
   refine TL.op1 (OpR.pure rfl) rfl ?_
   refine TL.op1 (OpR.pure rfl) rfl ?_
   refine TL.op1 (OpR.pure rfl) rfl ?_
   rcases ite_some ht14 with ⟨c15, ht14⟩ | ⟨c15, ht14⟩
   rotate_left
   · refine TL.off rfl rfl rfl rfl (decide_eq_false c15) rfl rfl ?_
     refine TL.off rfl rfl rfl rfl (decide_eq_false c15) rfl rfl ?_
     refine TL.off rfl rfl rfl rfl (decide_eq_false c15) rfl rfl ?_
     refine TL.op1 (OpR.pickF rfl (decide_eq_false c15) rfl) rfl ?_
     refine TL.nil ?_
     obtain rfl := Option.some.inj ht14
     exact ⟨_, Gst.only [0, 1, 4, 5, 20] rfl, rfl⟩
   refine TL.on rfl rfl rfl rfl (decide_eq_true c15) ?_
   refine TL.op1 (OpR.pure rfl) rfl ?_
   refine TL.on rfl rfl rfl rfl (decide_eq_true c15) ?_
   refine TL.op1 (OpR.pure rfl) rfl ?_
   refine TL.on rfl rfl rfl rfl (decide_eq_true c15) ?_
   refine TL.op1 (OpR.pure rfl) rfl ?_
   refine TL.op1 (OpR.pickT rfl (decide_eq_true c15) rfl) rfl ?_
   refine TL.nil ?_
   obtain rfl := Option.some.inj ht14
   exact ⟨_, Gst.only [0, 1, 4, 5, 20] rfl, rfl⟩
 rintro _ rfl
 show T X _ _ _
 rcases ite_some q10 with ⟨c16, q10⟩ | ⟨c16, q10⟩
 rotate_left
 · refine T.condF rfl (eq_false_of_ne_true c16) ?_
   refine T.exit ?_
   obtain rfl := Option.some.inj q10
   obtain rfl : _ = _ := i11
   exact ⟨_, Gst.only [4] rfl, _, rfl, rfl⟩
 refine T.condT rfl (c16) ?_
 refine T.skip ?_
 show T X _ _ _
 refine T.seq ?_
 refine T.block ?_
 refine T.seq ?_
 refine T.region ?_
 refine TL.op1 (OpR.pure rfl) rfl ?_
 refine TL.op1 (OpR.pure rfl) rfl ?_
 refine TL.op1 (OpR.pure rfl) rfl ?_
 refine TL.op1 (OpR.pure rfl) rfl ?_
 obtain ⟨x17, hx17, q10⟩ := bnd_some q10
 refine TL.op1 (OpR.call0 fn184 (utf_Size_c hx17) rfl) rfl ?_
 refine TL.op1 (OpR.pure rfl) rfl ?_
 refine TL.op1 (OpR.pure rfl) rfl ?_
 refine TL.nil ?_
 show T X _ _ _
 rcases ite_some q10 with ⟨c18, q10⟩ | ⟨c18, q10⟩
 rotate_left
 · refine T.condF rfl (decide_eq_false c18) ?_
   refine T.skip ?_
   show T X _ _ _
   refine T.region ?_
   refine TL.op1 (OpR.pure rfl) rfl ?_
   refine TL.op1 (OpR.pure rfl) rfl ?_
   refine TL.op1 (OpR.pure rfl) rfl ?_
   refine TL.nil ?_
   obtain rfl := Option.some.inj q10
   exact ⟨m8, Nat.lt_succ_self _, _, Gst.only [0, 1, 4, 5] rfl, w64 (s6 + 1), rfl, i11⟩
 refine T.condT rfl (decide_eq_true c18) ?_
 refine T.seq ?_
 refine T.region ?_
 refine TL.op1 (OpR.pure rfl) rfl ?_
 refine TL.nil ?_
 show T X _ _ _
 refine T.ret ?_
 obtain rfl := Option.some.inj q10
 obtain rfl : _ = _ := i11
 obtain rfl := Option.some.inj h0
 exact PostG.retP (ks := []) (Gst.only [4] rfl) undef (ResL.cons (ResV.tmp rfl) ResL.nil) rfl rfl rfl rfl
noncomputable def utf_Prev.l1 (a0 : List UInt8) (s4 : Int) : Option (Lp Int (Ex Unit Int)) :=
  if s4 > 0 then
    bnd (utf_Bound a0 (w64 (s4 - 1))) fun x13 =>
    if x13 = true then
      some (Lp.done (Ex.ret (w64 (s4 - 1))))
    else
      some (Lp.next (w64 (s4 - 1)))
  else
    some (Lp.done (Ex.brk ()))
noncomputable def utf_Prev (a0 : List UInt8) (a1 : Int) : Option Int :=
  bnd (some (if (w64 ((a0.length : Int) + 1)) < a1 then (w64 ((a0.length : Int) + 1)) else a1)) fun x1 =>
  bnd (loop (utf_Prev.l1 a0) x1 : Option (Ex Unit Int)) fun t2 => match t2 with
    | .brk u3 =>
      some 0
    | .ret u3 => some u3
set_option maxHeartbeats 4000000 in
theorem utf_Prev_c {a0 : List UInt8} {a1 : Int} {res : Int} (h0 : utf_Prev a0 a1 = some res) : CallF X 132 [.sl 1 (List.map byteD a0), .val (.int .i64 a1)] [] (fun x => .val (.int .i64 res)) (fun x => []) := by
 unfold utf_Prev at h0
 refine CallF.mkG (X := X) Try.func132 rfl rfl Try.ntmps132 rfl rfl ?_
 refine T.seq ?_
 refine T.region ?_
 refine TL.op1 (OpR.pure rfl) rfl ?_
 refine TL.nil ?_
 show T X _ _ _
 refine T.seq ?_
 refine T.region ?_
 refine TL.op1 (OpR.pure rfl) rfl ?_
 refine TL.op1 (OpR.pure rfl) rfl ?_
 refine TL.op1 (OpR.cast (OpR.pure rfl) (intE (lenM _ _))) rfl ?_
 refine TL.op1 (OpR.pure rfl) rfl ?_
 obtain ⟨x1, hx1, h0⟩ := bnd_some h0
 refine TL.op1 (OpR.cast (OpR.pure rfl) (intE (Option.some.inj hx1))) rfl ?_
 refine TL.op1 (OpR.pure rfl) rfl ?_
 refine TL.nil ?_
 show T X _ _ _
 refine T.seq ?_
 obtain ⟨t2, ht2, h0⟩ := bnd_some h0
 refine T.cutC (fun S' => ∃ u3, t2 = Ex.brk u3 ∧ S' = ⟨[(4, .val (.int .i64 0))], [], 18⟩) (fun _ h => h) ?_ ?_
 rotate_left
 · rintro _ ⟨u3, rfl, rfl⟩
   show T X _ _ _
   refine T.seq ?_
   refine T.region ?_
   refine TL.op1 (OpR.pure rfl) rfl ?_
   refine TL.nil ?_
   show T X _ _ _
   refine T.ret ?_
   obtain rfl := Option.some.inj h0
   exact PostG.retP (ks := []) (Gst.only [4] rfl) undef (ResL.cons (ResV.tmp rfl) ResL.nil) rfl rfl rfl rfl
 refine T.block ?_
 obtain ⟨n5, n10⟩ := loop_some ht2
 refine T.loop (fun n S' => ∃ S'', Gst S' S'' ∧ ∃ s4 : Int, S'' = ⟨[(4, .val (.int .i64 0)), (1, .val (.int .i64 s4)), (0, .sl 1 (List.map byteD a0))], [], 18⟩ ∧ iter (utf_Prev.l1 a0) n s4 = some t2) n5 ?_ ?_
 · exact ⟨_, Gst.only [0, 1, 4] rfl, x1, rfl, n10⟩
 rintro n5 _ ⟨_, g, s4, rfl, i9⟩
 refine T.ghost g ?_
 obtain ⟨m6, q7, rfl, q8, i9⟩ := iter_succ i9
 unfold utf_Prev.l1 at q8
 refine T.seq ?_
 refine T.seq ?_
 refine T.region ?_
 refine TL.op1 (OpR.pure rfl) rfl ?_
 refine TL.op1 (OpR.pure rfl) rfl ?_
 refine TL.nil ?_
 show T X _ _ _
 rcases ite_some q8 with ⟨c12, q8⟩ | ⟨c12, q8⟩
 rotate_left
 · refine T.condF rfl (decide_eq_false c12) ?_
   refine T.exit ?_
   obtain rfl := Option.some.inj q8
   obtain rfl : _ = _ := i9
   exact ⟨_, Gst.only [4] rfl, _, rfl, rfl⟩
 refine T.condT rfl (decide_eq_true c12) ?_
 refine T.skip ?_
 show T X _ _ _
 refine T.block ?_
 refine T.seq ?_
 refine T.region ?_
 refine TL.op1 (OpR.pure rfl) rfl ?_
 refine TL.op1 (OpR.pure rfl) rfl ?_
 refine TL.op1 (OpR.pure rfl) rfl ?_
 refine TL.nil ?_
 show T X _ _ _
 refine T.seq ?_
 refine T.region ?_
 refine TL.op1 (OpR.pure rfl) rfl ?_
 refine TL.op1 (OpR.pure rfl) rfl ?_
 obtain ⟨x13, hx13, q8⟩ := bnd_some q8
 refine TL.op1 (OpR.call0 fn142 (utf_Bound_c hx13) rfl) rfl ?_
 refine TL.nil ?_
 show T X _ _ _
 rcases ite_some q8 with ⟨c14, q8⟩ | ⟨c14, q8⟩
 rotate_left
 · refine T.condF rfl (eq_false_of_ne_true c14) ?_
   refine T.skip ?_
   obtain rfl := Option.some.inj q8
   exact ⟨m6, Nat.lt_succ_self _, _, Gst.only [0, 1, 4] rfl, w64 (s4 - 1), rfl, i9⟩
 refine T.condT rfl (c14) ?_
 refine T.seq ?_
 refine T.region ?_
 refine TL.op1 (OpR.pure rfl) rfl ?_
 refine TL.op1 (OpR.pure rfl) rfl ?_
 refine TL.nil ?_
 show T X _ _ _
 refine T.ret ?_
 obtain rfl := Option.some.inj q8
 obtain rfl : _ = _ := i9
 obtain rfl := Option.some.inj h0
 exact PostG.retP (ks := []) (Gst.only [4] rfl) undef (ResL.cons (ResV.tmp rfl) ResL.nil) rfl rfl rfl rfl
noncomputable def line_bound (a0 : List UInt8) (a1 : Int) : Option Int :=
  bnd (some (if (a0.length : Int) < (if 0 > a1 then 0 else a1) then (a0.length : Int) else (if 0 > a1 then 0 else a1))) fun x1 =>
  bnd (utf_Bound a0 x1) fun x2 =>
  if x2 = true then
    some x1
  else
    bnd (utf_Prev a0 x1) fun x4 =>
    some x4
set_option maxHeartbeats 4000000 in
theorem line_bound_c {a0 : List UInt8} {a1 : Int} {res : Int} (h0 : line_bound a0 a1 = some res) : CallF X 87 [.sl 1 (List.map byteD a0), .val (.int .i64 a1)] [] (fun x => .val (.int .i64 res)) (fun x => []) := by
 unfold line_bound at h0
 refine CallF.mkG (X := X) Try.func87 rfl rfl Try.ntmps87 rfl rfl ?_
 refine T.seq ?_
 refine T.region ?_
 refine TL.op1 (OpR.pure rfl) rfl ?_
 refine TL.nil ?_
 show T X _ _ _
 refine T.seq ?_
 refine T.region ?_
 refine TL.op1 (OpR.pure rfl) rfl ?_
 refine TL.op1 (OpR.pure rfl) rfl ?_
 refine TL.op1 (OpR.pure rfl) rfl ?_
 refine TL.op1 (OpR.cast (OpR.pure rfl) (intE (lenM _ _))) rfl ?_
 obtain ⟨x1, hx1, h0⟩ := bnd_some h0
 refine TL.op1 (OpR.cast (OpR.pure rfl) (intE (Option.some.inj hx1))) rfl ?_
 refine TL.op1 (OpR.pure rfl) rfl ?_
 refine TL.nil ?_
 show T X _ _ _
 refine T.seq ?_
 refine T.seq ?_
 refine T.region ?_
 refine TL.op1 (OpR.pure rfl) rfl ?_
 refine TL.op1 (OpR.pure rfl) rfl ?_
 obtain ⟨x2, hx2, h0⟩ := bnd_some h0
 refine TL.op1 (OpR.call0 fn142 (utf_Bound_c hx2) rfl) rfl ?_
 refine TL.nil ?_
 show T X _ _ _
 rcases ite_some h0 with ⟨c3, h0⟩ | ⟨c3, h0⟩
 · refine T.condT rfl (c3) ?_
   refine T.seq ?_
   refine T.region ?_
   refine TL.op1 (OpR.pure rfl) rfl ?_
   refine TL.op1 (OpR.pure rfl) rfl ?_
   refine TL.nil ?_
   show T X _ _ _
   refine T.ret ?_
   obtain rfl := Option.some.inj h0
   exact PostG.retP (ks := []) (Gst.only [4] rfl) undef (ResL.cons (ResV.tmp rfl) ResL.nil) rfl rfl rfl rfl
 refine T.condF rfl (eq_false_of_ne_true c3) ?_
 refine T.skip ?_
 show T X _ _ _
 refine T.seq ?_
 refine T.region ?_
 refine TL.op1 (OpR.pure rfl) rfl ?_
 refine TL.op1 (OpR.pure rfl) rfl ?_
 obtain ⟨x4, hx4, h0⟩ := bnd_some h0
 refine TL.op1 (OpR.call0 fn132 (utf_Prev_c hx4) rfl) rfl ?_
 refine TL.op1 (OpR.pure rfl) rfl ?_
 refine TL.nil ?_
 show T X _ _ _
 refine T.ret ?_
 obtain rfl := Option.some.inj h0
 exact PostG.retP (ks := []) (Gst.only [4] rfl) undef (ResL.cons (ResV.tmp rfl) ResL.nil) rfl rfl rfl rfl
noncomputable def utf_head (a0 : Int) : Option utf_first :=
  if a0 = 0 then
    some (⟨0, 128⟩ : utf_first)
  else
    if a0 = 1 then
      some (⟨192, 32⟩ : utf_first)
    else
      if a0 = 2 then
        some (⟨224, 16⟩ : utf_first)
      else
        some (⟨240, 8⟩ : utf_first)
set_option maxHeartbeats 4000000 in
theorem utf_head_c {a0 : Int} {res : utf_first} (h0 : utf_head a0 = some res) : CallF X 172 [.val (.int .i64 a0)] [] (fun x => .agg [.val (.int .i64 res.fMark), .val (.int .i64 res.fRoom)]) (fun x => []) := by
 unfold utf_head at h0
 refine CallF.mkG (X := X) Try.func172 rfl rfl Try.ntmps172 rfl rfl ?_
 refine T.seq ?_
 refine T.region ?_
 refine TL.op (OpR.alloc rfl rfl (fun _ => rfl)) rfl (fun p1 => ?_)
 refine TL.nil ?_
 show T X _ _ _
 refine T.seq ?_
 refine T.seq ?_
 refine T.region ?_
 refine TL.op1 (OpR.pure rfl) rfl ?_
 refine TL.nil ?_
 show T X _ _ _
 refine T.block ?_
 refine T.seq ?_
 refine T.region ?_
 refine TL.op1 (OpR.pure rfl) rfl ?_
 refine TL.op1 (OpR.pure rfl) rfl ?_
 refine TL.nil ?_
 show T X _ _ _
 rcases ite_some h0 with ⟨c2, h0⟩ | ⟨c2, h0⟩
 · refine T.condT rfl (beq_iff_eq.2 c2) ?_
   refine T.seq ?_
   refine T.region ?_
   refine TL.op1 (OpR.build rfl rfl rfl rfl rfl) rfl ?_
   refine TL.op0 (OpR.store 0 rfl rfl rfl rfl rfl rfl rfl rfl) ?_
   refine TL.nil ?_
   show T X _ _ _
   refine T.ret ?_
   obtain rfl := Option.some.inj h0
   exact PostG.retP (ks := []) (Gst.only [2] rfl) undef (ResL.cons (ResV.var 0 rfl rfl rfl rfl) ResL.nil) rfl rfl rfl rfl
 refine T.condF rfl (beq_eq_false_iff_ne.2 c2) ?_
 refine T.seq ?_
 refine T.region ?_
 refine TL.op1 (OpR.pure rfl) rfl ?_
 refine TL.op1 (OpR.pure rfl) rfl ?_
 refine TL.nil ?_
 show T X _ _ _
 rcases ite_some h0 with ⟨c3, h0⟩ | ⟨c3, h0⟩
 · refine T.condT rfl (beq_iff_eq.2 c3) ?_
   refine T.seq ?_
   refine T.region ?_
   refine TL.op1 (OpR.build rfl rfl rfl rfl rfl) rfl ?_
   refine TL.op0 (OpR.store 0 rfl rfl rfl rfl rfl rfl rfl rfl) ?_
   refine TL.nil ?_
   show T X _ _ _
   refine T.ret ?_
   obtain rfl := Option.some.inj h0
   exact PostG.retP (ks := []) (Gst.only [2] rfl) undef (ResL.cons (ResV.var 0 rfl rfl rfl rfl) ResL.nil) rfl rfl rfl rfl
 refine T.condF rfl (beq_eq_false_iff_ne.2 c3) ?_
 refine T.seq ?_
 refine T.region ?_
 refine TL.op1 (OpR.pure rfl) rfl ?_
 refine TL.op1 (OpR.pure rfl) rfl ?_
 refine TL.nil ?_
 show T X _ _ _
 rcases ite_some h0 with ⟨c4, h0⟩ | ⟨c4, h0⟩
 · refine T.condT rfl (beq_iff_eq.2 c4) ?_
   refine T.seq ?_
   refine T.region ?_
   refine TL.op1 (OpR.build rfl rfl rfl rfl rfl) rfl ?_
   refine TL.op0 (OpR.store 0 rfl rfl rfl rfl rfl rfl rfl rfl) ?_
   refine TL.nil ?_
   show T X _ _ _
   refine T.ret ?_
   obtain rfl := Option.some.inj h0
   exact PostG.retP (ks := []) (Gst.only [2] rfl) undef (ResL.cons (ResV.var 0 rfl rfl rfl rfl) ResL.nil) rfl rfl rfl rfl
 refine T.condF rfl (beq_eq_false_iff_ne.2 c4) ?_
 refine T.skip ?_
 show T X _ _ _
 refine T.seq ?_
 refine T.region ?_
 refine TL.op1 (OpR.build rfl rfl rfl rfl rfl) rfl ?_
 refine TL.op0 (OpR.store 0 rfl rfl rfl rfl rfl rfl rfl rfl) ?_
 refine TL.nil ?_
 show T X _ _ _
 refine T.ret ?_
 obtain rfl := Option.some.inj h0
 exact PostG.retP (ks := []) (Gst.only [2] rfl) undef (ResL.cons (ResV.var 0 rfl rfl rfl rfl) ResL.nil) rfl rfl rfl rfl
noncomputable def utf_Put.l1 (s5 : Int × Int × UInt8 × UInt8 × UInt8 × UInt8) : Option (Lp (Int × Int × UInt8 × UInt8 × UInt8 × UInt8) (Int × Int × UInt8 × UInt8 × UInt8 × UInt8)) :=
  bnd (utf_head (w64 (3 - s5.2.1))) fun x13 =>
  if s5.1 ≥ x13.fRoom then
    bnd (idx ([s5.2.2.1, s5.2.2.2.1, s5.2.2.2.2.1, s5.2.2.2.2.2] : List UInt8) s5.2.1) fun x15 =>
    some (Lp.next (ishr .i64 s5.1 6, w64 (s5.2.1 - 1), (if s5.2.1 = 0 then (ub (w64 (ior .i64 128 (w64 (iand .i64 s5.1 63))))) else s5.2.2.1), (if s5.2.1 - 1 = 0 then (ub (w64 (ior .i64 128 (w64 (iand .i64 s5.1 63))))) else s5.2.2.2.1), (if s5.2.1 - 1 - 1 = 0 then (ub (w64 (ior .i64 128 (w64 (iand .i64 s5.1 63))))) else s5.2.2.2.2.1), (if s5.2.1 - 1 - 1 - 1 = 0 then (ub (w64 (ior .i64 128 (w64 (iand .i64 s5.1 63))))) else s5.2.2.2.2.2)))
  else
    some (Lp.done (s5.1, s5.2.1, s5.2.2.1, s5.2.2.2.1, s5.2.2.2.2.1, s5.2.2.2.2.2))
noncomputable def utf_Put (a0 : Int) : Option (List UInt8) :=
  bnd (utf_scalar a0) fun x1 =>
  if x1 = true then
    bnd (loop utf_Put.l1 (a0, 3, 0, 0, 0, 0) : Option (Int × Int × UInt8 × UInt8 × UInt8 × UInt8)) fun t4 =>
    bnd (utf_head (w64 (3 - t4.2.1))) fun x16 =>
    bnd (idx ([t4.2.2.1, t4.2.2.2.1, t4.2.2.2.2.1, t4.2.2.2.2.2] : List UInt8) t4.2.1) fun x17 =>
    bnd (cut ([(if t4.2.1 = 0 then (ub (w64 (ior .i64 t4.1 x16.fMark))) else t4.2.2.1), (if t4.2.1 - 1 = 0 then (ub (w64 (ior .i64 t4.1 x16.fMark))) else t4.2.2.2.1), (if t4.2.1 - 1 - 1 = 0 then (ub (w64 (ior .i64 t4.1 x16.fMark))) else t4.2.2.2.2.1), (if t4.2.1 - 1 - 1 - 1 = 0 then (ub (w64 (ior .i64 t4.1 x16.fMark))) else t4.2.2.2.2.2)] : List UInt8) t4.2.1 4) fun x18 =>
    some x18
  else
    some []
set_option maxHeartbeats 4000000 in
theorem utf_Put_c {a0 : Int} {res : (List UInt8)} (h0 : utf_Put a0 = some res) : CallF X 130 [.val (.int .i64 a0)] [] (fun x => .sl 1 (List.map byteD res)) (fun x => []) := by
 unfold utf_Put at h0
 refine CallF.mkG (X := X) Try.func130 rfl rfl Try.ntmps130 rfl rfl ?_
 refine T.seq ?_
 refine T.region ?_
 refine TL.op1 (OpR.pure rfl) rfl ?_
 refine TL.nil ?_
 show T X _ _ _
 refine T.seq ?_
 refine T.seq ?_
 refine T.region ?_
 refine TL.op1 (OpR.pure rfl) rfl ?_
 obtain ⟨x1, hx1, h0⟩ := bnd_some h0
 refine TL.op1 (OpR.call0 fn171 (utf_scalar_c hx1) rfl) rfl ?_
 refine TL.op1 (OpR.pure rfl) rfl ?_
 refine TL.nil ?_
 show T X _ _ _
 rcases ite_some h0 with ⟨c2, h0⟩ | ⟨c2, h0⟩
 rotate_left
 · refine T.condT rfl (not_f (eq_false_of_ne_true c2)) ?_
   refine T.seq ?_
   refine T.region ?_
   refine TL.op1 (OpR.pure rfl) rfl ?_
   refine TL.nil ?_
   show T X _ _ _
   refine T.ret ?_
   obtain rfl := Option.some.inj h0
   exact PostG.retP (ks := []) (Gst.trans (Gst.only [2] rfl) (Gst.denil (ReS.cons (Re.base .nil) ReS.nil) ReO.nil)) undef (ResL.cons (ResV.tmp rfl) ResL.nil) rfl rfl rfl rfl
 refine T.condF rfl (not_t (c2)) ?_
 refine T.skip ?_
 show T X _ _ _
 refine T.seq ?_
 refine T.region ?_
 refine TL.op (OpR.alloc rfl rfl (fun _ => rfl)) rfl (fun p3 => ?_)
 refine TL.nil ?_
 show T X _ _ _
 refine T.seq ?_
 refine T.region ?_
 refine TL.op1 (OpR.pure rfl) rfl ?_
 refine TL.nil ?_
 show T X _ _ _
 refine T.seq ?_
 obtain ⟨t4, ht4, h0⟩ := bnd_some h0
 refine T.cutC (fun S' => S' = ⟨[(4, .val (.int .i64 t4.2.1)), (3, .val (.pointer (some ⟨(blk p3), 0, none⟩))), (2, .val (.slice none 0 0)), (0, .val (.int .i64 t4.1))], [.var (blk p3) [.val (.int .u8 (t4.2.2.1.toNat : Int)), .val (.int .u8 (t4.2.2.2.1.toNat : Int)), .val (.int .u8 (t4.2.2.2.2.1.toNat : Int)), .val (.int .u8 (t4.2.2.2.2.2.toNat : Int))] 252], 35⟩) (fun _ h => h) ?_ ?_
 rotate_left
 · rintro _ rfl
   show T X _ _ _
   refine T.seq ?_
   refine T.region ?_
   refine TL.op1 (OpR.pure rfl) rfl ?_
   refine TL.op1 (OpR.pure rfl) rfl ?_
   refine TL.op1 (OpR.pure rfl) rfl ?_
   refine TL.op1 (OpR.pure rfl) rfl ?_
   obtain ⟨x16, hx16, h0⟩ := bnd_some h0
   refine TL.op1 (OpR.call0 fn172 (utf_head_c hx16) rfl) rfl ?_
   refine TL.op1 (OpR.pure rfl) rfl ?_
   refine TL.op1 (OpR.pure rfl) rfl ?_
   refine TL.op1 (OpR.cast (OpR.pure rfl) (intE (ub_wrap _))) rfl ?_
   obtain ⟨x17, hx17, h0⟩ := bnd_some h0
   refine TL.op1 (OpR.indexVarM (l := ([t4.2.2.1, t4.2.2.2.1, t4.2.2.2.2.1, t4.2.2.2.2.2] : List UInt8)) hx17 rfl rfl rfl rfl rfl rfl rfl) rfl ?_
   refine TL.op0 (OpR.arrStoreM (off := 0) (j := t4.2.1) (a' := (ub (w64 (ior .i64 t4.1 x16.fMark)))) (l := ([t4.2.2.1, t4.2.2.2.1, t4.2.2.2.2.1, t4.2.2.2.2.2] : List UInt8)) (pre := []) (rest := []) byteD 0 hx17 rfl rfl rfl rfl rfl (fun _ => rfl) rfl rfl rfl rfl) ?_
   refine TL.nil ?_
   show T X _ _ _
   refine T.seq ?_
   refine T.region ?_
   refine TL.op1 (OpR.pure rfl) rfl ?_
   obtain ⟨x18, hx18, h0⟩ := bnd_some h0
   refine TL.op1 (OpR.sliceArrM (n := 4) (l := ([(if t4.2.1 = 0 then (ub (w64 (ior .i64 t4.1 x16.fMark))) else t4.2.2.1), (if t4.2.1 - 1 = 0 then (ub (w64 (ior .i64 t4.1 x16.fMark))) else t4.2.2.2.1), (if t4.2.1 - 1 - 1 = 0 then (ub (w64 (ior .i64 t4.1 x16.fMark))) else t4.2.2.2.2.1), (if t4.2.1 - 1 - 1 - 1 = 0 then (ub (w64 (ior .i64 t4.1 x16.fMark))) else t4.2.2.2.2.2)] : List UInt8)) byteD 0 hx18 rfl rfl rfl rfl rfl rfl rfl rfl (fun _ => rfl) rfl rfl rfl rfl) rfl ?_
   refine TL.op1 (OpR.pure rfl) rfl ?_
   refine TL.nil ?_
   show T X _ _ _
   refine T.ret ?_
   obtain rfl := Option.some.inj h0
   exact PostG.retP (ks := []) (Gst.trans (Gst.only [2] rfl) (Gst.pick [] rfl rfl)) undef (ResL.cons (ResV.tmp rfl) ResL.nil) rfl rfl rfl rfl
 refine T.block ?_
 obtain ⟨n6, n11⟩ := loop_some ht4
 refine T.loop (fun n S' => ∃ S'', Gst S' S'' ∧ ∃ s5 : Int × Int × UInt8 × UInt8 × UInt8 × UInt8, S'' = ⟨[(4, .val (.int .i64 s5.2.1)), (3, .val (.pointer (some ⟨(blk p3), 0, none⟩))), (2, .val (.slice none 0 0)), (0, .val (.int .i64 s5.1))], [.var (blk p3) [.val (.int .u8 (s5.2.2.1.toNat : Int)), .val (.int .u8 (s5.2.2.2.1.toNat : Int)), .val (.int .u8 (s5.2.2.2.2.1.toNat : Int)), .val (.int .u8 (s5.2.2.2.2.2.toNat : Int))] 252], 35⟩ ∧ iter utf_Put.l1 n s5 = some t4) n6 ?_ ?_
 · exact ⟨_, Gst.only [0, 2, 3, 4] rfl, (a0, 3, 0, 0, 0, 0), rfl, n11⟩
 rintro n6 _ ⟨_, g, s5, rfl, i10⟩
 refine T.ghost g ?_
 obtain ⟨m7, q8, rfl, q9, i10⟩ := iter_succ i10
 unfold utf_Put.l1 at q9
 refine T.seq ?_
 refine T.seq ?_
 refine T.region ?_
 refine TL.op1 (OpR.pure rfl) rfl ?_
 refine TL.op1 (OpR.pure rfl) rfl ?_
 refine TL.op1 (OpR.pure rfl) rfl ?_
 obtain ⟨x13, hx13, q9⟩ := bnd_some q9
 refine TL.op1 (OpR.call0 fn172 (utf_head_c hx13) rfl) rfl ?_
 refine TL.op1 (OpR.pure rfl) rfl ?_
 refine TL.op1 (OpR.pure rfl) rfl ?_
 refine TL.nil ?_
 show T X _ _ _
 rcases ite_some q9 with ⟨c14, q9⟩ | ⟨c14, q9⟩
 rotate_left
 · refine T.condF rfl (decide_eq_false c14) ?_
   refine T.exit ?_
   obtain rfl := Option.some.inj q9
   obtain rfl : _ = _ := i10
   exact ⟨_, Gst.only [0, 2, 3, 4] rfl, rfl⟩
 refine T.condT rfl (decide_eq_true c14) ?_
 refine T.skip ?_
 show T X _ _ _
 refine T.seq ?_
 refine T.block ?_
 refine T.seq ?_
 refine T.region ?_
 refine TL.op1 (OpR.pure rfl) rfl ?_
 refine TL.op1 (OpR.pure rfl) rfl ?_
 refine TL.op1 (OpR.pure rfl) rfl ?_
 refine TL.op1 (OpR.pure rfl) rfl ?_
 refine TL.op1 (OpR.cast (OpR.pure rfl) (intE (ub_wrap _))) rfl ?_
 obtain ⟨x15, hx15, q9⟩ := bnd_some q9
 refine TL.op1 (OpR.indexVarM (l := ([s5.2.2.1, s5.2.2.2.1, s5.2.2.2.2.1, s5.2.2.2.2.2] : List UInt8)) hx15 rfl rfl rfl rfl rfl rfl rfl) rfl ?_
 refine TL.op0 (OpR.arrStoreM (off := 0) (j := s5.2.1) (a' := (ub (w64 (ior .i64 128 (w64 (iand .i64 s5.1 63)))))) (l := ([s5.2.2.1, s5.2.2.2.1, s5.2.2.2.2.1, s5.2.2.2.2.2] : List UInt8)) (pre := []) (rest := []) byteD 0 hx15 rfl rfl rfl rfl rfl (fun _ => rfl) rfl rfl rfl rfl) ?_
 refine TL.nil ?_
 show T X _ _ _
 refine T.region ?_
 refine TL.op1 (OpR.pure rfl) rfl ?_
 refine TL.op1 (OpR.pure rfl) rfl ?_
 refine TL.op1 (OpR.pure rfl) rfl ?_
 refine TL.nil ?_
 show T X _ _ _
 refine T.region ?_
 refine TL.op1 (OpR.pure rfl) rfl ?_
 refine TL.op1 (OpR.pure rfl) rfl ?_
 refine TL.op1 (OpR.pure rfl) rfl ?_
 refine TL.nil ?_
 obtain rfl := Option.some.inj q9
 exact ⟨m7, Nat.lt_succ_self _, _, Gst.only [0, 2, 3, 4] rfl, (ishr .i64 s5.1 6, w64 (s5.2.1 - 1), (if s5.2.1 = 0 then (ub (w64 (ior .i64 128 (w64 (iand .i64 s5.1 63))))) else s5.2.2.1), (if s5.2.1 - 1 = 0 then (ub (w64 (ior .i64 128 (w64 (iand .i64 s5.1 63))))) else s5.2.2.2.1), (if s5.2.1 - 1 - 1 = 0 then (ub (w64 (ior .i64 128 (w64 (iand .i64 s5.1 63))))) else s5.2.2.2.2.1), (if s5.2.1 - 1 - 1 - 1 = 0 then (ub (w64 (ior .i64 128 (w64 (iand .i64 s5.1 63))))) else s5.2.2.2.2.2)), rfl, i10⟩
noncomputable def keys_Types (a0 : Int) : Option Bool :=
  bnd (if a0 ≥ 32 then
    if a0 = 127 then
      some false
    else
      bnd (utf_Put a0) fun x4 =>
      some (decide ((x4.length : Int) > 0))
  else
    some false : Option Bool) fun t1 =>
  some t1
set_option maxHeartbeats 4000000 in
theorem keys_Types_c {a0 : Int} {res : Bool} (h0 : keys_Types a0 = some res) : CallF X 129 [.val (.int .i64 a0)] [] (fun x => .val (.bool res)) (fun x => []) := by
 unfold keys_Types at h0
 refine CallF.mkG (X := X) Try.func129 rfl rfl Try.ntmps129 rfl rfl ?_
 refine T.seq ?_
 refine T.region ?_
 refine TL.op1 (OpR.pure rfl) rfl ?_
 refine TL.nil ?_
 show T X _ _ _
 refine T.seq ?_
 obtain ⟨t1, ht1, h0⟩ := bnd_some h0
 refine T.cutC (fun S' => S' = ⟨[(2, .val (.bool t1))], [], 15⟩) (fun _ h => h) ?_ ?_
 rotate_left
 · rintro _ rfl
   show T X _ _ _
   refine T.ret ?_
   obtain rfl := Option.some.inj h0
   exact PostG.retP (ks := []) (Gst.only [2] rfl) undef (ResL.cons (ResV.tmp rfl) ResL.nil) rfl rfl rfl rfl
 refine T.region ?_
 refine TL.op1 (OpR.pure rfl) rfl ?_
 refine TL.op1 (OpR.pure rfl) rfl ?_
 refine TL.op1 (OpR.pure rfl) rfl ?_
 rcases ite_some ht1 with ⟨c2, ht1⟩ | ⟨c2, ht1⟩
 rotate_left
 · refine TL.off rfl rfl rfl rfl (decide_eq_false c2) rfl rfl ?_
   refine TL.off rfl rfl rfl rfl (decide_eq_false c2) rfl rfl ?_
   refine TL.op1 (OpR.pickF rfl (decide_eq_false c2) rfl) rfl ?_
   refine TL.op1 (OpR.pure rfl) rfl ?_
   refine TL.off rfl rfl rfl rfl rfl rfl rfl ?_
   refine TL.off rfl rfl rfl rfl rfl rfl rfl ?_
   refine TL.off rfl rfl rfl rfl rfl rfl rfl ?_
   refine TL.off rfl rfl rfl rfl rfl rfl rfl ?_
   refine TL.op1 (OpR.pickF rfl rfl rfl) rfl ?_
   refine TL.op1 (OpR.pure rfl) rfl ?_
   refine TL.nil ?_
   obtain rfl := Option.some.inj ht1
   exact ⟨_, Gst.only [2] rfl, rfl⟩
 refine TL.on rfl rfl rfl rfl (decide_eq_true c2) ?_
 refine TL.op1 (OpR.pure rfl) rfl ?_
 refine TL.on rfl rfl rfl rfl (decide_eq_true c2) ?_
 refine TL.op1 (OpR.pure rfl) rfl ?_
 refine TL.op1 (OpR.pickT rfl (decide_eq_true c2) rfl) rfl ?_
 refine TL.op1 (OpR.pure rfl) rfl ?_
 rcases ite_some ht1 with ⟨c3, ht1⟩ | ⟨c3, ht1⟩
 · refine TL.off rfl rfl rfl rfl (not_t (beq_iff_eq.2 c3)) rfl rfl ?_
   refine TL.off rfl rfl rfl rfl (not_t (beq_iff_eq.2 c3)) rfl rfl ?_
   refine TL.off rfl rfl rfl rfl (not_t (beq_iff_eq.2 c3)) rfl rfl ?_
   refine TL.off rfl rfl rfl rfl (not_t (beq_iff_eq.2 c3)) rfl rfl ?_
   refine TL.op1 (OpR.pickF rfl (not_t (beq_iff_eq.2 c3)) rfl) rfl ?_
   refine TL.op1 (OpR.pure rfl) rfl ?_
   refine TL.nil ?_
   obtain rfl := Option.some.inj ht1
   exact ⟨_, Gst.only [2] rfl, rfl⟩
 refine TL.on rfl rfl rfl rfl (not_f (beq_eq_false_iff_ne.2 c3)) ?_
 refine TL.op1 (OpR.pure rfl) rfl ?_
 refine TL.on rfl rfl rfl rfl (not_f (beq_eq_false_iff_ne.2 c3)) ?_
 obtain ⟨x4, hx4, ht1⟩ := bnd_some ht1
 refine TL.op1 (OpR.call0 fn130 (utf_Put_c hx4) rfl) rfl ?_
 refine TL.on rfl rfl rfl rfl (not_f (beq_eq_false_iff_ne.2 c3)) ?_
 refine TL.op1 (OpR.cast (OpR.pure rfl) (intE (lenM _ _))) rfl ?_
 refine TL.on rfl rfl rfl rfl (not_f (beq_eq_false_iff_ne.2 c3)) ?_
 refine TL.op1 (OpR.pure rfl) rfl ?_
 refine TL.op1 (OpR.pickT rfl (not_f (beq_eq_false_iff_ne.2 c3)) rfl) rfl ?_
 refine TL.op1 (OpR.pure rfl) rfl ?_
 refine TL.nil ?_
 obtain rfl := Option.some.inj ht1
 exact ⟨_, Gst.only [2] rfl, rfl⟩
noncomputable def line_gone (a0 : Int) (a1 : Int) : Option line_Edit :=
  some (⟨a0, a1, [], a0⟩ : line_Edit)
set_option maxHeartbeats 4000000 in
theorem line_gone_c {a0 : Int} {a1 : Int} {res : line_Edit} (h0 : line_gone a0 a1 = some res) : CallF X 131 [.val (.int .i64 a0), .val (.int .i64 a1)] [] (fun x => .agg [.val (.int .i64 res.fFrom), .val (.int .i64 res.fTo), .val (.string (bs res.fIn)), .val (.int .i64 res.fAt)]) (fun x => []) := by
 unfold line_gone at h0
 refine CallF.mkG (X := X) Try.func131 rfl rfl Try.ntmps131 rfl rfl ?_
 refine T.seq ?_
 refine T.region ?_
 refine TL.op (OpR.alloc rfl rfl (fun _ => rfl)) rfl (fun p1 => ?_)
 refine TL.nil ?_
 show T X _ _ _
 refine T.seq ?_
 refine T.region ?_
 refine TL.op1 (OpR.pure rfl) rfl ?_
 refine TL.op1 (OpR.pure rfl) rfl ?_
 refine TL.op1 (OpR.pure rfl) rfl ?_
 refine TL.op1 (OpR.build rfl rfl rfl rfl rfl) rfl ?_
 refine TL.op0 (OpR.store 0 rfl rfl rfl rfl rfl rfl rfl rfl) ?_
 refine TL.nil ?_
 show T X _ _ _
 refine T.ret ?_
 obtain rfl := Option.some.inj h0
 exact PostG.retP (ks := []) (Gst.only [4] rfl) undef (ResL.cons (ResV.var 0 rfl rfl rfl rfl) ResL.nil) rfl rfl rfl rfl
noncomputable def utf_Next.l1 (a0 : List UInt8) (s4 : Int) : Option (Lp Int (Ex Unit Int)) :=
  if s4 < (a0.length : Int) then
    bnd (utf_Bound a0 (w64 (s4 + 1))) fun x13 =>
    if x13 = true then
      some (Lp.done (Ex.ret (w64 (s4 + 1))))
    else
      some (Lp.next (w64 (s4 + 1)))
  else
    some (Lp.done (Ex.brk ()))
noncomputable def utf_Next (a0 : List UInt8) (a1 : Int) : Option Int :=
  if a1 < 0 then
    some 0
  else
    bnd (loop (utf_Next.l1 a0) a1 : Option (Ex Unit Int)) fun t2 => match t2 with
      | .brk u3 =>
        some (a0.length : Int)
      | .ret u3 => some u3
set_option maxHeartbeats 4000000 in
theorem utf_Next_c {a0 : List UInt8} {a1 : Int} {res : Int} (h0 : utf_Next a0 a1 = some res) : CallF X 133 [.sl 1 (List.map byteD a0), .val (.int .i64 a1)] [] (fun x => .val (.int .i64 res)) (fun x => []) := by
 unfold utf_Next at h0
 refine CallF.mkG (X := X) Try.func133 rfl rfl Try.ntmps133 rfl rfl ?_
 refine T.seq ?_
 refine T.region ?_
 refine TL.op1 (OpR.pure rfl) rfl ?_
 refine TL.nil ?_
 show T X _ _ _
 refine T.seq ?_
 refine T.seq ?_
 refine T.region ?_
 refine TL.op1 (OpR.pure rfl) rfl ?_
 refine TL.op1 (OpR.pure rfl) rfl ?_
 refine TL.nil ?_
 show T X _ _ _
 rcases ite_some h0 with ⟨c1, h0⟩ | ⟨c1, h0⟩
 · refine T.condT rfl (decide_eq_true c1) ?_
   refine T.seq ?_
   refine T.region ?_
   refine TL.op1 (OpR.pure rfl) rfl ?_
   refine TL.nil ?_
   show T X _ _ _
   refine T.ret ?_
   obtain rfl := Option.some.inj h0
   exact PostG.retP (ks := []) (Gst.only [4] rfl) undef (ResL.cons (ResV.tmp rfl) ResL.nil) rfl rfl rfl rfl
 refine T.condF rfl (decide_eq_false c1) ?_
 refine T.skip ?_
 show T X _ _ _
 refine T.seq ?_
 obtain ⟨t2, ht2, h0⟩ := bnd_some h0
 refine T.cutC (fun S' => ∃ u3, t2 = Ex.brk u3 ∧ S' = ⟨[(4, .val (.int .i64 0)), (0, .sl 1 (List.map byteD a0))], [], 19⟩) (fun _ h => h) ?_ ?_
 rotate_left
 · rintro _ ⟨u3, rfl, rfl⟩
   show T X _ _ _
   refine T.seq ?_
   refine T.region ?_
   refine TL.op1 (OpR.pure rfl) rfl ?_
   refine TL.op1 (OpR.cast (OpR.pure rfl) (intE (lenM _ _))) rfl ?_
   refine TL.op1 (OpR.pure rfl) rfl ?_
   refine TL.nil ?_
   show T X _ _ _
   refine T.ret ?_
   obtain rfl := Option.some.inj h0
   exact PostG.retP (ks := []) (Gst.only [4] rfl) undef (ResL.cons (ResV.tmp rfl) ResL.nil) rfl rfl rfl rfl
 refine T.block ?_
 obtain ⟨n5, n10⟩ := loop_some ht2
 refine T.loop (fun n S' => ∃ S'', Gst S' S'' ∧ ∃ s4 : Int, S'' = ⟨[(4, .val (.int .i64 0)), (1, .val (.int .i64 s4)), (0, .sl 1 (List.map byteD a0))], [], 19⟩ ∧ iter (utf_Next.l1 a0) n s4 = some t2) n5 ?_ ?_
 · exact ⟨_, Gst.only [0, 1, 4] rfl, a1, rfl, n10⟩
 rintro n5 _ ⟨_, g, s4, rfl, i9⟩
 refine T.ghost g ?_
 obtain ⟨m6, q7, rfl, q8, i9⟩ := iter_succ i9
 unfold utf_Next.l1 at q8
 refine T.seq ?_
 refine T.seq ?_
 refine T.region ?_
 refine TL.op1 (OpR.pure rfl) rfl ?_
 refine TL.op1 (OpR.pure rfl) rfl ?_
 refine TL.op1 (OpR.cast (OpR.pure rfl) (intE (lenM _ _))) rfl ?_
 refine TL.op1 (OpR.pure rfl) rfl ?_
 refine TL.nil ?_
 show T X _ _ _
 rcases ite_some q8 with ⟨c12, q8⟩ | ⟨c12, q8⟩
 rotate_left
 · refine T.condF rfl (decide_eq_false c12) ?_
   refine T.exit ?_
   obtain rfl := Option.some.inj q8
   obtain rfl : _ = _ := i9
   exact ⟨_, Gst.only [0, 4] rfl, _, rfl, rfl⟩
 refine T.condT rfl (decide_eq_true c12) ?_
 refine T.skip ?_
 show T X _ _ _
 refine T.block ?_
 refine T.seq ?_
 refine T.region ?_
 refine TL.op1 (OpR.pure rfl) rfl ?_
 refine TL.op1 (OpR.pure rfl) rfl ?_
 refine TL.op1 (OpR.pure rfl) rfl ?_
 refine TL.nil ?_
 show T X _ _ _
 refine T.seq ?_
 refine T.region ?_
 refine TL.op1 (OpR.pure rfl) rfl ?_
 refine TL.op1 (OpR.pure rfl) rfl ?_
 obtain ⟨x13, hx13, q8⟩ := bnd_some q8
 refine TL.op1 (OpR.call0 fn142 (utf_Bound_c hx13) rfl) rfl ?_
 refine TL.nil ?_
 show T X _ _ _
 rcases ite_some q8 with ⟨c14, q8⟩ | ⟨c14, q8⟩
 rotate_left
 · refine T.condF rfl (eq_false_of_ne_true c14) ?_
   refine T.skip ?_
   obtain rfl := Option.some.inj q8
   exact ⟨m6, Nat.lt_succ_self _, _, Gst.only [0, 1, 4] rfl, w64 (s4 + 1), rfl, i9⟩
 refine T.condT rfl (c14) ?_
 refine T.seq ?_
 refine T.region ?_
 refine TL.op1 (OpR.pure rfl) rfl ?_
 refine TL.op1 (OpR.pure rfl) rfl ?_
 refine TL.nil ?_
 show T X _ _ _
 refine T.ret ?_
 obtain rfl := Option.some.inj q8
 obtain rfl : _ = _ := i9
 obtain rfl := Option.some.inj h0
 exact PostG.retP (ks := []) (Gst.only [4] rfl) undef (ResL.cons (ResV.tmp rfl) ResL.nil) rfl rfl rfl rfl
noncomputable def keys_Ctrl (a0 : UInt8) : Option Int :=
  bnd (if (a0.toNat : Int) < 97 then
    some true
  else
    some (decide ((a0.toNat : Int) > 122)) : Option Bool) fun t1 =>
  if t1 = true then
    some 0
  else
    some (w64 (((ub ((a0.toNat : Int) - 97)).toNat : Int) + 1))
set_option maxHeartbeats 4000000 in
theorem keys_Ctrl_c {a0 : UInt8} {res : Int} (h0 : keys_Ctrl a0 = some res) : CallF X 134 [.val (.int .u8 (a0.toNat : Int))] [] (fun x => .val (.int .i64 res)) (fun x => []) := by
 unfold keys_Ctrl at h0
 refine CallF.mkG (X := X) Try.func134 rfl rfl Try.ntmps134 rfl rfl ?_
 refine T.seq ?_
 refine T.region ?_
 refine TL.op1 (OpR.pure rfl) rfl ?_
 refine TL.nil ?_
 show T X _ _ _
 refine T.seq ?_
 refine T.seq ?_
 obtain ⟨t1, ht1, h0⟩ := bnd_some h0
 refine T.cutC (fun S' => S' = ⟨[(8, .val (.bool t1)), (2, .val (.int .i64 0)), (0, .val (.int .u8 (a0.toNat : Int)))], [], 13⟩) (fun _ h => h) ?_ ?_
 · refine T.region ?_
   refine TL.op1 (OpR.pure rfl) rfl ?_
   refine TL.op1 (OpR.pure rfl) rfl ?_
   refine TL.op1 (OpR.pure rfl) rfl ?_
   rcases ite_some ht1 with ⟨c2, ht1⟩ | ⟨c2, ht1⟩
   · refine TL.off rfl rfl rfl rfl (decide_eq_true c2) rfl rfl ?_
     refine TL.off rfl rfl rfl rfl (decide_eq_true c2) rfl rfl ?_
     refine TL.op1 (OpR.pickT rfl (decide_eq_true c2) rfl) rfl ?_
     refine TL.nil ?_
     obtain rfl := Option.some.inj ht1
     exact ⟨_, Gst.only [0, 2, 8] rfl, rfl⟩
   refine TL.on rfl rfl rfl rfl (decide_eq_false c2) ?_
   refine TL.op1 (OpR.pure rfl) rfl ?_
   refine TL.on rfl rfl rfl rfl (decide_eq_false c2) ?_
   refine TL.op1 (OpR.pure rfl) rfl ?_
   refine TL.op1 (OpR.pickF rfl (decide_eq_false c2) rfl) rfl ?_
   refine TL.nil ?_
   obtain rfl := Option.some.inj ht1
   exact ⟨_, Gst.only [0, 2, 8] rfl, rfl⟩
 rintro _ rfl
 show T X _ _ _
 rcases ite_some h0 with ⟨c3, h0⟩ | ⟨c3, h0⟩
 · refine T.condT rfl (c3) ?_
   refine T.seq ?_
   refine T.region ?_
   refine TL.op1 (OpR.pure rfl) rfl ?_
   refine TL.nil ?_
   show T X _ _ _
   refine T.ret ?_
   obtain rfl := Option.some.inj h0
   exact PostG.retP (ks := []) (Gst.only [2] rfl) undef (ResL.cons (ResV.tmp rfl) ResL.nil) rfl rfl rfl rfl
 refine T.condF rfl (eq_false_of_ne_true c3) ?_
 refine T.skip ?_
 show T X _ _ _
 refine T.seq ?_
 refine T.region ?_
 refine TL.op1 (OpR.pure rfl) rfl ?_
 refine TL.op1 (OpR.cast (OpR.pure rfl) (intE (ub_wrap _))) rfl ?_
 refine TL.op1 (OpR.cast (OpR.pure rfl) (intE (w64_u8 _))) rfl ?_
 refine TL.op1 (OpR.pure rfl) rfl ?_
 refine TL.op1 (OpR.pure rfl) rfl ?_
 refine TL.nil ?_
 show T X _ _ _
 refine T.ret ?_
 obtain rfl := Option.some.inj h0
 exact PostG.retP (ks := []) (Gst.only [2] rfl) undef (ResL.cons (ResV.tmp rfl) ResL.nil) rfl rfl rfl rfl
noncomputable def utf_Rune (a0 : List UInt8) (a1 : Int) : Option Int :=
  bnd (utf_within a0 a1) fun x1 =>
  if x1 = true then
    bnd (cut a0 a1 (a0.length : Int)) fun x3 =>
    bnd (utf_decode x3) fun x4 =>
    some x4.1
  else
    some (-1)
set_option maxHeartbeats 4000000 in
theorem utf_Rune_c {a0 : List UInt8} {a1 : Int} {res : Int} (h0 : utf_Rune a0 a1 = some res) : CallF X 175 [.sl 1 (List.map byteD a0), .val (.int .i64 a1)] [] (fun x => .val (.int .i64 res)) (fun x => []) := by
 unfold utf_Rune at h0
 refine CallF.mkG (X := X) Try.func175 rfl rfl Try.ntmps175 rfl rfl ?_
 refine T.seq ?_
 refine T.region ?_
 refine TL.op1 (OpR.pure rfl) rfl ?_
 refine TL.nil ?_
 show T X _ _ _
 refine T.seq ?_
 refine T.seq ?_
 refine T.region ?_
 refine TL.op1 (OpR.pure rfl) rfl ?_
 refine TL.op1 (OpR.pure rfl) rfl ?_
 obtain ⟨x1, hx1, h0⟩ := bnd_some h0
 refine TL.op1 (OpR.call0 fn205 (utf_within_c hx1) rfl) rfl ?_
 refine TL.op1 (OpR.pure rfl) rfl ?_
 refine TL.nil ?_
 show T X _ _ _
 rcases ite_some h0 with ⟨c2, h0⟩ | ⟨c2, h0⟩
 rotate_left
 · refine T.condT rfl (not_f (eq_false_of_ne_true c2)) ?_
   refine T.seq ?_
   refine T.region ?_
   refine TL.op1 (OpR.pure rfl) rfl ?_
   refine TL.nil ?_
   show T X _ _ _
   refine T.ret ?_
   obtain rfl := Option.some.inj h0
   exact PostG.retP (ks := []) (Gst.only [4] rfl) undef (ResL.cons (ResV.tmp rfl) ResL.nil) rfl rfl rfl rfl
 refine T.condF rfl (not_t (c2)) ?_
 refine T.skip ?_
 show T X _ _ _
 refine T.seq ?_
 refine T.region ?_
 refine TL.op1 (OpR.pure rfl) rfl ?_
 refine TL.op1 (OpR.pure rfl) rfl ?_
 obtain ⟨x3, hx3, h0⟩ := bnd_some h0
 refine TL.op1 (OpR.sliceM (sz := 1) byteD hx3 rfl rfl rfl rfl (BdM.some rfl) BdM.none rfl) rfl ?_
 obtain ⟨x4, hx4, h0⟩ := bnd_some h0
 refine TL.op1 (OpR.call0 fn206 (utf_decode_c hx4) rfl) rfl ?_
 refine TL.op1 (OpR.pure rfl) rfl ?_
 refine TL.op1 (OpR.pure rfl) rfl ?_
 refine TL.op1 (OpR.pure rfl) rfl ?_
 refine TL.op1 (OpR.pure rfl) rfl ?_
 refine TL.op1 (OpR.pure rfl) rfl ?_
 refine TL.nil ?_
 show T X _ _ _
 refine T.seq ?_
 refine T.region ?_
 refine TL.op1 (OpR.pure rfl) rfl ?_
 refine TL.op1 (OpR.pure rfl) rfl ?_
 refine TL.nil ?_
 show T X _ _ _
 refine T.ret ?_
 obtain rfl := Option.some.inj h0
 exact PostG.retP (ks := []) (Gst.only [4] rfl) undef (ResL.cons (ResV.tmp rfl) ResL.nil) rfl rfl rfl rfl
noncomputable def utf_Class (a0 : Int) : Option Int :=
  bnd (if a0 = 32 then
    some (a0 == 32)
  else
    if a0 ≥ 9 then
      some (decide (a0 ≤ 13))
    else
      some false : Option Bool) fun t1 =>
  if t1 = true then
    some 0
  else
    bnd (if a0 > 127 then
      some (decide (a0 > 127))
    else
      if a0 = 95 then
        some (a0 == 95)
      else
        if a0 ≥ 48 then
          some (decide (a0 ≤ 57))
        else
          some false : Option Bool) fun t5 =>
    if t5 = true then
      some 1
    else
      bnd (if a0 ≥ 97 then
        some (decide (a0 ≤ 122))
      else
        some false : Option Bool) fun t10 =>
      bnd (if t10 = true then
        some t10
      else
        if a0 ≥ 65 then
          some (decide (a0 ≤ 90))
        else
          some false : Option Bool) fun t12 =>
      if t12 = true then
        some 1
      else
        some 2
set_option maxHeartbeats 4000000 in
theorem utf_Class_c {a0 : Int} {res : Int} (h0 : utf_Class a0 = some res) : CallF X 174 [.val (.int .i64 a0)] [] (fun x => .val (.int .i64 res)) (fun x => []) := by
 unfold utf_Class at h0
 refine CallF.mkG (X := X) Try.func174 rfl rfl Try.ntmps174 rfl rfl ?_
 refine T.seq ?_
 refine T.region ?_
 refine TL.op1 (OpR.pure rfl) rfl ?_
 refine TL.nil ?_
 show T X _ _ _
 refine T.seq ?_
 refine T.block ?_
 refine T.seq ?_
 refine T.seq ?_
 refine T.region ?_
 refine TL.op1 (OpR.pure rfl) rfl ?_
 refine TL.op1 (OpR.pure rfl) rfl ?_
 refine TL.op1 (OpR.pure rfl) rfl ?_
 refine TL.nil ?_
 show T X _ _ _
 obtain ⟨t1, ht1, h0⟩ := bnd_some h0
 refine T.cutC (fun S' => S' = ⟨[(3, .val (.bool t1)), (2, .val (.int .i64 0)), (0, .val (.int .i64 a0))], [], 36⟩) (fun _ h => h) ?_ ?_
 · rcases ite_some ht1 with ⟨c2, ht1⟩ | ⟨c2, ht1⟩
   · refine T.condT rfl (beq_iff_eq.2 c2) ?_
     refine T.skip ?_
     obtain rfl := Option.some.inj ht1
     exact ⟨_, Gst.only [0, 2, 3] rfl, rfl⟩
   refine T.condF rfl (beq_eq_false_iff_ne.2 c2) ?_
   refine T.region ?_
   refine TL.op1 (OpR.pure rfl) rfl ?_
   refine TL.op1 (OpR.pure rfl) rfl ?_
   refine TL.op1 (OpR.pure rfl) rfl ?_
   rcases ite_some ht1 with ⟨c3, ht1⟩ | ⟨c3, ht1⟩
   rotate_left
   · refine TL.off rfl rfl rfl rfl (decide_eq_false c3) rfl rfl ?_
     refine TL.off rfl rfl rfl rfl (decide_eq_false c3) rfl rfl ?_
     refine TL.op1 (OpR.pickF rfl (decide_eq_false c3) rfl) rfl ?_
     refine TL.op1 (OpR.pure rfl) rfl ?_
     refine TL.nil ?_
     obtain rfl := Option.some.inj ht1
     exact ⟨_, Gst.only [0, 2, 3] rfl, rfl⟩
   refine TL.on rfl rfl rfl rfl (decide_eq_true c3) ?_
   refine TL.op1 (OpR.pure rfl) rfl ?_
   refine TL.on rfl rfl rfl rfl (decide_eq_true c3) ?_
   refine TL.op1 (OpR.pure rfl) rfl ?_
   refine TL.op1 (OpR.pickT rfl (decide_eq_true c3) rfl) rfl ?_
   refine TL.op1 (OpR.pure rfl) rfl ?_
   refine TL.nil ?_
   obtain rfl := Option.some.inj ht1
   exact ⟨_, Gst.only [0, 2, 3] rfl, rfl⟩
 rintro _ rfl
 show T X _ _ _
 rcases ite_some h0 with ⟨c4, h0⟩ | ⟨c4, h0⟩
 · refine T.condT rfl (c4) ?_
   refine T.seq ?_
   refine T.region ?_
   refine TL.op1 (OpR.pure rfl) rfl ?_
   refine TL.nil ?_
   show T X _ _ _
   refine T.ret ?_
   obtain rfl := Option.some.inj h0
   exact PostG.retP (ks := []) (Gst.only [2] rfl) undef (ResL.cons (ResV.tmp rfl) ResL.nil) rfl rfl rfl rfl
 refine T.condF rfl (eq_false_of_ne_true c4) ?_
 refine T.seq ?_
 refine T.seq ?_
 refine T.region ?_
 refine TL.op1 (OpR.pure rfl) rfl ?_
 refine TL.op1 (OpR.pure rfl) rfl ?_
 refine TL.op1 (OpR.pure rfl) rfl ?_
 refine TL.nil ?_
 show T X _ _ _
 obtain ⟨t5, ht5, h0⟩ := bnd_some h0
 refine T.cutC (fun S' => S' = ⟨[(12, .val (.bool t5)), (2, .val (.int .i64 0)), (0, .val (.int .i64 a0))], [], 36⟩) (fun _ h => h) ?_ ?_
 · rcases ite_some ht5 with ⟨c6, ht5⟩ | ⟨c6, ht5⟩
   · refine T.condT rfl (decide_eq_true c6) ?_
     refine T.skip ?_
     obtain rfl := Option.some.inj ht5
     exact ⟨_, Gst.only [0, 2, 12] rfl, rfl⟩
   refine T.condF rfl (decide_eq_false c6) ?_
   refine T.seq ?_
   refine T.region ?_
   refine TL.op1 (OpR.pure rfl) rfl ?_
   refine TL.op1 (OpR.pure rfl) rfl ?_
   refine TL.op1 (OpR.pure rfl) rfl ?_
   refine TL.nil ?_
   show T X _ _ _
   rcases ite_some ht5 with ⟨c7, ht5⟩ | ⟨c7, ht5⟩
   · refine T.condT rfl (beq_iff_eq.2 c7) ?_
     refine T.skip ?_
     obtain rfl := Option.some.inj ht5
     exact ⟨_, Gst.only [0, 2, 12] rfl, rfl⟩
   refine T.condF rfl (beq_eq_false_iff_ne.2 c7) ?_
   refine T.region ?_
   refine TL.op1 (OpR.pure rfl) rfl ?_
   refine TL.op1 (OpR.pure rfl) rfl ?_
   refine TL.op1 (OpR.pure rfl) rfl ?_
   rcases ite_some ht5 with ⟨c8, ht5⟩ | ⟨c8, ht5⟩
   rotate_left
   · refine TL.off rfl rfl rfl rfl (decide_eq_false c8) rfl rfl ?_
     refine TL.off rfl rfl rfl rfl (decide_eq_false c8) rfl rfl ?_
     refine TL.op1 (OpR.pickF rfl (decide_eq_false c8) rfl) rfl ?_
     refine TL.op1 (OpR.pure rfl) rfl ?_
     refine TL.nil ?_
     obtain rfl := Option.some.inj ht5
     exact ⟨_, Gst.only [0, 2, 12] rfl, rfl⟩
   refine TL.on rfl rfl rfl rfl (decide_eq_true c8) ?_
   refine TL.op1 (OpR.pure rfl) rfl ?_
   refine TL.on rfl rfl rfl rfl (decide_eq_true c8) ?_
   refine TL.op1 (OpR.pure rfl) rfl ?_
   refine TL.op1 (OpR.pickT rfl (decide_eq_true c8) rfl) rfl ?_
   refine TL.op1 (OpR.pure rfl) rfl ?_
   refine TL.nil ?_
   obtain rfl := Option.some.inj ht5
   exact ⟨_, Gst.only [0, 2, 12] rfl, rfl⟩
 rintro _ rfl
 show T X _ _ _
 rcases ite_some h0 with ⟨c9, h0⟩ | ⟨c9, h0⟩
 · refine T.condT rfl (c9) ?_
   refine T.seq ?_
   refine T.region ?_
   refine TL.op1 (OpR.pure rfl) rfl ?_
   refine TL.nil ?_
   show T X _ _ _
   refine T.ret ?_
   obtain rfl := Option.some.inj h0
   exact PostG.retP (ks := []) (Gst.only [2] rfl) undef (ResL.cons (ResV.tmp rfl) ResL.nil) rfl rfl rfl rfl
 refine T.condF rfl (eq_false_of_ne_true c9) ?_
 refine T.seq ?_
 refine T.seq ?_
 obtain ⟨t10, ht10, h0⟩ := bnd_some h0
 refine T.cutC (fun S' => S' = ⟨[(23, .val (.bool t10)), (2, .val (.int .i64 0)), (0, .val (.int .i64 a0))], [], 36⟩) (fun _ h => h) ?_ ?_
 · refine T.region ?_
   refine TL.op1 (OpR.pure rfl) rfl ?_
   refine TL.op1 (OpR.pure rfl) rfl ?_
   refine TL.op1 (OpR.pure rfl) rfl ?_
   rcases ite_some ht10 with ⟨c11, ht10⟩ | ⟨c11, ht10⟩
   rotate_left
   · refine TL.off rfl rfl rfl rfl (decide_eq_false c11) rfl rfl ?_
     refine TL.off rfl rfl rfl rfl (decide_eq_false c11) rfl rfl ?_
     refine TL.op1 (OpR.pickF rfl (decide_eq_false c11) rfl) rfl ?_
     refine TL.op1 (OpR.pure rfl) rfl ?_
     refine TL.nil ?_
     obtain rfl := Option.some.inj ht10
     exact ⟨_, Gst.only [0, 2, 23] rfl, rfl⟩
   refine TL.on rfl rfl rfl rfl (decide_eq_true c11) ?_
   refine TL.op1 (OpR.pure rfl) rfl ?_
   refine TL.on rfl rfl rfl rfl (decide_eq_true c11) ?_
   refine TL.op1 (OpR.pure rfl) rfl ?_
   refine TL.op1 (OpR.pickT rfl (decide_eq_true c11) rfl) rfl ?_
   refine TL.op1 (OpR.pure rfl) rfl ?_
   refine TL.nil ?_
   obtain rfl := Option.some.inj ht10
   exact ⟨_, Gst.only [0, 2, 23] rfl, rfl⟩
 rintro _ rfl
 show T X _ _ _
 obtain ⟨t12, ht12, h0⟩ := bnd_some h0
 refine T.cutC (fun S' => S' = ⟨[(23, .val (.bool t12)), (2, .val (.int .i64 0))], [], 36⟩) (fun _ h => h) ?_ ?_
 rotate_left
 · rintro _ rfl
   show T X _ _ _
   rcases ite_some h0 with ⟨c15, h0⟩ | ⟨c15, h0⟩
   · refine T.condT rfl (c15) ?_
     refine T.seq ?_
     refine T.region ?_
     refine TL.op1 (OpR.pure rfl) rfl ?_
     refine TL.nil ?_
     show T X _ _ _
     refine T.ret ?_
     obtain rfl := Option.some.inj h0
     exact PostG.retP (ks := []) (Gst.only [2] rfl) undef (ResL.cons (ResV.tmp rfl) ResL.nil) rfl rfl rfl rfl
   refine T.condF rfl (eq_false_of_ne_true c15) ?_
   refine T.skip ?_
   show T X _ _ _
   refine T.seq ?_
   refine T.region ?_
   refine TL.op1 (OpR.pure rfl) rfl ?_
   refine TL.nil ?_
   show T X _ _ _
   refine T.ret ?_
   obtain rfl := Option.some.inj h0
   exact PostG.retP (ks := []) (Gst.only [2] rfl) undef (ResL.cons (ResV.tmp rfl) ResL.nil) rfl rfl rfl rfl
 rcases ite_some ht12 with ⟨c13, ht12⟩ | ⟨c13, ht12⟩
 · refine T.condT rfl (c13) ?_
   refine T.skip ?_
   obtain rfl := Option.some.inj ht12
   exact ⟨_, Gst.only [2, 23] rfl, rfl⟩
 refine T.condF rfl (eq_false_of_ne_true c13) ?_
 refine T.region ?_
 refine TL.op1 (OpR.pure rfl) rfl ?_
 refine TL.op1 (OpR.pure rfl) rfl ?_
 refine TL.op1 (OpR.pure rfl) rfl ?_
 rcases ite_some ht12 with ⟨c14, ht12⟩ | ⟨c14, ht12⟩
 rotate_left
 · refine TL.off rfl rfl rfl rfl (decide_eq_false c14) rfl rfl ?_
   refine TL.off rfl rfl rfl rfl (decide_eq_false c14) rfl rfl ?_
   refine TL.op1 (OpR.pickF rfl (decide_eq_false c14) rfl) rfl ?_
   refine TL.op1 (OpR.pure rfl) rfl ?_
   refine TL.nil ?_
   obtain rfl := Option.some.inj ht12
   exact ⟨_, Gst.only [2, 23] rfl, rfl⟩
 refine TL.on rfl rfl rfl rfl (decide_eq_true c14) ?_
 refine TL.op1 (OpR.pure rfl) rfl ?_
 refine TL.on rfl rfl rfl rfl (decide_eq_true c14) ?_
 refine TL.op1 (OpR.pure rfl) rfl ?_
 refine TL.op1 (OpR.pickT rfl (decide_eq_true c14) rfl) rfl ?_
 refine TL.op1 (OpR.pure rfl) rfl ?_
 refine TL.nil ?_
 obtain rfl := Option.some.inj ht12
 exact ⟨_, Gst.only [2, 23] rfl, rfl⟩
noncomputable def line_word_1 (a0 : Int) (a1 : List UInt8) : Option Int :=
  bnd (utf_Prev a1 a0) fun x2 =>
  bnd (utf_Rune a1 x2) fun x3 =>
  bnd (utf_Class x3) fun x4 =>
  some x4
set_option maxHeartbeats 4000000 in
theorem line_word_1_c {a0 : Int} {a1 : List UInt8} {b0 : Nat} {res : Int} (h0 : line_word_1 a0 a1 = some res) : CallF X 173 [.val (.int .i64 a0), .val (.pointer (some ⟨b0, 0, none⟩))] [.var b0 [.sl 1 (List.map byteD a1)] 25] (fun x => .val (.int .i64 res)) (fun x => [.var b0 [.sl 1 (List.map byteD a1)] 25]) := by
 unfold line_word_1 at h0
 refine CallF.mkG (X := X) Try.func173 rfl rfl Try.ntmps173 rfl rfl ?_
 refine T.seq ?_
 refine T.region ?_
 refine TL.op1 (OpR.pure rfl) rfl ?_
 refine TL.nil ?_
 show T X _ _ _
 refine T.seq ?_
 obtain ⟨x2, hx2, h0⟩ := bnd_some h0
 obtain ⟨x3, hx3, h0⟩ := bnd_some h0
 obtain ⟨x4, hx4, h0⟩ := bnd_some h0
 refine T.drawQ drawsX [.sl 1 (List.map byteD a1), .sl 1 (List.map byteD a1), .val (.int .i64 a0), .val (.int .i64 x2), .val (.int .i64 x3), .val (.int .i64 x4), .val (.int .i64 x4)] [0, 1, 3, 4, 5, 6, 7, 8, 9] (by decide +kernel) rfl ?_ rfl ?_
 rotate_left
 · show T X _ _ _
   refine T.ret ?_
   obtain rfl := Option.some.inj h0
   exact PostG.retP (ks := [0]) (Gst.only [3] rfl) undef (ResL.cons (ResV.tmp rfl) ResL.nil) rfl rfl rfl rfl
 refine OpsQ.yes (Want.plain rfl) rfl (OpR.loadPtr 0 rfl rfl rfl rfl) ?_
 refine OpsQ.yes (Want.plain rfl) rfl (OpR.loadPtr 0 rfl rfl rfl rfl) ?_
 refine OpsQ.yes (Want.plain rfl) rfl (OpR.pure rfl) ?_
 refine OpsQ.yes (Want.plain rfl) rfl (OpR.call0 fn132 (utf_Prev_c hx2) rfl) ?_
 refine OpsQ.yes (Want.plain rfl) rfl (OpR.call0 fn175 (utf_Rune_c hx3) rfl) ?_
 refine OpsQ.yes (Want.plain rfl) rfl (OpR.call0 fn174 (utf_Class_c hx4) rfl) ?_
 refine OpsQ.yes (Want.plain rfl) rfl (OpR.pure rfl) ?_
 exact OpsQ.nil
noncomputable def line_word.l1 (a0 : List UInt8) (s3 : Int) : Option (Lp Int Int) :=
  bnd (if s3 > 0 then
    bnd (line_word_1 s3 a0) fun x13 =>
    some (x13 == 0)
  else
    some false : Option Bool) fun t11 =>
  if t11 = true then
    bnd (utf_Prev a0 s3) fun x15 =>
    some (Lp.next x15)
  else
    some (Lp.done s3)
noncomputable def line_word.l2 (a0 : List UInt8) (t2 : Int) (s17 : Int) : Option (Lp Int Int) :=
  bnd (if s17 > 0 then
    bnd (line_word_1 s17 a0) fun x27 =>
    bnd (line_word_1 t2 a0) fun x28 =>
    some (x27 == x28)
  else
    some false : Option Bool) fun t25 =>
  if t25 = true then
    bnd (utf_Prev a0 s17) fun x30 =>
    some (Lp.next x30)
  else
    some (Lp.done s17)
noncomputable def line_word (a0 : List UInt8) (a1 : Int) : Option Int :=
  bnd (loop (line_word.l1 a0) a1 : Option Int) fun t2 =>
  bnd (loop (line_word.l2 a0 t2) t2 : Option Int) fun t16 =>
  some t16
set_option maxHeartbeats 4000000 in
theorem line_word_c {a0 : List UInt8} {a1 : Int} {res : Int} (h0 : line_word a0 a1 = some res) : CallF X 135 [.sl 1 (List.map byteD a0), .val (.int .i64 a1)] [] (fun x => .val (.int .i64 res)) (fun x => []) := by
 unfold line_word at h0
 refine CallF.mkG (X := X) Try.func135 rfl rfl Try.ntmps135 rfl rfl ?_
 refine T.seq ?_
 refine T.region ?_
 refine TL.op (OpR.boxVar rfl rfl (fun _ => rfl)) rfl (fun p1 => ?_)
 refine TL.op1 (OpR.pure rfl) rfl ?_
 refine TL.nil ?_
 show T X _ _ _
 refine T.seq ?_
 refine T.region ?_
 refine TL.op1 (OpR.pure rfl) rfl ?_
 refine TL.op1 (OpR.pure rfl) rfl ?_
 refine TL.nil ?_
 show T X _ _ _
 refine T.seq ?_
 obtain ⟨t2, ht2, h0⟩ := bnd_some h0
 refine T.cutC (fun S' => S' = ⟨[(5, .fn (.func 173) [] [.val (.pointer (some ⟨(blk p1), 0, none⟩))]), (4, .val (.int .i64 0)), (2, .val (.pointer (some ⟨(blk p1), 0, none⟩))), (1, .val (.int .i64 t2))], [.var (blk p1) [.sl 1 (List.map byteD a0)] 25], 35⟩) (fun _ h => h) ?_ ?_
 · refine T.block ?_
   obtain ⟨n4, n9⟩ := loop_some ht2
   refine T.loop (fun n S' => ∃ S'', Gst S' S'' ∧ ∃ s3 : Int, S'' = ⟨[(5, .fn (.func 173) [] [.val (.pointer (some ⟨(blk p1), 0, none⟩))]), (4, .val (.int .i64 0)), (2, .val (.pointer (some ⟨(blk p1), 0, none⟩))), (1, .val (.int .i64 s3))], [.var (blk p1) [.sl 1 (List.map byteD a0)] 25], 35⟩ ∧ iter (line_word.l1 a0) n s3 = some t2) n4 ?_ ?_
   · exact ⟨_, Gst.only [1, 2, 4, 5] rfl, a1, rfl, n9⟩
   rintro n4 _ ⟨_, g, s3, rfl, i8⟩
   refine T.ghost g ?_
   obtain ⟨m5, q6, rfl, q7, i8⟩ := iter_succ i8
   unfold line_word.l1 at q7
   refine T.seq ?_
   refine T.seq ?_
   obtain ⟨t11, ht11, q7⟩ := bnd_some q7
   refine T.cutC (fun S' => S' = ⟨[(15, .val (.bool t11)), (5, .fn (.func 173) [] [.val (.pointer (some ⟨(blk p1), 0, none⟩))]), (4, .val (.int .i64 0)), (2, .val (.pointer (some ⟨(blk p1), 0, none⟩))), (1, .val (.int .i64 s3))], [.var (blk p1) [.sl 1 (List.map byteD a0)] 25], 35⟩) (fun _ h => h) ?_ ?_
   rotate_left
   · rintro _ rfl
     show T X _ _ _
     rcases ite_some q7 with ⟨c14, q7⟩ | ⟨c14, q7⟩
     rotate_left
     · refine T.condF rfl (eq_false_of_ne_true c14) ?_
       refine T.exit ?_
       obtain rfl := Option.some.inj q7
       obtain rfl : _ = _ := i8
       exact ⟨_, Gst.only [1, 2, 4, 5] rfl, rfl⟩
     refine T.condT rfl (c14) ?_
     refine T.skip ?_
     show T X _ _ _
     refine T.block ?_
     refine T.region ?_
     refine TL.op1 (OpR.loadPtr 0 rfl rfl rfl rfl) rfl ?_
     refine TL.op1 (OpR.pure rfl) rfl ?_
     obtain ⟨x15, hx15, q7⟩ := bnd_some q7
     refine TL.op1 (OpR.call0 fn132 (utf_Prev_c hx15) rfl) rfl ?_
     refine TL.op1 (OpR.pure rfl) rfl ?_
     refine TL.nil ?_
     obtain rfl := Option.some.inj q7
     exact ⟨m5, Nat.lt_succ_self _, _, Gst.only [1, 2, 4, 5] rfl, x15, rfl, i8⟩
   refine T.region ?_
   refine TL.op1 (OpR.pure rfl) rfl ?_
   refine TL.op1 (OpR.pure rfl) rfl ?_
   refine TL.op1 (OpR.pure rfl) rfl ?_
   rcases ite_some ht11 with ⟨c12, ht11⟩ | ⟨c12, ht11⟩
   rotate_left
   · refine TL.off rfl rfl rfl rfl (decide_eq_false c12) rfl rfl ?_
     refine TL.off rfl rfl rfl rfl (decide_eq_false c12) rfl rfl ?_
     refine TL.off rfl rfl rfl rfl (decide_eq_false c12) rfl rfl ?_
     refine TL.off rfl rfl rfl rfl (decide_eq_false c12) rfl rfl ?_
     refine TL.op1 (OpR.pickF rfl (decide_eq_false c12) rfl) rfl ?_
     refine TL.nil ?_
     obtain rfl := Option.some.inj ht11
     exact ⟨_, Gst.only [1, 2, 4, 5, 15] rfl, rfl⟩
   refine TL.on rfl rfl rfl rfl (decide_eq_true c12) ?_
   refine TL.op1 (OpR.pure rfl) rfl ?_
   refine TL.on rfl rfl rfl rfl (decide_eq_true c12) ?_
   refine TL.op1 (OpR.pure rfl) rfl ?_
   refine TL.on rfl rfl rfl rfl (decide_eq_true c12) ?_
   obtain ⟨x13, hx13, ht11⟩ := bnd_some ht11
   refine TL.op1 (OpR.callV [0] rfl fn173 (line_word_1_c hx13) rfl rfl rfl (fun _ => rfl)) rfl ?_
   refine TL.on rfl rfl rfl rfl (decide_eq_true c12) ?_
   refine TL.op1 (OpR.pure rfl) rfl ?_
   refine TL.op1 (OpR.pickT rfl (decide_eq_true c12) rfl) rfl ?_
   refine TL.nil ?_
   obtain rfl := Option.some.inj ht11
   exact ⟨_, Gst.only [1, 2, 4, 5, 15] rfl, rfl⟩
 rintro _ rfl
 show T X _ _ _
 refine T.seq ?_
 refine T.seq ?_
 refine T.region ?_
 refine TL.op1 (OpR.pure rfl) rfl ?_
 refine TL.op1 (OpR.pure rfl) rfl ?_
 refine TL.nil ?_
 show T X _ _ _
 obtain ⟨t16, ht16, h0⟩ := bnd_some h0
 refine T.cutC (fun S' => S' = ⟨[(4, .val (.int .i64 0)), (1, .val (.int .i64 t16))], [], 35⟩) (fun _ h => h) ?_ ?_
 rotate_left
 · rintro _ rfl
   show T X _ _ _
   refine T.seq ?_
   refine T.region ?_
   refine TL.op1 (OpR.pure rfl) rfl ?_
   refine TL.op1 (OpR.pure rfl) rfl ?_
   refine TL.nil ?_
   show T X _ _ _
   refine T.ret ?_
   obtain rfl := Option.some.inj h0
   exact PostG.retP (ks := []) (Gst.only [4] rfl) undef (ResL.cons (ResV.tmp rfl) ResL.nil) rfl rfl rfl rfl
 refine T.block ?_
 obtain ⟨n18, n23⟩ := loop_some ht16
 refine T.loop (fun n S' => ∃ S'', Gst S' S'' ∧ ∃ s17 : Int, S'' = ⟨[(6, .val (.int .i64 t2)), (5, .fn (.func 173) [] [.val (.pointer (some ⟨(blk p1), 0, none⟩))]), (4, .val (.int .i64 0)), (2, .val (.pointer (some ⟨(blk p1), 0, none⟩))), (1, .val (.int .i64 s17))], [.var (blk p1) [.sl 1 (List.map byteD a0)] 25], 35⟩ ∧ iter (line_word.l2 a0 t2) n s17 = some t16) n18 ?_ ?_
 · exact ⟨_, Gst.only [1, 2, 4, 5, 6] rfl, t2, rfl, n23⟩
 rintro n18 _ ⟨_, g, s17, rfl, i22⟩
 refine T.ghost g ?_
 obtain ⟨m19, q20, rfl, q21, i22⟩ := iter_succ i22
 unfold line_word.l2 at q21
 refine T.seq ?_
 refine T.seq ?_
 obtain ⟨t25, ht25, q21⟩ := bnd_some q21
 refine T.cutC (fun S' => S' = ⟨[(30, .val (.bool t25)), (6, .val (.int .i64 t2)), (5, .fn (.func 173) [] [.val (.pointer (some ⟨(blk p1), 0, none⟩))]), (4, .val (.int .i64 0)), (2, .val (.pointer (some ⟨(blk p1), 0, none⟩))), (1, .val (.int .i64 s17))], [.var (blk p1) [.sl 1 (List.map byteD a0)] 25], 35⟩) (fun _ h => h) ?_ ?_
 rotate_left
 · rintro _ rfl
   show T X _ _ _
   rcases ite_some q21 with ⟨c29, q21⟩ | ⟨c29, q21⟩
   rotate_left
   · refine T.condF rfl (eq_false_of_ne_true c29) ?_
     refine T.exit ?_
     obtain rfl := Option.some.inj q21
     obtain rfl : _ = _ := i22
     exact ⟨_, Gst.trans (Gst.only [1, 4] rfl) (Gst.pick [] rfl rfl), rfl⟩
   refine T.condT rfl (c29) ?_
   refine T.skip ?_
   show T X _ _ _
   refine T.block ?_
   refine T.region ?_
   refine TL.op1 (OpR.loadPtr 0 rfl rfl rfl rfl) rfl ?_
   refine TL.op1 (OpR.pure rfl) rfl ?_
   obtain ⟨x30, hx30, q21⟩ := bnd_some q21
   refine TL.op1 (OpR.call0 fn132 (utf_Prev_c hx30) rfl) rfl ?_
   refine TL.op1 (OpR.pure rfl) rfl ?_
   refine TL.nil ?_
   obtain rfl := Option.some.inj q21
   exact ⟨m19, Nat.lt_succ_self _, _, Gst.only [1, 2, 4, 5, 6] rfl, x30, rfl, i22⟩
 refine T.region ?_
 refine TL.op1 (OpR.pure rfl) rfl ?_
 refine TL.op1 (OpR.pure rfl) rfl ?_
 refine TL.op1 (OpR.pure rfl) rfl ?_
 rcases ite_some ht25 with ⟨c26, ht25⟩ | ⟨c26, ht25⟩
 rotate_left
 · refine TL.off rfl rfl rfl rfl (decide_eq_false c26) rfl rfl ?_
   refine TL.off rfl rfl rfl rfl (decide_eq_false c26) rfl rfl ?_
   refine TL.off rfl rfl rfl rfl (decide_eq_false c26) rfl rfl ?_
   refine TL.off rfl rfl rfl rfl (decide_eq_false c26) rfl rfl ?_
   refine TL.off rfl rfl rfl rfl (decide_eq_false c26) rfl rfl ?_
   refine TL.off rfl rfl rfl rfl (decide_eq_false c26) rfl rfl ?_
   refine TL.off rfl rfl rfl rfl (decide_eq_false c26) rfl rfl ?_
   refine TL.op1 (OpR.pickF rfl (decide_eq_false c26) rfl) rfl ?_
   refine TL.nil ?_
   obtain rfl := Option.some.inj ht25
   exact ⟨_, Gst.only [1, 2, 4, 5, 6, 30] rfl, rfl⟩
 refine TL.on rfl rfl rfl rfl (decide_eq_true c26) ?_
 refine TL.op1 (OpR.pure rfl) rfl ?_
 refine TL.on rfl rfl rfl rfl (decide_eq_true c26) ?_
 refine TL.op1 (OpR.pure rfl) rfl ?_
 refine TL.on rfl rfl rfl rfl (decide_eq_true c26) ?_
 obtain ⟨x27, hx27, ht25⟩ := bnd_some ht25
 refine TL.op1 (OpR.callV [0] rfl fn173 (line_word_1_c hx27) rfl rfl rfl (fun _ => rfl)) rfl ?_
 refine TL.on rfl rfl rfl rfl (decide_eq_true c26) ?_
 refine TL.op1 (OpR.pure rfl) rfl ?_
 refine TL.on rfl rfl rfl rfl (decide_eq_true c26) ?_
 refine TL.op1 (OpR.pure rfl) rfl ?_
 refine TL.on rfl rfl rfl rfl (decide_eq_true c26) ?_
 obtain ⟨x28, hx28, ht25⟩ := bnd_some ht25
 refine TL.op1 (OpR.callV [0] rfl fn173 (line_word_1_c hx28) rfl rfl rfl (fun _ => rfl)) rfl ?_
 refine TL.on rfl rfl rfl rfl (decide_eq_true c26) ?_
 refine TL.op1 (OpR.pure rfl) rfl ?_
 refine TL.op1 (OpR.pickT rfl (decide_eq_true c26) rfl) rfl ?_
 refine TL.nil ?_
 obtain rfl := Option.some.inj ht25
 exact ⟨_, Gst.only [1, 2, 4, 5, 6, 30] rfl, rfl⟩
noncomputable def line_to (a0 : Int) (a1 : Int) : Option line_Edit :=
  some (⟨a0, a0, [], a1⟩ : line_Edit)
set_option maxHeartbeats 4000000 in
theorem line_to_c {a0 : Int} {a1 : Int} {res : line_Edit} (h0 : line_to a0 a1 = some res) : CallF X 136 [.val (.int .i64 a0), .val (.int .i64 a1)] [] (fun x => .agg [.val (.int .i64 res.fFrom), .val (.int .i64 res.fTo), .val (.string (bs res.fIn)), .val (.int .i64 res.fAt)]) (fun x => []) := by
 unfold line_to at h0
 refine CallF.mkG (X := X) Try.func136 rfl rfl Try.ntmps136 rfl rfl ?_
 refine T.seq ?_
 refine T.region ?_
 refine TL.op (OpR.alloc rfl rfl (fun _ => rfl)) rfl (fun p1 => ?_)
 refine TL.nil ?_
 show T X _ _ _
 refine T.seq ?_
 refine T.region ?_
 refine TL.op1 (OpR.pure rfl) rfl ?_
 refine TL.op1 (OpR.pure rfl) rfl ?_
 refine TL.op1 (OpR.pure rfl) rfl ?_
 refine TL.op1 (OpR.build rfl rfl rfl rfl rfl) rfl ?_
 refine TL.op0 (OpR.store 0 rfl rfl rfl rfl rfl rfl rfl rfl) ?_
 refine TL.nil ?_
 show T X _ _ _
 refine T.ret ?_
 obtain rfl := Option.some.inj h0
 exact PostG.retP (ks := []) (Gst.only [4] rfl) undef (ResL.cons (ResV.var 0 rfl rfl rfl rfl) ResL.nil) rfl rfl rfl rfl
noncomputable def line_Plan (a0 : List UInt8) (a1 : Int) (a2 : Int) : Option (line_Edit × Bool) :=
  bnd (line_bound a0 a1) fun x2 =>
  bnd (keys_Types a2) fun x3 =>
  bnd (if x3 = true then
    some x3
  else
    some (a2 == 10) : Option Bool) fun t4 =>
  if t4 = true then
    bnd (utf_Put a2) fun x7 =>
    some ((⟨x2, x2, x7, w64 (x2 + (x7.length : Int))⟩ : line_Edit), true)
  else
    if a2 = 8 then
      bnd (utf_Prev a0 x2) fun x9 =>
      bnd (line_gone x9 x2) fun x10 =>
      some (x10, true)
    else
      if a2 = 127 then
        bnd (utf_Next a0 x2) fun x12 =>
        bnd (line_gone x2 x12) fun x13 =>
        some (x13, true)
      else
        bnd (keys_Ctrl 117) fun x14 =>
        if a2 = x14 then
          bnd (line_gone 0 x2) fun x16 =>
          some (x16, true)
        else
          bnd (keys_Ctrl 119) fun x17 =>
          if a2 = x17 then
            bnd (line_word a0 x2) fun x19 =>
            bnd (line_gone x19 x2) fun x20 =>
            some (x20, true)
          else
            if a2 = (-1) then
              bnd (utf_Prev a0 x2) fun x22 =>
              bnd (line_to x2 x22) fun x23 =>
              some (x23, true)
            else
              if a2 = (-2) then
                bnd (utf_Next a0 x2) fun x25 =>
                bnd (line_to x2 x25) fun x26 =>
                some (x26, true)
              else
                if a2 = (-5) then
                  bnd (line_to x2 0) fun x28 =>
                  some (x28, true)
                else
                  if a2 = (-6) then
                    bnd (line_to x2 (a0.length : Int)) fun x30 =>
                    some (x30, true)
                  else
                    bnd (line_to x2 x2) fun x31 =>
                    some (x31, false)
set_option maxHeartbeats 4000000 in
theorem line_Plan_c {a0 : List UInt8} {a1 : Int} {a2 : Int} {res : line_Edit × Bool} (h0 : line_Plan a0 a1 a2 = some res) : CallF X 82 [.sl 1 (List.map byteD a0), .val (.int .i64 a1), .val (.int .i64 a2)] [] (fun x => .tup [.agg [.val (.int .i64 res.1.fFrom), .val (.int .i64 res.1.fTo), .val (.string (bs res.1.fIn)), .val (.int .i64 res.1.fAt)], .val (.bool res.2)]) (fun x => []) := by
 unfold line_Plan at h0
 refine CallF.mkG (X := X) Try.func82 rfl rfl Try.ntmps82 rfl rfl ?_
 refine T.seq ?_
 refine T.region ?_
 refine TL.op (OpR.alloc rfl rfl (fun _ => rfl)) rfl (fun p1 => ?_)
 refine TL.op1 (OpR.pure rfl) rfl ?_
 refine TL.nil ?_
 show T X _ _ _
 refine T.seq ?_
 refine T.region ?_
 refine TL.op1 (OpR.pure rfl) rfl ?_
 refine TL.op1 (OpR.pure rfl) rfl ?_
 obtain ⟨x2, hx2, h0⟩ := bnd_some h0
 refine TL.op1 (OpR.call0 fn87 (line_bound_c hx2) rfl) rfl ?_
 refine TL.op1 (OpR.pure rfl) rfl ?_
 refine TL.nil ?_
 show T X _ _ _
 refine T.seq ?_
 refine T.block ?_
 refine T.seq ?_
 refine T.seq ?_
 refine T.region ?_
 refine TL.op1 (OpR.pure rfl) rfl ?_
 obtain ⟨x3, hx3, h0⟩ := bnd_some h0
 refine TL.op1 (OpR.call0 fn129 (keys_Types_c hx3) rfl) rfl ?_
 refine TL.op1 (OpR.pure rfl) rfl ?_
 refine TL.nil ?_
 show T X _ _ _
 obtain ⟨t4, ht4, h0⟩ := bnd_some h0
 refine T.cutC (fun S' => S' = ⟨[(12, .val (.bool t4)), (7, .val (.bool false)), (6, .val (.pointer (some ⟨(blk p1), 0, none⟩))), (2, .val (.int .i64 a2)), (1, .val (.int .i64 x2)), (0, .sl 1 (List.map byteD a0))], [.var (blk p1) [.val (.int .i64 0), .val (.int .i64 0), .val (.string (bs [])), .val (.int .i64 0)] 165], 90⟩) (fun _ h => h) ?_ ?_
 · rcases ite_some ht4 with ⟨c5, ht4⟩ | ⟨c5, ht4⟩
   · refine T.condT rfl (c5) ?_
     refine T.skip ?_
     obtain rfl := Option.some.inj ht4
     exact ⟨_, Gst.only [0, 1, 2, 6, 7, 12] rfl, rfl⟩
   refine T.condF rfl (eq_false_of_ne_true c5) ?_
   refine T.region ?_
   refine TL.op1 (OpR.pure rfl) rfl ?_
   refine TL.op1 (OpR.pure rfl) rfl ?_
   refine TL.op1 (OpR.pure rfl) rfl ?_
   refine TL.nil ?_
   obtain rfl := Option.some.inj ht4
   exact ⟨_, Gst.only [0, 1, 2, 6, 7, 12] rfl, rfl⟩
 rintro _ rfl
 show T X _ _ _
 rcases ite_some h0 with ⟨c6, h0⟩ | ⟨c6, h0⟩
 · refine T.condT rfl (c6) ?_
   refine T.seq ?_
   refine T.region ?_
   refine TL.op1 (OpR.pure rfl) rfl ?_
   obtain ⟨x7, hx7, h0⟩ := bnd_some h0
   refine TL.op1 (OpR.call0 fn130 (utf_Put_c hx7) rfl) rfl ?_
   refine TL.op1 (OpR.toStr (bs := x7) rfl rfl rfl rfl rfl rfl rfl) rfl ?_
   refine TL.op1 (OpR.pure rfl) rfl ?_
   refine TL.nil ?_
   show T X _ _ _
   refine T.seq ?_
   refine T.region ?_
   refine TL.op1 (OpR.pure rfl) rfl ?_
   refine TL.op1 (OpR.pure rfl) rfl ?_
   refine TL.op1 (OpR.pure rfl) rfl ?_
   refine TL.op1 (OpR.pure rfl) rfl ?_
   refine TL.op1 (OpR.pure rfl) rfl ?_
   refine TL.op1 (OpR.cast (OpR.pure rfl) (intE (lenS _))) rfl ?_
   refine TL.op1 (OpR.pure rfl) rfl ?_
   refine TL.op1 (OpR.build rfl rfl rfl rfl rfl) rfl ?_
   refine TL.op0 (OpR.store 0 rfl rfl rfl rfl rfl rfl rfl rfl) ?_
   refine TL.op1 (OpR.pure rfl) rfl ?_
   refine TL.nil ?_
   show T X _ _ _
   refine T.ret ?_
   obtain rfl := Option.some.inj h0
   exact PostG.retP (ks := []) (Gst.only [6, 7] rfl) undef (ResL.cons (ResV.var 0 rfl rfl rfl rfl) (ResL.cons (ResV.tmp rfl) ResL.nil)) rfl rfl rfl rfl
 refine T.condF rfl (eq_false_of_ne_true c6) ?_
 refine T.seq ?_
 refine T.region ?_
 refine TL.op1 (OpR.pure rfl) rfl ?_
 refine TL.op1 (OpR.pure rfl) rfl ?_
 refine TL.op1 (OpR.pure rfl) rfl ?_
 refine TL.nil ?_
 show T X _ _ _
 rcases ite_some h0 with ⟨c8, h0⟩ | ⟨c8, h0⟩
 · refine T.condT rfl (beq_iff_eq.2 c8) ?_
   refine T.seq ?_
   refine T.region ?_
   refine TL.op1 (OpR.pure rfl) rfl ?_
   refine TL.op1 (OpR.pure rfl) rfl ?_
   obtain ⟨x9, hx9, h0⟩ := bnd_some h0
   refine TL.op1 (OpR.call0 fn132 (utf_Prev_c hx9) rfl) rfl ?_
   refine TL.op1 (OpR.pure rfl) rfl ?_
   obtain ⟨x10, hx10, h0⟩ := bnd_some h0
   refine TL.op1 (OpR.call0 fn131 (line_gone_c hx10) rfl) rfl ?_
   refine TL.op0 (OpR.store 0 rfl rfl rfl rfl rfl rfl rfl rfl) ?_
   refine TL.op1 (OpR.pure rfl) rfl ?_
   refine TL.nil ?_
   show T X _ _ _
   refine T.ret ?_
   obtain rfl := Option.some.inj h0
   exact PostG.retP (ks := []) (Gst.only [6, 7] rfl) undef (ResL.cons (ResV.var 0 rfl rfl rfl rfl) (ResL.cons (ResV.tmp rfl) ResL.nil)) rfl rfl rfl rfl
 refine T.condF rfl (beq_eq_false_iff_ne.2 c8) ?_
 refine T.seq ?_
 refine T.region ?_
 refine TL.op1 (OpR.pure rfl) rfl ?_
 refine TL.op1 (OpR.pure rfl) rfl ?_
 refine TL.op1 (OpR.pure rfl) rfl ?_
 refine TL.nil ?_
 show T X _ _ _
 rcases ite_some h0 with ⟨c11, h0⟩ | ⟨c11, h0⟩
 · refine T.condT rfl (beq_iff_eq.2 c11) ?_
   refine T.seq ?_
   refine T.region ?_
   refine TL.op1 (OpR.pure rfl) rfl ?_
   refine TL.op1 (OpR.pure rfl) rfl ?_
   refine TL.op1 (OpR.pure rfl) rfl ?_
   obtain ⟨x12, hx12, h0⟩ := bnd_some h0
   refine TL.op1 (OpR.call0 fn133 (utf_Next_c hx12) rfl) rfl ?_
   obtain ⟨x13, hx13, h0⟩ := bnd_some h0
   refine TL.op1 (OpR.call0 fn131 (line_gone_c hx13) rfl) rfl ?_
   refine TL.op0 (OpR.store 0 rfl rfl rfl rfl rfl rfl rfl rfl) ?_
   refine TL.op1 (OpR.pure rfl) rfl ?_
   refine TL.nil ?_
   show T X _ _ _
   refine T.ret ?_
   obtain rfl := Option.some.inj h0
   exact PostG.retP (ks := []) (Gst.only [6, 7] rfl) undef (ResL.cons (ResV.var 0 rfl rfl rfl rfl) (ResL.cons (ResV.tmp rfl) ResL.nil)) rfl rfl rfl rfl
 refine T.condF rfl (beq_eq_false_iff_ne.2 c11) ?_
 refine T.seq ?_
 refine T.region ?_
 refine TL.op1 (OpR.pure rfl) rfl ?_
 obtain ⟨x14, hx14, h0⟩ := bnd_some h0
 refine TL.op1 (OpR.call0 fn134 (keys_Ctrl_c hx14) rfl) rfl ?_
 refine TL.op1 (OpR.pure rfl) rfl ?_
 refine TL.op1 (OpR.pure rfl) rfl ?_
 refine TL.nil ?_
 show T X _ _ _
 rcases ite_some h0 with ⟨c15, h0⟩ | ⟨c15, h0⟩
 · refine T.condT rfl (beq_iff_eq.2 c15) ?_
   refine T.seq ?_
   refine T.region ?_
   refine TL.op1 (OpR.pure rfl) rfl ?_
   obtain ⟨x16, hx16, h0⟩ := bnd_some h0
   refine TL.op1 (OpR.call0 fn131 (line_gone_c hx16) rfl) rfl ?_
   refine TL.op0 (OpR.store 0 rfl rfl rfl rfl rfl rfl rfl rfl) ?_
   refine TL.op1 (OpR.pure rfl) rfl ?_
   refine TL.nil ?_
   show T X _ _ _
   refine T.ret ?_
   obtain rfl := Option.some.inj h0
   exact PostG.retP (ks := []) (Gst.only [6, 7] rfl) undef (ResL.cons (ResV.var 0 rfl rfl rfl rfl) (ResL.cons (ResV.tmp rfl) ResL.nil)) rfl rfl rfl rfl
 refine T.condF rfl (beq_eq_false_iff_ne.2 c15) ?_
 refine T.seq ?_
 refine T.region ?_
 refine TL.op1 (OpR.pure rfl) rfl ?_
 obtain ⟨x17, hx17, h0⟩ := bnd_some h0
 refine TL.op1 (OpR.call0 fn134 (keys_Ctrl_c hx17) rfl) rfl ?_
 refine TL.op1 (OpR.pure rfl) rfl ?_
 refine TL.op1 (OpR.pure rfl) rfl ?_
 refine TL.nil ?_
 show T X _ _ _
 rcases ite_some h0 with ⟨c18, h0⟩ | ⟨c18, h0⟩
 · refine T.condT rfl (beq_iff_eq.2 c18) ?_
   refine T.seq ?_
   refine T.region ?_
   refine TL.op1 (OpR.pure rfl) rfl ?_
   refine TL.op1 (OpR.pure rfl) rfl ?_
   obtain ⟨x19, hx19, h0⟩ := bnd_some h0
   refine TL.op1 (OpR.call0 fn135 (line_word_c hx19) rfl) rfl ?_
   refine TL.op1 (OpR.pure rfl) rfl ?_
   obtain ⟨x20, hx20, h0⟩ := bnd_some h0
   refine TL.op1 (OpR.call0 fn131 (line_gone_c hx20) rfl) rfl ?_
   refine TL.op0 (OpR.store 0 rfl rfl rfl rfl rfl rfl rfl rfl) ?_
   refine TL.op1 (OpR.pure rfl) rfl ?_
   refine TL.nil ?_
   show T X _ _ _
   refine T.ret ?_
   obtain rfl := Option.some.inj h0
   exact PostG.retP (ks := []) (Gst.only [6, 7] rfl) undef (ResL.cons (ResV.var 0 rfl rfl rfl rfl) (ResL.cons (ResV.tmp rfl) ResL.nil)) rfl rfl rfl rfl
 refine T.condF rfl (beq_eq_false_iff_ne.2 c18) ?_
 refine T.seq ?_
 refine T.region ?_
 refine TL.op1 (OpR.pure rfl) rfl ?_
 refine TL.op1 (OpR.pure rfl) rfl ?_
 refine TL.op1 (OpR.pure rfl) rfl ?_
 refine TL.nil ?_
 show T X _ _ _
 rcases ite_some h0 with ⟨c21, h0⟩ | ⟨c21, h0⟩
 · refine T.condT rfl (beq_iff_eq.2 c21) ?_
   refine T.seq ?_
   refine T.region ?_
   refine TL.op1 (OpR.pure rfl) rfl ?_
   refine TL.op1 (OpR.pure rfl) rfl ?_
   refine TL.op1 (OpR.pure rfl) rfl ?_
   obtain ⟨x22, hx22, h0⟩ := bnd_some h0
   refine TL.op1 (OpR.call0 fn132 (utf_Prev_c hx22) rfl) rfl ?_
   obtain ⟨x23, hx23, h0⟩ := bnd_some h0
   refine TL.op1 (OpR.call0 fn136 (line_to_c hx23) rfl) rfl ?_
   refine TL.op0 (OpR.store 0 rfl rfl rfl rfl rfl rfl rfl rfl) ?_
   refine TL.op1 (OpR.pure rfl) rfl ?_
   refine TL.nil ?_
   show T X _ _ _
   refine T.ret ?_
   obtain rfl := Option.some.inj h0
   exact PostG.retP (ks := []) (Gst.only [6, 7] rfl) undef (ResL.cons (ResV.var 0 rfl rfl rfl rfl) (ResL.cons (ResV.tmp rfl) ResL.nil)) rfl rfl rfl rfl
 refine T.condF rfl (beq_eq_false_iff_ne.2 c21) ?_
 refine T.seq ?_
 refine T.region ?_
 refine TL.op1 (OpR.pure rfl) rfl ?_
 refine TL.op1 (OpR.pure rfl) rfl ?_
 refine TL.op1 (OpR.pure rfl) rfl ?_
 refine TL.nil ?_
 show T X _ _ _
 rcases ite_some h0 with ⟨c24, h0⟩ | ⟨c24, h0⟩
 · refine T.condT rfl (beq_iff_eq.2 c24) ?_
   refine T.seq ?_
   refine T.region ?_
   refine TL.op1 (OpR.pure rfl) rfl ?_
   refine TL.op1 (OpR.pure rfl) rfl ?_
   refine TL.op1 (OpR.pure rfl) rfl ?_
   obtain ⟨x25, hx25, h0⟩ := bnd_some h0
   refine TL.op1 (OpR.call0 fn133 (utf_Next_c hx25) rfl) rfl ?_
   obtain ⟨x26, hx26, h0⟩ := bnd_some h0
   refine TL.op1 (OpR.call0 fn136 (line_to_c hx26) rfl) rfl ?_
   refine TL.op0 (OpR.store 0 rfl rfl rfl rfl rfl rfl rfl rfl) ?_
   refine TL.op1 (OpR.pure rfl) rfl ?_
   refine TL.nil ?_
   show T X _ _ _
   refine T.ret ?_
   obtain rfl := Option.some.inj h0
   exact PostG.retP (ks := []) (Gst.only [6, 7] rfl) undef (ResL.cons (ResV.var 0 rfl rfl rfl rfl) (ResL.cons (ResV.tmp rfl) ResL.nil)) rfl rfl rfl rfl
 refine T.condF rfl (beq_eq_false_iff_ne.2 c24) ?_
 refine T.seq ?_
 refine T.region ?_
 refine TL.op1 (OpR.pure rfl) rfl ?_
 refine TL.op1 (OpR.pure rfl) rfl ?_
 refine TL.op1 (OpR.pure rfl) rfl ?_
 refine TL.nil ?_
 show T X _ _ _
 rcases ite_some h0 with ⟨c27, h0⟩ | ⟨c27, h0⟩
 · refine T.condT rfl (beq_iff_eq.2 c27) ?_
   refine T.seq ?_
   refine T.region ?_
   refine TL.op1 (OpR.pure rfl) rfl ?_
   obtain ⟨x28, hx28, h0⟩ := bnd_some h0
   refine TL.op1 (OpR.call0 fn136 (line_to_c hx28) rfl) rfl ?_
   refine TL.op0 (OpR.store 0 rfl rfl rfl rfl rfl rfl rfl rfl) ?_
   refine TL.op1 (OpR.pure rfl) rfl ?_
   refine TL.nil ?_
   show T X _ _ _
   refine T.ret ?_
   obtain rfl := Option.some.inj h0
   exact PostG.retP (ks := []) (Gst.only [6, 7] rfl) undef (ResL.cons (ResV.var 0 rfl rfl rfl rfl) (ResL.cons (ResV.tmp rfl) ResL.nil)) rfl rfl rfl rfl
 refine T.condF rfl (beq_eq_false_iff_ne.2 c27) ?_
 refine T.seq ?_
 refine T.region ?_
 refine TL.op1 (OpR.pure rfl) rfl ?_
 refine TL.op1 (OpR.pure rfl) rfl ?_
 refine TL.op1 (OpR.pure rfl) rfl ?_
 refine TL.nil ?_
 show T X _ _ _
 rcases ite_some h0 with ⟨c29, h0⟩ | ⟨c29, h0⟩
 rotate_left
 · refine T.condF rfl (beq_eq_false_iff_ne.2 c29) ?_
   refine T.skip ?_
   show T X _ _ _
   refine T.seq ?_
   refine T.region ?_
   refine TL.op1 (OpR.pure rfl) rfl ?_
   refine TL.op1 (OpR.pure rfl) rfl ?_
   obtain ⟨x31, hx31, h0⟩ := bnd_some h0
   refine TL.op1 (OpR.call0 fn136 (line_to_c hx31) rfl) rfl ?_
   refine TL.op0 (OpR.store 0 rfl rfl rfl rfl rfl rfl rfl rfl) ?_
   refine TL.op1 (OpR.pure rfl) rfl ?_
   refine TL.nil ?_
   show T X _ _ _
   refine T.ret ?_
   obtain rfl := Option.some.inj h0
   exact PostG.retP (ks := []) (Gst.only [6, 7] rfl) undef (ResL.cons (ResV.var 0 rfl rfl rfl rfl) (ResL.cons (ResV.tmp rfl) ResL.nil)) rfl rfl rfl rfl
 refine T.condT rfl (beq_iff_eq.2 c29) ?_
 refine T.seq ?_
 refine T.region ?_
 refine TL.op1 (OpR.pure rfl) rfl ?_
 refine TL.op1 (OpR.pure rfl) rfl ?_
 refine TL.op1 (OpR.cast (OpR.pure rfl) (intE (lenM _ _))) rfl ?_
 obtain ⟨x30, hx30, h0⟩ := bnd_some h0
 refine TL.op1 (OpR.call0 fn136 (line_to_c hx30) rfl) rfl ?_
 refine TL.op0 (OpR.store 0 rfl rfl rfl rfl rfl rfl rfl rfl) ?_
 refine TL.op1 (OpR.pure rfl) rfl ?_
 refine TL.nil ?_
 show T X _ _ _
 refine T.ret ?_
 obtain rfl := Option.some.inj h0
 exact PostG.retP (ks := []) (Gst.only [6, 7] rfl) undef (ResL.cons (ResV.var 0 rfl rfl rfl rfl) (ResL.cons (ResV.tmp rfl) ResL.nil)) rfl rfl rfl rfl
noncomputable def piece_Text_place (a0 : piece_Text) (a1 : Int) : Option Int :=
  bnd (some (if a0.fN < (if 0 > a1 then 0 else a1) then a0.fN else (if 0 > a1 then 0 else a1))) fun x1 =>
  some x1
set_option maxHeartbeats 4000000 in
theorem piece_Text_place_c {a0 : piece_Text} {a1 : Int} {res : Int} (h0 : piece_Text_place a0 a1 = some res) : CallF X 139 [.agg [.sl 2 (List.map e_arena_Span a0.fL), .val (.int .i64 a0.fN)], .val (.int .i64 a1)] [] (fun x => .val (.int .i64 res)) (fun x => []) := by
 unfold piece_Text_place at h0
 refine CallF.mkG (X := X) Try.func139 rfl rfl Try.ntmps139 rfl rfl ?_
 refine T.seq ?_
 refine T.region ?_
 refine TL.op1 (OpR.boxImm rfl rfl) rfl ?_
 refine TL.op1 (OpR.pure rfl) rfl ?_
 refine TL.nil ?_
 show T X _ _ _
 refine T.seq ?_
 refine T.region ?_
 refine TL.op1 (OpR.pure rfl) rfl ?_
 refine TL.op1 (OpR.pure rfl) rfl ?_
 refine TL.op1 (OpR.pure rfl) rfl ?_
 refine TL.op1 (OpR.pure rfl) rfl ?_
 obtain ⟨x1, hx1, h0⟩ := bnd_some h0
 refine TL.op1 (OpR.cast (OpR.pure rfl) (intE (Option.some.inj hx1))) rfl ?_
 refine TL.op1 (OpR.pure rfl) rfl ?_
 refine TL.nil ?_
 show T X _ _ _
 refine T.ret ?_
 obtain rfl := Option.some.inj h0
 exact PostG.retP (ks := []) (Gst.only [4] rfl) undef (ResL.cons (ResV.tmp rfl) ResL.nil) rfl rfl rfl rfl
noncomputable def arena_Sub (a0 : arena_Span) (a1 : Int) (a2 : Int) : Option arena_Span :=
  if a0.fN < 0 then
    some (⟨0, 0⟩ : arena_Span)
  else
    bnd (some (if a0.fN < (if 0 > a1 then 0 else a1) then a0.fN else (if 0 > a1 then 0 else a1))) fun x3 =>
    bnd (some (if a0.fN < (if x3 > a2 then x3 else a2) then a0.fN else (if x3 > a2 then x3 else a2))) fun x4 =>
    some (⟨w64 (a0.fAt + x3), w64 (x4 - x3)⟩ : arena_Span)
set_option maxHeartbeats 4000000 in
theorem arena_Sub_c {a0 : arena_Span} {a1 : Int} {a2 : Int} {res : arena_Span} (h0 : arena_Sub a0 a1 a2 = some res) : CallF X 183 [.agg [.val (.int .i64 a0.fAt), .val (.int .i64 a0.fN)], .val (.int .i64 a1), .val (.int .i64 a2)] [] (fun x => .agg [.val (.int .i64 res.fAt), .val (.int .i64 res.fN)]) (fun x => []) := by
 unfold arena_Sub at h0
 refine CallF.mkG (X := X) Try.func183 rfl rfl Try.ntmps183 rfl rfl ?_
 refine T.seq ?_
 refine T.region ?_
 refine TL.op1 (OpR.boxImm rfl rfl) rfl ?_
 refine TL.op (OpR.alloc rfl rfl (fun _ => rfl)) rfl (fun p1 => ?_)
 refine TL.nil ?_
 show T X _ _ _
 refine T.seq ?_
 refine T.seq ?_
 refine T.region ?_
 refine TL.op1 (OpR.pure rfl) rfl ?_
 refine TL.op1 (OpR.pure rfl) rfl ?_
 refine TL.op1 (OpR.pure rfl) rfl ?_
 refine TL.nil ?_
 show T X _ _ _
 rcases ite_some h0 with ⟨c2, h0⟩ | ⟨c2, h0⟩
 · refine T.condT rfl (decide_eq_true c2) ?_
   refine T.seq ?_
   refine T.region ?_
   refine TL.op1 (OpR.build rfl rfl rfl rfl rfl) rfl ?_
   refine TL.op0 (OpR.store 0 rfl rfl rfl rfl rfl rfl rfl rfl) ?_
   refine TL.nil ?_
   show T X _ _ _
   refine T.ret ?_
   obtain rfl := Option.some.inj h0
   exact PostG.retP (ks := []) (Gst.only [6] rfl) undef (ResL.cons (ResV.var 0 rfl rfl rfl rfl) ResL.nil) rfl rfl rfl rfl
 refine T.condF rfl (decide_eq_false c2) ?_
 refine T.skip ?_
 show T X _ _ _
 refine T.seq ?_
 refine T.region ?_
 refine TL.op1 (OpR.pure rfl) rfl ?_
 refine TL.op1 (OpR.pure rfl) rfl ?_
 refine TL.op1 (OpR.pure rfl) rfl ?_
 refine TL.op1 (OpR.pure rfl) rfl ?_
 obtain ⟨x3, hx3, h0⟩ := bnd_some h0
 refine TL.op1 (OpR.cast (OpR.pure rfl) (intE (Option.some.inj hx3))) rfl ?_
 refine TL.op1 (OpR.pure rfl) rfl ?_
 refine TL.nil ?_
 show T X _ _ _
 refine T.seq ?_
 refine T.region ?_
 refine TL.op1 (OpR.pure rfl) rfl ?_
 refine TL.op1 (OpR.pure rfl) rfl ?_
 refine TL.op1 (OpR.pure rfl) rfl ?_
 refine TL.op1 (OpR.pure rfl) rfl ?_
 refine TL.op1 (OpR.pure rfl) rfl ?_
 obtain ⟨x4, hx4, h0⟩ := bnd_some h0
 refine TL.op1 (OpR.cast (OpR.pure rfl) (intE (Option.some.inj hx4))) rfl ?_
 refine TL.op1 (OpR.pure rfl) rfl ?_
 refine TL.nil ?_
 show T X _ _ _
 refine T.seq ?_
 refine T.region ?_
 refine TL.op1 (OpR.pure rfl) rfl ?_
 refine TL.op1 (OpR.pure rfl) rfl ?_
 refine TL.op1 (OpR.pure rfl) rfl ?_
 refine TL.op1 (OpR.pure rfl) rfl ?_
 refine TL.op1 (OpR.pure rfl) rfl ?_
 refine TL.op1 (OpR.pure rfl) rfl ?_
 refine TL.op1 (OpR.pure rfl) rfl ?_
 refine TL.op1 (OpR.build rfl rfl rfl rfl rfl) rfl ?_
 refine TL.op0 (OpR.store 0 rfl rfl rfl rfl rfl rfl rfl rfl) ?_
 refine TL.nil ?_
 show T X _ _ _
 refine T.ret ?_
 obtain rfl := Option.some.inj h0
 exact PostG.retP (ks := []) (Gst.only [6] rfl) undef (ResL.cons (ResV.var 0 rfl rfl rfl rfl) ResL.nil) rfl rfl rfl rfl
noncomputable def piece_Text_Slice_1_2 (a0 : Int) (a1 : arena_Span) (a2 : Int) (a3 : Int) (a4 : Int) (a5 : List arena_Span) : Option (Bool × Int × (List arena_Span)) :=
  bnd (arena_Sub a1 (w64 (a3 - a0)) (if 0 > (w64 (a4 - a0)) then 0 else (w64 (a4 - a0)))) fun x1 =>
  bnd (piece_Text_with_2 x1 a2 a5) fun x2 =>
  some (decide ((w64 (a0 + a1.fN)) < a4), x2.1, x2.2)
set_option maxHeartbeats 4000000 in
theorem piece_Text_Slice_1_2_c {a0 : Int} {a1 : arena_Span} {a2 : Int} {a3 : Int} {a4 : Int} {a5 : List arena_Span} {b0 : Nat} {b1 : Nat} {b2 : Nat} {v3 : Value} {res : Bool × Int × (List arena_Span)} (h0 : piece_Text_Slice_1_2 a0 a1 a2 a3 a4 a5 = some res) : CallF X 182 [.val (.int .i64 a0), .agg [.val (.int .i64 a1.fAt), .val (.int .i64 a1.fN)], .val (.pointer (some ⟨b0, 0, none⟩)), .val (.pointer (some ⟨b1, 0, none⟩)), .val (.pointer (some ⟨b2, 0, none⟩))] [.var b0 [.val v3, .val (.int .i64 a2)] 82, .var b1 [.val (.int .i64 a3)] 3, .var b2 [.val (.int .i64 a4)] 3, .row v3 (List.map e_arena_Span a5) 2 88] (fun x => .val (.bool res.1)) (fun x => [.var b0 [.val (vn x 0), .val (.int .i64 res.2.1)] 82, .var b1 [.val (.int .i64 a3)] 3, .var b2 [.val (.int .i64 a4)] 3, .row (vn x 0) (List.map e_arena_Span res.2.2) 2 88]) := by
 unfold piece_Text_Slice_1_2 at h0
 refine CallF.mkG (X := X) Try.func182 rfl rfl Try.ntmps182 rfl rfl ?_
 refine T.seq ?_
 refine T.region ?_
 refine TL.op1 (OpR.boxImm rfl rfl) rfl ?_
 refine TL.op1 (OpR.pure rfl) rfl ?_
 refine TL.nil ?_
 show T X _ _ _
 refine T.seq ?_
 refine T.region ?_
 refine TL.op1 (OpR.pure rfl) rfl ?_
 refine TL.op1 (OpR.loadPtr 1 rfl rfl rfl rfl) rfl ?_
 refine TL.op1 (OpR.pure rfl) rfl ?_
 refine TL.op1 (OpR.pure rfl) rfl ?_
 refine TL.op1 (OpR.loadPtr 2 rfl rfl rfl rfl) rfl ?_
 refine TL.op1 (OpR.pure rfl) rfl ?_
 refine TL.op1 (OpR.pure rfl) rfl ?_
 refine TL.op1 (OpR.pure rfl) rfl ?_
 obtain ⟨x1, hx1, h0⟩ := bnd_some h0
 refine TL.op1 (OpR.call0 fn183 (arena_Sub_c hx1) rfl) rfl ?_
 obtain ⟨x2, hx2, h0⟩ := bnd_some h0
 refine TL.op (OpR.call [0, 3] fn81 (piece_Text_with_2_c hx2) rfl rfl rfl (fun _ => rfl)) rfl (fun w3 => ?_)
 refine TL.nil ?_
 show T X _ _ _
 refine T.seq ?_
 refine T.region ?_
 refine TL.op1 (OpR.pure rfl) rfl ?_
 refine TL.op1 (OpR.pure rfl) rfl ?_
 refine TL.op1 (OpR.pure rfl) rfl ?_
 refine TL.op1 (OpR.pure rfl) rfl ?_
 refine TL.op1 (OpR.loadPtr 2 rfl rfl rfl rfl) rfl ?_
 refine TL.op1 (OpR.pure rfl) rfl ?_
 refine TL.op1 (OpR.pure rfl) rfl ?_
 refine TL.nil ?_
 show T X _ _ _
 refine T.ret ?_
 obtain rfl := Option.some.inj h0
 exact PostG.retP (ks := [0, 1, 2, 3]) (Gst.only [7] rfl) (.tuple #[(vn w3 0)]) (ResL.cons (ResV.tmp rfl) ResL.nil) rfl rfl rfl rfl
noncomputable def piece_Text_each.l1 (a0 : piece_Text) (a2 : Int) (a3 : Int) (s5 : Int × Int × Int × (List arena_Span)) : Option (Lp (Int × Int × Int × (List arena_Span)) (Ex (Int × (List arena_Span)) (Int × (List arena_Span)))) :=
  if s5.2.1 < (a0.fL.length : Int) then
    bnd (idx a0.fL s5.2.1) fun x14 =>
    bnd (piece_Text_Slice_1_2 s5.1 x14 s5.2.2.1 a2 a3 s5.2.2.2) fun x16 =>
    if x16.1 = true then
      some (Lp.next (w64 (s5.1 + x14.fN), w64 (s5.2.1 + 1), x16.2.1, x16.2.2))
    else
      some (Lp.done (Ex.ret (x16.2.1, x16.2.2)))
  else
    some (Lp.done (Ex.brk (s5.2.2.1, s5.2.2.2)))
noncomputable def piece_Text_each (a0 : piece_Text) (a1 : Int) (a2 : Int) (a3 : Int) : Option (Int × (List arena_Span)) :=
  bnd (loop (piece_Text_each.l1 a0 a2 a3) (0, 0, a1, []) : Option (Ex (Int × (List arena_Span)) (Int × (List arena_Span)))) fun t1 => match t1 with
    | .brk u2 =>
      some (u2.1, u2.2)
    | .ret u2 => some u2
set_option maxHeartbeats 4000000 in
theorem piece_Text_each_c {a0 : piece_Text} {a1 : Int} {a2 : Int} {a3 : Int} {b0 : Nat} {b1 : Nat} {b2 : Nat} {res : Int × (List arena_Span)} (h0 : piece_Text_each a0 a1 a2 a3 = some res) : CallF X 181 [.agg [.sl 2 (List.map e_arena_Span a0.fL), .val (.int .i64 a0.fN)], .fn (.func 182) [] [.val (.pointer (some ⟨b0, 0, none⟩)), .val (.pointer (some ⟨b1, 0, none⟩)), .val (.pointer (some ⟨b2, 0, none⟩))]] [.var b0 [.val (.slice none 0 0), .val (.int .i64 a1)] 82, .var b1 [.val (.int .i64 a2)] 3, .var b2 [.val (.int .i64 a3)] 3] (fun x => .tup []) (fun x => [.var b0 [.val (vn x 0), .val (.int .i64 res.1)] 82, .var b1 [.val (.int .i64 a2)] 3, .var b2 [.val (.int .i64 a3)] 3, .row (vn x 0) (List.map e_arena_Span res.2) 2 88]) := by
 unfold piece_Text_each at h0
 refine CallF.mkG (X := X) Try.func181 rfl rfl Try.ntmps181 rfl rfl ?_
 refine T.seq ?_
 refine T.region ?_
 refine TL.op1 (OpR.boxImm rfl rfl) rfl ?_
 refine TL.nil ?_
 show T X _ _ _
 refine T.seq ?_
 refine T.region ?_
 refine TL.op1 (OpR.pure rfl) rfl ?_
 refine TL.nil ?_
 show T X _ _ _
 refine T.seq ?_
 refine T.region ?_
 refine TL.op1 (OpR.pure rfl) rfl ?_
 refine TL.op1 (OpR.pure rfl) rfl ?_
 refine TL.op1 (OpR.cast (OpR.pure rfl) (intE (lenM _ _))) rfl ?_
 refine TL.op1 (OpR.pure rfl) rfl ?_
 refine TL.nil ?_
 show T X _ _ _
 obtain ⟨t1, ht1, h0⟩ := bnd_some h0
 refine T.cutN (fun S' => ∃ u2, t1 = Ex.brk u2 ∧ ∃ y3 : Value, S' = ⟨[], [.var b0 [.val y3, .val (.int .i64 u2.1)] 82, .var b1 [.val (.int .i64 a2)] 3, .var b2 [.val (.int .i64 a3)] 3, .row y3 (List.map e_arena_Span u2.2) 2 88], 24⟩) (fun _ _ g ⟨h, S', ds, g', r⟩ => ⟨h, S', ds, Gst.trans g g', r⟩) ?_ ?_
 rotate_left
 · rintro _ ⟨u2, rfl, y3, rfl⟩
   obtain rfl := Option.some.inj h0
   exact PostG.finP (ks := [0, 1, 2, 3]) (Gst.only [] rfl) (.tuple #[y3]) ResL.nil rfl rfl rfl rfl
 refine T.block ?_
 obtain ⟨n6, n11⟩ := loop_some ht1
 refine T.loop (fun n S' => ∃ S'', Gst S' S'' ∧ ∃ y4 : Value, ∃ s5 : Int × Int × Int × (List arena_Span), S'' = ⟨[(10, .val (.int .i64 s5.2.1)), (9, .val (.int .i64 (a0.fL.length : Int))), (8, .sl 2 (List.map e_arena_Span a0.fL)), (4, .val (.int .i64 s5.1)), (1, .fn (.func 182) [] [.val (.pointer (some ⟨b0, 0, none⟩)), .val (.pointer (some ⟨b1, 0, none⟩)), .val (.pointer (some ⟨b2, 0, none⟩))])], [.var b0 [.val y4, .val (.int .i64 s5.2.2.1)] 82, .var b1 [.val (.int .i64 a2)] 3, .var b2 [.val (.int .i64 a3)] 3, .row y4 (List.map e_arena_Span s5.2.2.2) 2 88], 24⟩ ∧ iter (piece_Text_each.l1 a0 a2 a3) n s5 = some t1) n6 ?_ ?_
 · exact ⟨_, Gst.trans (Gst.only [1, 4, 8, 9, 10] rfl) (Gst.nilRow (ow := [.var b0 [.val (.slice none 0 0), .val (.int .i64 a1)] 82, .var b1 [.val (.int .i64 a2)] 3, .var b2 [.val (.int .i64 a3)] 3]) 2 88 rfl), (.slice none 0 0), (0, 0, a1, []), rfl, n11⟩
 rintro n6 _ ⟨_, g, y4, s5, rfl, i10⟩
 refine T.ghost g ?_
 obtain ⟨m7, q8, rfl, q9, i10⟩ := iter_succ i10
 unfold piece_Text_each.l1 at q9
 refine T.seq ?_
 refine T.region ?_
 refine TL.op1 (OpR.pure rfl) rfl ?_
 refine TL.nil ?_
 show T X _ _ _
 refine T.seq ?_
 rcases ite_some q9 with ⟨c13, q9⟩ | ⟨c13, q9⟩
 rotate_left
 · refine T.condF rfl (decide_eq_false c13) ?_
   refine T.exit ?_
   obtain rfl := Option.some.inj q9
   obtain rfl : _ = _ := i10
   exact ⟨_, Gst.only [] rfl, _, rfl, y4, rfl⟩
 refine T.condT rfl (decide_eq_true c13) ?_
 refine T.skip ?_
 show T X _ _ _
 refine T.seq ?_
 refine T.block ?_
 refine T.seq ?_
 refine T.region ?_
 obtain ⟨x14, hx14, q9⟩ := bnd_some q9
 refine TL.op1 (OpR.indexM e_arena_Span hx14 rfl rfl rfl rfl rfl) rfl ?_
 refine TL.op1 (OpR.pure rfl) rfl ?_
 refine TL.op (OpR.alloc rfl rfl (fun _ => rfl)) rfl (fun p15 => ?_)
 refine TL.op0 (OpR.store 4 rfl rfl rfl rfl rfl rfl rfl rfl) ?_
 refine TL.nil ?_
 show T X _ _ _
 refine T.seq ?_
 refine T.seq ?_
 refine T.region ?_
 refine TL.op1 (OpR.pure rfl) rfl ?_
 refine TL.op1 (OpR.pure rfl) rfl ?_
 refine TL.op1 (OpR.loadPtr 4 rfl rfl rfl rfl) rfl ?_
 obtain ⟨x16, hx16, q9⟩ := bnd_some q9
 refine TL.op (OpR.callV [0, 1, 2, 3] rfl fn182 (piece_Text_Slice_1_2_c hx16) rfl rfl rfl (fun _ => rfl)) rfl (fun w17 => ?_)
 refine TL.op1 (OpR.pure rfl) rfl ?_
 refine TL.nil ?_
 show T X _ _ _
 rcases ite_some q9 with ⟨c18, q9⟩ | ⟨c18, q9⟩
 rotate_left
 · refine T.condT rfl (not_f (eq_false_of_ne_true c18)) ?_
   refine T.ret ?_
   obtain rfl := Option.some.inj q9
   obtain rfl : _ = _ := i10
   obtain rfl := Option.some.inj h0
   exact PostG.retP (ks := [0, 1, 2, 3]) (Gst.trans (Gst.only [] rfl) (Gst.pick [0, 1, 2, 3] rfl rfl)) (.tuple #[(vn w17 0)]) ResL.nil rfl rfl rfl rfl
 refine T.condF rfl (not_t (c18)) ?_
 refine T.skip ?_
 show T X _ _ _
 refine T.region ?_
 refine TL.op1 (OpR.pure rfl) rfl ?_
 refine TL.op1 (OpR.pure rfl) rfl ?_
 refine TL.op1 (OpR.loadPtr 4 rfl rfl rfl rfl) rfl ?_
 refine TL.op1 (OpR.pure rfl) rfl ?_
 refine TL.op1 (OpR.pure rfl) rfl ?_
 refine TL.nil ?_
 show T X _ _ _
 refine T.region ?_
 refine TL.op1 (OpR.pure rfl) rfl ?_
 refine TL.op1 (OpR.pure rfl) rfl ?_
 refine TL.nil ?_
 obtain rfl := Option.some.inj q9
 exact ⟨m7, Nat.lt_succ_self _, _, Gst.trans (Gst.only [1, 4, 8, 9, 10] rfl) (Gst.pick [0, 1, 2, 3] rfl rfl), (vn w17 0), (w64 (s5.1 + x14.fN), w64 (s5.2.1 + 1), x16.2.1, x16.2.2), rfl, i10⟩
noncomputable def piece_Text_Slice (a0 : piece_Text) (a1 : Int) (a2 : Int) : Option piece_Text :=
  bnd (piece_Text_place a0 a1) fun x5 =>
  bnd (piece_Text_place a0 a2) fun x6 =>
  bnd (piece_Text_each a0 0 x5 x6) fun x8 =>
  if x6 ≤ x5 then
    some (⟨[], 0⟩ : piece_Text)
  else
    some (⟨x8.2, x8.1⟩ : piece_Text)
set_option maxHeartbeats 4000000 in
theorem piece_Text_Slice_c {a0 : piece_Text} {a1 : Int} {a2 : Int} {res : piece_Text} (h0 : piece_Text_Slice a0 a1 a2 = some res) : CallF X 141 [.agg [.sl 2 (List.map e_arena_Span a0.fL), .val (.int .i64 a0.fN)], .val (.int .i64 a1), .val (.int .i64 a2)] [] (fun x => .agg [.sl 2 (List.map e_arena_Span res.fL), .val (.int .i64 res.fN)]) (fun x => []) := by
 unfold piece_Text_Slice at h0
 refine CallF.mkG (X := X) Try.func141 rfl rfl Try.ntmps141 rfl rfl ?_
 refine T.seq ?_
 refine T.region ?_
 refine TL.op1 (OpR.boxImm rfl rfl) rfl ?_
 refine TL.op (OpR.boxVar rfl rfl (fun _ => rfl)) rfl (fun p1 => ?_)
 refine TL.op (OpR.boxVar rfl rfl (fun _ => rfl)) rfl (fun p2 => ?_)
 refine TL.op (OpR.alloc rfl rfl (fun _ => rfl)) rfl (fun p3 => ?_)
 refine TL.nil ?_
 show T X _ _ _
 refine T.seq ?_
 obtain ⟨x5, hx5, h0⟩ := bnd_some h0
 obtain ⟨x6, hx6, h0⟩ := bnd_some h0
 refine T.drawS drawsX (fun env4 => [.agg [.sl 2 (List.map e_arena_Span a0.fL), .val (.int .i64 a0.fN)], .val (.int .i64 a1), .val (.int .i64 x5), .agg [.sl 2 (List.map e_arena_Span a0.fL), .val (.int .i64 a0.fN)], .val (.int .i64 a2), .val (.int .i64 x6), .dead, .dead]) (fun D env4 => [(bif D 6 then .var (blk p1) [.val (.int .i64 x5)] 3 else .var (blk p1) [.val (.int .i64 a1)] 3), (bif D 7 then .var (blk p2) [.val (.int .i64 x6)] 3 else .var (blk p2) [.val (.int .i64 a2)] 3), .var (blk p3) [.val (.slice none 0 0), .val (.int .i64 0)] 82]) [0, 0, 3, 0, 0, 31, 63, 127] [0, 1, 2, 3, 4, 5, 6, 8, 9, 10, 11, 12, 13] (fun env4 => [.var (blk p1) [.val (.int .i64 x5)] 3, .var (blk p2) [.val (.int .i64 x6)] 3, .var (blk p3) [.val (.slice none 0 0), .val (.int .i64 0)] 82]) (by decide +kernel) (by decide +kernel) (fun _ => rfl) (fun _ => rfl) ?_ (fun _ => rfl) (fun _ => rfl) ?_
 rotate_left
 · intro env4
   show T X _ _ _
   refine T.seq ?_
   refine T.region ?_
   refine TL.op (OpR.alloc rfl rfl (fun _ => rfl)) rfl (fun p7 => ?_)
   refine TL.nil ?_
   show T X _ _ _
   refine T.seq ?_
   refine T.region ?_
   refine TL.op1 (OpR.pure rfl) rfl ?_
   refine TL.op1 (OpR.pure rfl) rfl ?_
   obtain ⟨x8, hx8, h0⟩ := bnd_some h0
   refine TL.op (OpR.call [3, 0, 1] fn181 (piece_Text_each_c hx8) rfl rfl rfl (fun _ => rfl)) rfl (fun w9 => ?_)
   refine TL.nil ?_
   show T X _ _ _
   refine T.seq ?_
   refine T.seq ?_
   refine T.region ?_
   refine TL.op1 (OpR.loadPtr 1 rfl rfl rfl rfl) rfl ?_
   refine TL.op1 (OpR.loadPtr 0 rfl rfl rfl rfl) rfl ?_
   refine TL.op1 (OpR.pure rfl) rfl ?_
   refine TL.nil ?_
   show T X _ _ _
   rcases ite_some h0 with ⟨c10, h0⟩ | ⟨c10, h0⟩
   · refine T.condT rfl (decide_eq_true c10) ?_
     refine T.seq ?_
     refine T.region ?_
     refine TL.op1 (OpR.build rfl rfl rfl rfl rfl) rfl ?_
     refine TL.op0 (OpR.store 2 rfl rfl rfl rfl rfl rfl rfl rfl) ?_
     refine TL.nil ?_
     show T X _ _ _
     refine T.ret ?_
     obtain rfl := Option.some.inj h0
     exact PostG.retP (ks := []) (Gst.trans (Gst.only [6] rfl) (Gst.trans (Gst.denil (ReS.cons Re.refl ReS.nil) (ReO.same (ReO.same (ReO.var (ReL.cons (Re.base .nil) (ReL.cons Re.refl ReL.nil)) (ReO.same (ReO.same ReO.nil)))))) (Gst.pick [2] rfl rfl))) undef (ResL.cons (ResV.var 0 rfl rfl rfl rfl) ResL.nil) rfl rfl rfl rfl
   refine T.condF rfl (decide_eq_false c10) ?_
   refine T.skip ?_
   show T X _ _ _
   refine T.seq ?_
   refine T.region ?_
   refine TL.op1 (OpR.loadPtr 3 rfl rfl rfl rfl) rfl ?_
   refine TL.op0 (OpR.store 2 rfl rfl rfl rfl rfl rfl rfl rfl) ?_
   refine TL.nil ?_
   show T X _ _ _
   refine T.ret ?_
   obtain rfl := Option.some.inj h0
   exact PostG.retP (ks := []) (Gst.trans (Gst.only [6] rfl) (Gst.trans (Gst.freezeRow 4 rfl rfl (ReS.cons Re.refl ReS.nil) (ReO.same (ReO.same (ReO.var (ReL.cons (Re.base .all) (ReL.cons Re.refl ReL.nil)) (ReO.var (ReL.cons (Re.base .all) (ReL.cons Re.refl ReL.nil)) (ReO.same ReO.nil)))))) (Gst.pick [2] rfl rfl))) undef (ResL.cons (ResV.var 0 rfl rfl rfl rfl) ResL.nil) rfl rfl rfl rfl
 refine oS (d := .agg [.sl 2 (List.map e_arena_Span a0.fL), .val (.int .i64 a0.fN)]) (fun _ => Want.plain rfl) (fun _ => rfl) (fun _ _ _ => rfl) (fun _ _ => OpR.pure rfl) (fun _ _ _ _ _ _ _ => rfl) ?_
 refine OpsS.cons' true ?_ (fun _ _ _ _ _ _ _ => rfl) ?_
 · intro D env4 hA
   have e6 : D 6 = false := hA.no 6 _ rfl rfl
   have e7 : D 7 = false := hA.no 7 _ rfl rfl
   exact OpS.yes (o0 := [.var (blk p1) [.val (.int .i64 a1)] 3, .var (blk p2) [.val (.int .i64 a2)] 3, .var (blk p3) [.val (.slice none 0 0), .val (.int .i64 0)] 82]) (o1 := fun x => [.var (blk p1) [.val (.int .i64 a1)] 3, .var (blk p2) [.val (.int .i64 a2)] 3, .var (blk p3) [.val (.slice none 0 0), .val (.int .i64 0)] 82]) (d := fun x => .val (.int .i64 a1)) (Want.plain rfl) (by first | rfl | simp only [e6, e7, cond_true, cond_false, List.cons_append, List.nil_append, List.append_nil]) (fun x => by first | rfl | simp only [ins_self, ins_ne D (show 1 ≠ 6 by decide), ins_ne D (show 1 ≠ 7 by decide), upd_self, e6, e7, cond_true, cond_false, List.cons_append, List.nil_append, List.append_nil]) (fun x => rfl) (OpR.loadPtr 0 rfl rfl rfl rfl)
 refine oS (d := .val (.int .i64 x5)) (fun _ => Want.plain rfl) (fun _ => rfl) (fun _ _ _ => rfl) (fun _ _ => OpR.call0 fn139 (piece_Text_place_c hx5) rfl) (fun _ _ _ _ _ _ _ => rfl) ?_
 refine oS (d := .agg [.sl 2 (List.map e_arena_Span a0.fL), .val (.int .i64 a0.fN)]) (fun _ => Want.plain rfl) (fun _ => rfl) (fun _ _ _ => rfl) (fun _ _ => OpR.pure rfl) (fun _ _ _ _ _ _ _ => rfl) ?_
 refine OpsS.cons' true ?_ (fun _ _ _ _ _ _ _ => rfl) ?_
 · intro D env4 hA
   have e6 : D 6 = false := hA.no 6 _ rfl rfl
   have e7 : D 7 = false := hA.no 7 _ rfl rfl
   exact OpS.yes (o0 := [.var (blk p1) [.val (.int .i64 a1)] 3, .var (blk p2) [.val (.int .i64 a2)] 3, .var (blk p3) [.val (.slice none 0 0), .val (.int .i64 0)] 82]) (o1 := fun x => [.var (blk p1) [.val (.int .i64 a1)] 3, .var (blk p2) [.val (.int .i64 a2)] 3, .var (blk p3) [.val (.slice none 0 0), .val (.int .i64 0)] 82]) (d := fun x => .val (.int .i64 a2)) (Want.plain rfl) (by first | rfl | simp only [e6, e7, cond_true, cond_false, List.cons_append, List.nil_append, List.append_nil]) (fun x => by first | rfl | simp only [ins_self, ins_ne D (show 4 ≠ 6 by decide), ins_ne D (show 4 ≠ 7 by decide), upd_self, e6, e7, cond_true, cond_false, List.cons_append, List.nil_append, List.append_nil]) (fun x => rfl) (OpR.loadPtr 1 rfl rfl rfl rfl)
 refine oS (d := .val (.int .i64 x6)) (fun _ => Want.plain rfl) (fun _ => rfl) (fun _ _ _ => rfl) (fun _ _ => OpR.call0 fn139 (piece_Text_place_c hx6) rfl) (fun _ _ _ _ _ _ _ => rfl) ?_
 refine OpsS.cons' true ?_ (fun _ _ _ _ _ _ _ => rfl) ?_
 · intro D env4 hA
   have e7 : D 7 = false := hA.no 7 _ rfl rfl
   exact OpS.yes (o0 := [.var (blk p1) [.val (.int .i64 a1)] 3, .var (blk p2) [.val (.int .i64 a2)] 3, .var (blk p3) [.val (.slice none 0 0), .val (.int .i64 0)] 82]) (o1 := fun x => [.var (blk p1) [.val (.int .i64 x5)] 3, .var (blk p2) [.val (.int .i64 a2)] 3, .var (blk p3) [.val (.slice none 0 0), .val (.int .i64 0)] 82]) (d := fun x => .dead) (Want.plain rfl) (by first | rfl | simp only [e7, hA.me, cond_true, cond_false, List.cons_append, List.nil_append, List.append_nil]) (fun x => by first | rfl | simp only [ins_self, ins_ne D (show 6 ≠ 7 by decide), upd_self, e7, hA.me, cond_true, cond_false, List.cons_append, List.nil_append, List.append_nil]) (fun x => rfl) (OpR.store 0 rfl rfl rfl rfl rfl rfl rfl rfl)
 refine OpsS.cons' true ?_ (fun _ _ _ _ _ _ _ => rfl) ?_
 · intro D env4 hA
   have e6 : D 6 = true := hA.yes 6 _ rfl rfl
   exact OpS.yes (o0 := [.var (blk p1) [.val (.int .i64 x5)] 3, .var (blk p2) [.val (.int .i64 a2)] 3, .var (blk p3) [.val (.slice none 0 0), .val (.int .i64 0)] 82]) (o1 := fun x => [.var (blk p1) [.val (.int .i64 x5)] 3, .var (blk p2) [.val (.int .i64 x6)] 3, .var (blk p3) [.val (.slice none 0 0), .val (.int .i64 0)] 82]) (d := fun x => .dead) (Want.plain rfl) (by first | rfl | simp only [e6, hA.me, cond_true, cond_false, List.cons_append, List.nil_append, List.append_nil]) (fun x => by first | rfl | simp only [ins_self, ins_ne D (show 7 ≠ 6 by decide), upd_self, e6, hA.me, cond_true, cond_false, List.cons_append, List.nil_append, List.append_nil]) (fun x => rfl) (OpR.store 1 rfl rfl rfl rfl rfl rfl rfl rfl)
 exact trivial
noncomputable def piece_Concat.l1 (x15 : piece_Text) (s20 : Int × Int × (List arena_Span)) : Option (Lp (Int × Int × (List arena_Span)) (Int × (List arena_Span))) :=
  if s20.1 < (x15.fL.length : Int) then
    bnd (idx x15.fL s20.1) fun x29 =>
    bnd (piece_Text_with_2 x29 s20.2.1 s20.2.2) fun x31 =>
    some (Lp.next (w64 (s20.1 + 1), x31.1, x31.2))
  else
    some (Lp.done (s20.2.1, s20.2.2))
noncomputable def piece_Concat.l2 (a0 : List piece_Text) (s6 : Int × Int × (List arena_Span)) : Option (Lp (Int × Int × (List arena_Span)) (Int × (List arena_Span))) :=
  if s6.1 < (a0.length : Int) then
    bnd (idx a0 s6.1) fun x15 =>
    bnd (loop (piece_Concat.l1 x15) (0, s6.2.1, s6.2.2) : Option (Int × (List arena_Span))) fun t17 =>
    some (Lp.next (w64 (s6.1 + 1), t17.1, t17.2))
  else
    some (Lp.done (s6.2.1, s6.2.2))
noncomputable def piece_Concat (a0 : List piece_Text) : Option piece_Text :=
  bnd (loop (piece_Concat.l2 a0) (0, 0, []) : Option (Int × (List arena_Span))) fun t3 =>
  some (⟨t3.2, t3.1⟩ : piece_Text)
set_option maxHeartbeats 4000000 in
theorem piece_Concat_c {a0 : List piece_Text} {res : piece_Text} (h0 : piece_Concat a0 = some res) : CallF X 140 [.sl 2 (List.map e_piece_Text a0)] [] (fun x => .agg [.sl 2 (List.map e_arena_Span res.fL), .val (.int .i64 res.fN)]) (fun x => []) := by
 unfold piece_Concat at h0
 refine CallF.mkG (X := X) Try.func140 rfl rfl Try.ntmps140 rfl rfl ?_
 refine T.seq ?_
 refine T.region ?_
 refine TL.op (OpR.alloc rfl rfl (fun _ => rfl)) rfl (fun p1 => ?_)
 refine TL.nil ?_
 show T X _ _ _
 refine T.seq ?_
 refine T.region ?_
 refine TL.op (OpR.alloc rfl rfl (fun _ => rfl)) rfl (fun p2 => ?_)
 refine TL.nil ?_
 show T X _ _ _
 refine T.seq ?_
 refine T.seq ?_
 refine T.region ?_
 refine TL.op1 (OpR.pure rfl) rfl ?_
 refine TL.op1 (OpR.cast (OpR.pure rfl) (intE (lenM _ _))) rfl ?_
 refine TL.op1 (OpR.pure rfl) rfl ?_
 refine TL.nil ?_
 show T X _ _ _
 obtain ⟨t3, ht3, h0⟩ := bnd_some h0
 refine T.cutC (fun S' => ∃ y4 : Value, S' = ⟨[(3, .val (.pointer (some ⟨(blk p2), 0, none⟩))), (2, .val (.pointer (some ⟨(blk p1), 0, none⟩)))], [.var (blk p1) [.val (.slice none 0 0), .val (.int .i64 0)] 82, .var (blk p2) [.val y4, .val (.int .i64 t3.1)] 82, .row y4 (List.map e_arena_Span t3.2) 2 88], 26⟩) (fun _ h => h) ?_ ?_
 rotate_left
 · rintro _ ⟨y4, rfl⟩
   show T X _ _ _
   refine T.seq ?_
   refine T.region ?_
   refine TL.op1 (OpR.loadPtr 1 rfl rfl rfl rfl) rfl ?_
   refine TL.op0 (OpR.store 0 rfl rfl rfl rfl rfl rfl rfl rfl) ?_
   refine TL.nil ?_
   show T X _ _ _
   refine T.ret ?_
   obtain rfl := Option.some.inj h0
   exact PostG.retP (ks := []) (Gst.trans (Gst.only [2] rfl) (Gst.trans (Gst.freezeRow 2 rfl rfl (ReS.cons Re.refl ReS.nil) (ReO.var (ReL.cons (Re.base .all) (ReL.cons Re.refl ReL.nil)) (ReO.var (ReL.cons (Re.base .all) (ReL.cons Re.refl ReL.nil)) (ReO.same ReO.nil)))) (Gst.pick [0] rfl rfl))) undef (ResL.cons (ResV.var 0 rfl rfl rfl rfl) ResL.nil) rfl rfl rfl rfl
 refine T.block ?_
 obtain ⟨n7, n12⟩ := loop_some ht3
 refine T.loop (fun n S' => ∃ S'', Gst S' S'' ∧ ∃ y5 : Value, ∃ s6 : Int × Int × (List arena_Span), S'' = ⟨[(10, .val (.int .i64 s6.1)), (9, .val (.int .i64 (a0.length : Int))), (8, .sl 2 (List.map e_piece_Text a0)), (3, .val (.pointer (some ⟨(blk p2), 0, none⟩))), (2, .val (.pointer (some ⟨(blk p1), 0, none⟩)))], [.var (blk p1) [.val (.slice none 0 0), .val (.int .i64 0)] 82, .var (blk p2) [.val y5, .val (.int .i64 s6.2.1)] 82, .row y5 (List.map e_arena_Span s6.2.2) 2 88], 26⟩ ∧ iter (piece_Concat.l2 a0) n s6 = some t3) n7 ?_ ?_
 · exact ⟨_, Gst.trans (Gst.only [2, 3, 8, 9, 10] rfl) (Gst.nilRow (ow := [.var (blk p1) [.val (.slice none 0 0), .val (.int .i64 0)] 82, .var (blk p2) [.val (.slice none 0 0), .val (.int .i64 0)] 82]) 2 88 rfl), (.slice none 0 0), (0, 0, []), rfl, n12⟩
 rintro n7 _ ⟨_, g, y5, s6, rfl, i11⟩
 refine T.ghost g ?_
 obtain ⟨m8, q9, rfl, q10, i11⟩ := iter_succ i11
 unfold piece_Concat.l2 at q10
 refine T.seq ?_
 refine T.region ?_
 refine TL.op1 (OpR.pure rfl) rfl ?_
 refine TL.nil ?_
 show T X _ _ _
 refine T.seq ?_
 rcases ite_some q10 with ⟨c14, q10⟩ | ⟨c14, q10⟩
 rotate_left
 · refine T.condF rfl (decide_eq_false c14) ?_
   refine T.exit ?_
   obtain rfl := Option.some.inj q10
   obtain rfl : _ = _ := i11
   exact ⟨_, Gst.only [2, 3] rfl, y5, rfl⟩
 refine T.condT rfl (decide_eq_true c14) ?_
 refine T.skip ?_
 show T X _ _ _
 refine T.seq ?_
 refine T.block ?_
 refine T.seq ?_
 refine T.region ?_
 obtain ⟨x15, hx15, q10⟩ := bnd_some q10
 refine TL.op1 (OpR.indexM e_piece_Text hx15 rfl rfl rfl rfl rfl) rfl ?_
 refine TL.op1 (OpR.pure rfl) rfl ?_
 refine TL.op (OpR.alloc rfl rfl (fun _ => rfl)) rfl (fun p16 => ?_)
 refine TL.op0 (OpR.store 3 rfl rfl rfl rfl rfl rfl rfl rfl) ?_
 refine TL.nil ?_
 show T X _ _ _
 refine T.seq ?_
 refine T.region ?_
 refine TL.op1 (OpR.pure rfl) rfl ?_
 refine TL.op1 (OpR.loadPtr 3 rfl rfl rfl rfl) rfl ?_
 refine TL.op1 (OpR.cast (OpR.pure rfl) (intE (lenM _ _))) rfl ?_
 refine TL.op1 (OpR.pure rfl) rfl ?_
 refine TL.nil ?_
 show T X _ _ _
 obtain ⟨t17, ht17, q10⟩ := bnd_some q10
 refine T.cutC (fun S' => ∃ y18 : Value, S' = ⟨[(10, .val (.int .i64 s6.1)), (9, .val (.int .i64 (a0.length : Int))), (8, .sl 2 (List.map e_piece_Text a0)), (3, .val (.pointer (some ⟨(blk p2), 0, none⟩))), (2, .val (.pointer (some ⟨(blk p1), 0, none⟩)))], [.var (blk p1) [.val (.slice none 0 0), .val (.int .i64 0)] 82, .var (blk p2) [.val y18, .val (.int .i64 t17.1)] 82, .row y18 (List.map e_arena_Span t17.2) 2 88], 26⟩) (fun _ h => h) ?_ ?_
 rotate_left
 · rintro _ ⟨y18, rfl⟩
   show T X _ _ _
   refine T.region ?_
   refine TL.op1 (OpR.pure rfl) rfl ?_
   refine TL.op1 (OpR.pure rfl) rfl ?_
   refine TL.nil ?_
   obtain rfl := Option.some.inj q10
   exact ⟨m8, Nat.lt_succ_self _, _, Gst.only [2, 3, 8, 9, 10] rfl, y18, (w64 (s6.1 + 1), t17.1, t17.2), rfl, i11⟩
 refine T.block ?_
 obtain ⟨n21, n26⟩ := loop_some ht17
 refine T.loop (fun n S' => ∃ S'', Gst S' S'' ∧ ∃ y19 : Value, ∃ s20 : Int × Int × (List arena_Span), S'' = ⟨[(17, .val (.int .i64 s20.1)), (16, .val (.int .i64 (x15.fL.length : Int))), (15, .sl 2 (List.map e_arena_Span x15.fL)), (10, .val (.int .i64 s6.1)), (9, .val (.int .i64 (a0.length : Int))), (8, .sl 2 (List.map e_piece_Text a0)), (3, .val (.pointer (some ⟨(blk p2), 0, none⟩))), (2, .val (.pointer (some ⟨(blk p1), 0, none⟩)))], [.var (blk p1) [.val (.slice none 0 0), .val (.int .i64 0)] 82, .var (blk p2) [.val y19, .val (.int .i64 s20.2.1)] 82, .row y19 (List.map e_arena_Span s20.2.2) 2 88], 26⟩ ∧ iter (piece_Concat.l1 x15) n s20 = some t17) n21 ?_ ?_
 · exact ⟨_, Gst.trans (Gst.only [2, 3, 8, 9, 10, 15, 16, 17] rfl) (Gst.pick [0, 1, 2] rfl rfl), y5, (0, s6.2.1, s6.2.2), rfl, n26⟩
 rintro n21 _ ⟨_, g, y19, s20, rfl, i25⟩
 refine T.ghost g ?_
 obtain ⟨m22, q23, rfl, q24, i25⟩ := iter_succ i25
 unfold piece_Concat.l1 at q24
 refine T.seq ?_
 refine T.region ?_
 refine TL.op1 (OpR.pure rfl) rfl ?_
 refine TL.nil ?_
 show T X _ _ _
 refine T.seq ?_
 rcases ite_some q24 with ⟨c28, q24⟩ | ⟨c28, q24⟩
 rotate_left
 · refine T.condF rfl (decide_eq_false c28) ?_
   refine T.exit ?_
   obtain rfl := Option.some.inj q24
   obtain rfl : _ = _ := i25
   exact ⟨_, Gst.only [2, 3, 8, 9, 10] rfl, y19, rfl⟩
 refine T.condT rfl (decide_eq_true c28) ?_
 refine T.skip ?_
 show T X _ _ _
 refine T.seq ?_
 refine T.block ?_
 refine T.seq ?_
 refine T.region ?_
 obtain ⟨x29, hx29, q24⟩ := bnd_some q24
 refine TL.op1 (OpR.indexM e_arena_Span hx29 rfl rfl rfl rfl rfl) rfl ?_
 refine TL.op1 (OpR.pure rfl) rfl ?_
 refine TL.op (OpR.alloc rfl rfl (fun _ => rfl)) rfl (fun p30 => ?_)
 refine TL.op0 (OpR.store 3 rfl rfl rfl rfl rfl rfl rfl rfl) ?_
 refine TL.nil ?_
 show T X _ _ _
 refine T.region ?_
 refine TL.op1 (OpR.loadPtr 3 rfl rfl rfl rfl) rfl ?_
 obtain ⟨x31, hx31, q24⟩ := bnd_some q24
 refine TL.op (OpR.call [1, 2] fn81 (piece_Text_with_2_c hx31) rfl rfl rfl (fun _ => rfl)) rfl (fun w32 => ?_)
 refine TL.nil ?_
 show T X _ _ _
 refine T.region ?_
 refine TL.op1 (OpR.pure rfl) rfl ?_
 refine TL.op1 (OpR.pure rfl) rfl ?_
 refine TL.nil ?_
 obtain rfl := Option.some.inj q24
 exact ⟨m22, Nat.lt_succ_self _, _, Gst.trans (Gst.only [2, 3, 8, 9, 10, 15, 16, 17] rfl) (Gst.pick [0, 1, 2] rfl rfl), (vn w32 0), (w64 (s20.1 + 1), x31.1, x31.2), rfl, i25⟩
noncomputable def piece_Text_Delete (a0 : piece_Text) (a1 : Int) (a2 : Int) : Option piece_Text :=
  bnd (piece_Text_place a0 a1) fun x2 =>
  bnd (piece_Text_Slice a0 0 x2) fun x4 =>
  bnd (piece_Text_place a0 a2) fun x5 =>
  bnd (piece_Text_Slice a0 (if x5 > x2 then x5 else x2) a0.fN) fun x6 =>
  bnd (piece_Concat [x4, x6]) fun x7 =>
  some x7
set_option maxHeartbeats 4000000 in
theorem piece_Text_Delete_c {a0 : piece_Text} {a1 : Int} {a2 : Int} {res : piece_Text} (h0 : piece_Text_Delete a0 a1 a2 = some res) : CallF X 84 [.agg [.sl 2 (List.map e_arena_Span a0.fL), .val (.int .i64 a0.fN)], .val (.int .i64 a1), .val (.int .i64 a2)] [] (fun x => .agg [.sl 2 (List.map e_arena_Span res.fL), .val (.int .i64 res.fN)]) (fun x => []) := by
 unfold piece_Text_Delete at h0
 refine CallF.mkG (X := X) Try.func84 rfl rfl Try.ntmps84 rfl rfl ?_
 refine T.seq ?_
 refine T.region ?_
 refine TL.op1 (OpR.boxImm rfl rfl) rfl ?_
 refine TL.op (OpR.alloc rfl rfl (fun _ => rfl)) rfl (fun p1 => ?_)
 refine TL.nil ?_
 show T X _ _ _
 refine T.seq ?_
 refine T.region ?_
 refine TL.op1 (OpR.pure rfl) rfl ?_
 refine TL.op1 (OpR.pure rfl) rfl ?_
 obtain ⟨x2, hx2, h0⟩ := bnd_some h0
 refine TL.op1 (OpR.call0 fn139 (piece_Text_place_c hx2) rfl) rfl ?_
 refine TL.op1 (OpR.pure rfl) rfl ?_
 refine TL.nil ?_
 show T X _ _ _
 refine T.seq ?_
 obtain ⟨x4, hx4, h0⟩ := bnd_some h0
 obtain ⟨x5, hx5, h0⟩ := bnd_some h0
 obtain ⟨x6, hx6, h0⟩ := bnd_some h0
 obtain ⟨x7, hx7, h0⟩ := bnd_some h0
 refine T.drawS drawsX (fun env3 => [.agg [.sl 2 (List.map e_arena_Span a0.fL), .val (.int .i64 a0.fN)], .val (.int .i64 x2), .agg [.sl 2 (List.map e_arena_Span x4.fL), .val (.int .i64 x4.fN)], .agg [.sl 2 (List.map e_arena_Span a0.fL), .val (.int .i64 a0.fN)], .val (.int .i64 x2), .agg [.sl 2 (List.map e_arena_Span a0.fL), .val (.int .i64 a0.fN)], .val (.int .i64 a2), .val (.int .i64 x5), .val (.int .i64 (if x5 > x2 then x5 else x2)), .nod [.val (.int .i64 a0.fN)], .val (.int .i64 a0.fN), .agg [.sl 2 (List.map e_arena_Span x6.fL), .val (.int .i64 x6.fN)], .sl 2 (List.map e_piece_Text [x4, x6]), .agg [.sl 2 (List.map e_arena_Span x7.fL), .val (.int .i64 x7.fN)], .dead]) (fun D env3 => [(bif D 14 then .var (blk p1) [.sl 2 (List.map e_arena_Span x7.fL), .val (.int .i64 x7.fN)] 82 else .var (blk p1) [.val (.slice none 0 0), .val (.int .i64 0)] 82)]) [0, 0, 3, 0, 0, 0, 0, 103, 247, 0, 512, 2047, 4095, 8191, 16383] [0, 1, 2, 3, 6, 7, 8, 9, 10, 11, 12, 13, 14, 15, 16, 17, 18, 19, 20, 21, 22, 23] (fun env3 => [.var (blk p1) [.sl 2 (List.map e_arena_Span x7.fL), .val (.int .i64 x7.fN)] 82]) (by decide +kernel) (by decide +kernel) (fun _ => rfl) (fun _ => rfl) ?_ (fun _ => rfl) (fun _ => rfl) ?_
 rotate_left
 · intro env3
   show T X _ _ _
   refine T.ret ?_
   obtain rfl := Option.some.inj h0
   exact PostG.retP (ks := []) (Gst.only [6] rfl) undef (ResL.cons (ResV.var 0 rfl rfl rfl rfl) ResL.nil) rfl rfl rfl rfl
 refine oS (d := .agg [.sl 2 (List.map e_arena_Span a0.fL), .val (.int .i64 a0.fN)]) (fun _ => Want.plain rfl) (fun _ => rfl) (fun _ _ _ => rfl) (fun _ _ => OpR.pure rfl) (fun _ _ _ _ _ _ _ => rfl) ?_
 refine oS (d := .val (.int .i64 x2)) (fun _ => Want.plain rfl) (fun _ => rfl) (fun _ _ _ => rfl) (fun _ _ => OpR.pure rfl) (fun _ _ _ _ _ _ _ => rfl) ?_
 refine oS (d := .agg [.sl 2 (List.map e_arena_Span x4.fL), .val (.int .i64 x4.fN)]) (fun _ => Want.plain rfl) (fun _ => rfl) (fun _ _ _ => rfl) (fun _ _ => OpR.call0 fn141 (piece_Text_Slice_c hx4) rfl) (fun _ _ _ _ _ _ _ => rfl) ?_
 refine oS (d := .agg [.sl 2 (List.map e_arena_Span a0.fL), .val (.int .i64 a0.fN)]) (fun _ => Want.plain rfl) (fun _ => rfl) (fun _ _ _ => rfl) (fun _ _ => OpR.pure rfl) (fun _ _ _ _ _ _ _ => rfl) ?_
 refine oS (d := .val (.int .i64 x2)) (fun _ => Want.plain rfl) (fun _ => rfl) (fun _ _ _ => rfl) (fun _ _ => OpR.pure rfl) (fun _ _ _ _ _ _ _ => rfl) ?_
 refine oS (d := .agg [.sl 2 (List.map e_arena_Span a0.fL), .val (.int .i64 a0.fN)]) (fun _ => Want.plain rfl) (fun _ => rfl) (fun _ _ _ => rfl) (fun _ _ => OpR.pure rfl) (fun _ _ _ _ _ _ _ => rfl) ?_
 refine oS (d := .val (.int .i64 a2)) (fun _ => Want.plain rfl) (fun _ => rfl) (fun _ _ _ => rfl) (fun _ _ => OpR.pure rfl) (fun _ _ _ _ _ _ _ => rfl) ?_
 refine oS (d := .val (.int .i64 x5)) (fun _ => Want.plain rfl) (fun _ => rfl) (fun _ _ _ => rfl) (fun _ _ => OpR.call0 fn139 (piece_Text_place_c hx5) rfl) (fun _ _ _ _ _ _ _ => rfl) ?_
 refine oS (d := .val (.int .i64 (if x5 > x2 then x5 else x2))) (fun _ => Want.plain rfl) (fun _ => rfl) (fun _ _ _ => rfl) (fun _ _ => OpR.pure rfl) (fun _ _ _ _ _ _ _ => rfl) ?_
 refine oS (d := .nod [.val (.int .i64 a0.fN)]) (fun _ => Want.plain rfl) (fun _ => rfl) (fun _ _ _ => rfl) (fun _ _ => OpR.pure rfl) (fun _ _ _ _ _ _ _ => rfl) ?_
 refine oS (d := .val (.int .i64 a0.fN)) (fun _ => Want.plain rfl) (fun _ => rfl) (fun _ _ _ => rfl) (fun _ _ => OpR.pure rfl) (fun _ _ _ _ _ _ _ => rfl) ?_
 refine oS (d := .agg [.sl 2 (List.map e_arena_Span x6.fL), .val (.int .i64 x6.fN)]) (fun _ => Want.plain rfl) (fun _ => rfl) (fun _ _ _ => rfl) (fun _ _ => OpR.call0 fn141 (piece_Text_Slice_c hx6) rfl) (fun _ _ _ _ _ _ _ => rfl) ?_
 refine oS (d := .sl 2 (List.map e_piece_Text [x4, x6])) (fun _ => Want.plain rfl) (fun _ => rfl) (fun _ _ _ => rfl) (fun _ _ => OpR.lit rfl rfl rfl rfl rfl rfl rfl) (fun _ _ _ _ _ _ _ => rfl) ?_
 refine oS (d := .agg [.sl 2 (List.map e_arena_Span x7.fL), .val (.int .i64 x7.fN)]) (fun _ => Want.plain rfl) (fun _ => rfl) (fun _ _ _ => rfl) (fun _ _ => OpR.call0 fn140 (piece_Concat_c hx7) rfl) (fun _ _ _ _ _ _ _ => rfl) ?_
 refine OpsS.cons' true ?_ (fun _ _ _ _ _ _ _ => rfl) ?_
 · intro D env3 hA
   exact OpS.yes (o0 := [.var (blk p1) [.val (.slice none 0 0), .val (.int .i64 0)] 82]) (o1 := fun x => [.var (blk p1) [.sl 2 (List.map e_arena_Span x7.fL), .val (.int .i64 x7.fN)] 82]) (d := fun x => .dead) (Want.plain rfl) (by first | rfl | simp only [hA.me, cond_true, cond_false, List.cons_append, List.nil_append, List.append_nil]) (fun x => by first | rfl | simp only [ins_self, upd_self, hA.me, cond_true, cond_false, List.cons_append, List.nil_append, List.append_nil]) (fun x => rfl) (OpR.store 0 rfl rfl rfl rfl rfl rfl rfl rfl)
 exact trivial
noncomputable def piece_Text_Insert (a0 : piece_Text) (a1 : Int) (a2 : piece_Text) : Option piece_Text :=
  bnd (piece_Text_Slice a0 0 a1) fun x3 =>
  bnd (piece_Text_Slice a0 a1 a0.fN) fun x4 =>
  bnd (piece_Concat [x3, a2, x4]) fun x5 =>
  some x5
set_option maxHeartbeats 4000000 in
theorem piece_Text_Insert_c {a0 : piece_Text} {a1 : Int} {a2 : piece_Text} {res : piece_Text} (h0 : piece_Text_Insert a0 a1 a2 = some res) : CallF X 85 [.agg [.sl 2 (List.map e_arena_Span a0.fL), .val (.int .i64 a0.fN)], .val (.int .i64 a1), .agg [.sl 2 (List.map e_arena_Span a2.fL), .val (.int .i64 a2.fN)]] [] (fun x => .agg [.sl 2 (List.map e_arena_Span res.fL), .val (.int .i64 res.fN)]) (fun x => []) := by
 unfold piece_Text_Insert at h0
 refine CallF.mkG (X := X) Try.func85 rfl rfl Try.ntmps85 rfl rfl ?_
 refine T.seq ?_
 refine T.region ?_
 refine TL.op1 (OpR.boxImm rfl rfl) rfl ?_
 refine TL.op1 (OpR.boxImm rfl rfl) rfl ?_
 refine TL.op (OpR.alloc rfl rfl (fun _ => rfl)) rfl (fun p1 => ?_)
 refine TL.nil ?_
 show T X _ _ _
 refine T.seq ?_
 obtain ⟨x3, hx3, h0⟩ := bnd_some h0
 obtain ⟨x4, hx4, h0⟩ := bnd_some h0
 obtain ⟨x5, hx5, h0⟩ := bnd_some h0
 refine T.drawS drawsX (fun env2 => [.agg [.sl 2 (List.map e_arena_Span a0.fL), .val (.int .i64 a0.fN)], .val (.int .i64 a1), .agg [.sl 2 (List.map e_arena_Span x3.fL), .val (.int .i64 x3.fN)], .agg [.sl 2 (List.map e_arena_Span a2.fL), .val (.int .i64 a2.fN)], .agg [.sl 2 (List.map e_arena_Span a0.fL), .val (.int .i64 a0.fN)], .val (.int .i64 a1), .nod [.val (.int .i64 a0.fN)], .val (.int .i64 a0.fN), .agg [.sl 2 (List.map e_arena_Span x4.fL), .val (.int .i64 x4.fN)], .sl 2 (List.map e_piece_Text [x3, a2, x4]), .agg [.sl 2 (List.map e_arena_Span x5.fL), .val (.int .i64 x5.fN)], .dead]) (fun D env2 => [(bif D 11 then .var (blk p1) [.sl 2 (List.map e_arena_Span x5.fL), .val (.int .i64 x5.fN)] 82 else .var (blk p1) [.val (.slice none 0 0), .val (.int .i64 0)] 82)]) [0, 0, 3, 0, 0, 0, 0, 64, 247, 511, 1023, 2047] [0, 1, 2, 3, 5, 6, 7, 8, 9, 10, 11, 12, 13, 14, 15, 16, 17] (fun env2 => [.var (blk p1) [.sl 2 (List.map e_arena_Span x5.fL), .val (.int .i64 x5.fN)] 82]) (by decide +kernel) (by decide +kernel) (fun _ => rfl) (fun _ => rfl) ?_ (fun _ => rfl) (fun _ => rfl) ?_
 rotate_left
 · intro env2
   show T X _ _ _
   refine T.ret ?_
   obtain rfl := Option.some.inj h0
   exact PostG.retP (ks := []) (Gst.only [6] rfl) undef (ResL.cons (ResV.var 0 rfl rfl rfl rfl) ResL.nil) rfl rfl rfl rfl
 refine oS (d := .agg [.sl 2 (List.map e_arena_Span a0.fL), .val (.int .i64 a0.fN)]) (fun _ => Want.plain rfl) (fun _ => rfl) (fun _ _ _ => rfl) (fun _ _ => OpR.pure rfl) (fun _ _ _ _ _ _ _ => rfl) ?_
 refine oS (d := .val (.int .i64 a1)) (fun _ => Want.plain rfl) (fun _ => rfl) (fun _ _ _ => rfl) (fun _ _ => OpR.pure rfl) (fun _ _ _ _ _ _ _ => rfl) ?_
 refine oS (d := .agg [.sl 2 (List.map e_arena_Span x3.fL), .val (.int .i64 x3.fN)]) (fun _ => Want.plain rfl) (fun _ => rfl) (fun _ _ _ => rfl) (fun _ _ => OpR.call0 fn141 (piece_Text_Slice_c hx3) rfl) (fun _ _ _ _ _ _ _ => rfl) ?_
 refine oS (d := .agg [.sl 2 (List.map e_arena_Span a2.fL), .val (.int .i64 a2.fN)]) (fun _ => Want.plain rfl) (fun _ => rfl) (fun _ _ _ => rfl) (fun _ _ => OpR.pure rfl) (fun _ _ _ _ _ _ _ => rfl) ?_
 refine oS (d := .agg [.sl 2 (List.map e_arena_Span a0.fL), .val (.int .i64 a0.fN)]) (fun _ => Want.plain rfl) (fun _ => rfl) (fun _ _ _ => rfl) (fun _ _ => OpR.pure rfl) (fun _ _ _ _ _ _ _ => rfl) ?_
 refine oS (d := .val (.int .i64 a1)) (fun _ => Want.plain rfl) (fun _ => rfl) (fun _ _ _ => rfl) (fun _ _ => OpR.pure rfl) (fun _ _ _ _ _ _ _ => rfl) ?_
 refine oS (d := .nod [.val (.int .i64 a0.fN)]) (fun _ => Want.plain rfl) (fun _ => rfl) (fun _ _ _ => rfl) (fun _ _ => OpR.pure rfl) (fun _ _ _ _ _ _ _ => rfl) ?_
 refine oS (d := .val (.int .i64 a0.fN)) (fun _ => Want.plain rfl) (fun _ => rfl) (fun _ _ _ => rfl) (fun _ _ => OpR.pure rfl) (fun _ _ _ _ _ _ _ => rfl) ?_
 refine oS (d := .agg [.sl 2 (List.map e_arena_Span x4.fL), .val (.int .i64 x4.fN)]) (fun _ => Want.plain rfl) (fun _ => rfl) (fun _ _ _ => rfl) (fun _ _ => OpR.call0 fn141 (piece_Text_Slice_c hx4) rfl) (fun _ _ _ _ _ _ _ => rfl) ?_
 refine oS (d := .sl 2 (List.map e_piece_Text [x3, a2, x4])) (fun _ => Want.plain rfl) (fun _ => rfl) (fun _ _ _ => rfl) (fun _ _ => OpR.lit rfl rfl rfl rfl rfl rfl rfl) (fun _ _ _ _ _ _ _ => rfl) ?_
 refine oS (d := .agg [.sl 2 (List.map e_arena_Span x5.fL), .val (.int .i64 x5.fN)]) (fun _ => Want.plain rfl) (fun _ => rfl) (fun _ _ _ => rfl) (fun _ _ => OpR.call0 fn140 (piece_Concat_c hx5) rfl) (fun _ _ _ _ _ _ _ => rfl) ?_
 refine OpsS.cons' true ?_ (fun _ _ _ _ _ _ _ => rfl) ?_
 · intro D env2 hA
   exact OpS.yes (o0 := [.var (blk p1) [.val (.slice none 0 0), .val (.int .i64 0)] 82]) (o1 := fun x => [.var (blk p1) [.sl 2 (List.map e_arena_Span x5.fL), .val (.int .i64 x5.fN)] 82]) (d := fun x => .dead) (Want.plain rfl) (by first | rfl | simp only [hA.me, cond_true, cond_false, List.cons_append, List.nil_append, List.append_nil]) (fun x => by first | rfl | simp only [ins_self, upd_self, hA.me, cond_true, cond_false, List.cons_append, List.nil_append, List.append_nil]) (fun x => rfl) (OpR.store 0 rfl rfl rfl rfl rfl rfl rfl rfl)
 exact trivial
noncomputable def piece_Text_Tidy (a0 : piece_Text) (a1 : List UInt8) : Option (piece_Text × Int × (List UInt8)) :=
  if (a0.fL.length : Int) ≤ 32 then
    some (a0, 0, a1)
  else
    bnd (piece_Text_Flat a0 a1) fun x3 =>
    bnd (arena_Arena_Keep x3 a1) fun x4 =>
    if x4.2.1 = 0 then
      bnd (piece_Of [x4.1]) fun x8 =>
      some (x8, 0, x4.2.2)
    else
      some ((⟨[], 0⟩ : piece_Text), x4.2.1, x4.2.2)
set_option maxHeartbeats 4000000 in
theorem piece_Text_Tidy_c {a0 : piece_Text} {a1 : List UInt8} {b0 : Nat} {v1 : Value} {res : piece_Text × Int × (List UInt8)} (h0 : piece_Text_Tidy a0 a1 = some res) : CallF X 86 [.agg [.sl 2 (List.map e_arena_Span a0.fL), .val (.int .i64 a0.fN)], .val (.pointer (some ⟨b0, 0, none⟩))] [.var b0 [.val v1] 142, .row v1 (List.map byteD a1) 1 5] (fun x => .tup [.agg [.sl 2 (List.map e_arena_Span res.1.fL), .val (.int .i64 res.1.fN)], .val (.int .i64 res.2.1)]) (fun x => [.var b0 [.val (vn x 0)] 142, .row (vn x 0) (List.map byteD res.2.2) 1 5]) := by
 unfold piece_Text_Tidy at h0
 refine CallF.mkG (X := X) Try.func86 rfl rfl Try.ntmps86 rfl rfl ?_
 refine T.seq ?_
 refine T.region ?_
 refine TL.op1 (OpR.boxImm rfl rfl) rfl ?_
 refine TL.op (OpR.alloc rfl rfl (fun _ => rfl)) rfl (fun p1 => ?_)
 refine TL.op1 (OpR.pure rfl) rfl ?_
 refine TL.nil ?_
 show T X _ _ _
 refine T.seq ?_
 refine T.seq ?_
 refine T.region ?_
 refine TL.op1 (OpR.pure rfl) rfl ?_
 refine TL.op1 (OpR.pure rfl) rfl ?_
 refine TL.op1 (OpR.cast (OpR.pure rfl) (intE (lenM _ _))) rfl ?_
 refine TL.op1 (OpR.pure rfl) rfl ?_
 refine TL.nil ?_
 show T X _ _ _
 rcases ite_some h0 with ⟨c2, h0⟩ | ⟨c2, h0⟩
 · refine T.condT rfl (decide_eq_true c2) ?_
   refine T.seq ?_
   refine T.region ?_
   refine TL.op1 (OpR.pure rfl) rfl ?_
   refine TL.op0 (OpR.store 2 rfl rfl rfl rfl rfl rfl rfl rfl) ?_
   refine TL.op1 (OpR.pure rfl) rfl ?_
   refine TL.nil ?_
   show T X _ _ _
   refine T.ret ?_
   obtain rfl := Option.some.inj h0
   exact PostG.retP (ks := [0, 1]) (Gst.only [4, 5] rfl) (.tuple #[v1]) (ResL.cons (ResV.var 2 rfl rfl rfl rfl) (ResL.cons (ResV.tmp rfl) ResL.nil)) rfl rfl rfl rfl
 refine T.condF rfl (decide_eq_false c2) ?_
 refine T.skip ?_
 show T X _ _ _
 refine T.seq ?_
 refine T.region ?_
 refine TL.op1 (OpR.pure rfl) rfl ?_
 refine TL.op1 (OpR.pure rfl) rfl ?_
 refine TL.op1 (OpR.pure rfl) rfl ?_
 obtain ⟨x3, hx3, h0⟩ := bnd_some h0
 refine TL.op1 (OpR.call [0, 1] fn46 (piece_Text_Flat_c hx3) rfl rfl rfl (fun _ => rfl)) rfl ?_
 obtain ⟨x4, hx4, h0⟩ := bnd_some h0
 refine TL.op (OpR.call [0, 1] fn83 (arena_Arena_Keep_c hx4) rfl rfl rfl (fun _ => rfl)) rfl (fun w5 => ?_)
 refine TL.op1 (OpR.pure rfl) rfl ?_
 refine TL.op1 (OpR.pure rfl) rfl ?_
 refine TL.op1 (OpR.pure rfl) rfl ?_
 refine TL.op (OpR.alloc rfl rfl (fun _ => rfl)) rfl (fun p6 => ?_)
 refine TL.op0 (OpR.store 3 rfl rfl rfl rfl rfl rfl rfl rfl) ?_
 refine TL.op1 (OpR.pure rfl) rfl ?_
 refine TL.nil ?_
 show T X _ _ _
 refine T.seq ?_
 refine T.seq ?_
 refine T.region ?_
 refine TL.op1 (OpR.pure rfl) rfl ?_
 refine TL.op1 (OpR.pure rfl) rfl ?_
 refine TL.nil ?_
 show T X _ _ _
 rcases ite_some h0 with ⟨c7, h0⟩ | ⟨c7, h0⟩
 · refine T.condF rfl (not_t (beq_iff_eq.2 c7)) ?_
   refine T.skip ?_
   show T X _ _ _
   refine T.seq ?_
   refine T.region ?_
   refine TL.op1 (OpR.loadPtr 3 rfl rfl rfl rfl) rfl ?_
   refine TL.op1 (OpR.lit rfl rfl rfl rfl rfl rfl rfl) rfl ?_
   obtain ⟨x8, hx8, h0⟩ := bnd_some h0
   refine TL.op1 (OpR.call0 fn42 (piece_Of_c hx8) rfl) rfl ?_
   refine TL.op0 (OpR.store 2 rfl rfl rfl rfl rfl rfl rfl rfl) ?_
   refine TL.op1 (OpR.pure rfl) rfl ?_
   refine TL.nil ?_
   show T X _ _ _
   refine T.ret ?_
   obtain rfl := Option.some.inj h0
   exact PostG.retP (ks := [0, 1]) (Gst.trans (Gst.only [4, 5] rfl) (Gst.pick [0, 1, 2] rfl rfl)) (.tuple #[(vn w5 0)]) (ResL.cons (ResV.var 2 rfl rfl rfl rfl) (ResL.cons (ResV.tmp rfl) ResL.nil)) rfl rfl rfl rfl
 refine T.condT rfl (not_f (beq_eq_false_iff_ne.2 c7)) ?_
 refine T.seq ?_
 refine T.region ?_
 refine TL.op1 (OpR.build rfl rfl rfl rfl rfl) rfl ?_
 refine TL.op1 (OpR.pure rfl) rfl ?_
 refine TL.op0 (OpR.store 2 rfl rfl rfl rfl rfl rfl rfl rfl) ?_
 refine TL.op1 (OpR.pure rfl) rfl ?_
 refine TL.nil ?_
 show T X _ _ _
 refine T.ret ?_
 obtain rfl := Option.some.inj h0
 exact PostG.retP (ks := [0, 1]) (Gst.trans (Gst.only [4, 5] rfl) (Gst.trans (Gst.denil (ReS.cons Re.refl (ReS.cons Re.refl ReS.nil)) (ReO.var (ReL.cons Re.refl ReL.nil) (ReO.same (ReO.var (ReL.cons (Re.base .nil) (ReL.cons Re.refl ReL.nil)) (ReO.same ReO.nil))))) (Gst.pick [0, 1, 2] rfl rfl))) (.tuple #[(vn w5 0)]) (ResL.cons (ResV.var 2 rfl rfl rfl rfl) (ResL.cons (ResV.tmp rfl) ResL.nil)) rfl rfl rfl rfl
noncomputable def line_Line_Key (a0 : line_Line) (a1 : Int) (a2 : List UInt8) : Option (line_Line × Bool × Int × (List UInt8)) :=
  bnd (piece_Text_Flat a0.fT a2) fun x3 =>
  bnd (line_Plan x3 a0.fAt a1) fun x4 =>
  bnd (piece_Text_Len a0.fT) fun x6 =>
  bnd (some (w64 ((w64 (x6 - (w64 (x4.1.fTo - x4.1.fFrom)))) + (x4.1.fIn.length : Int)))) fun x7 =>
  if x7 > 400 then
    some (a0, true, 7, a2)
  else
    bnd (arena_Arena_Keep x4.1.fIn a2) fun x9 =>
    if x9.2.1 = 0 then
      bnd (piece_Text_Delete a0.fT x4.1.fFrom x4.1.fTo) fun x14 =>
      bnd (piece_Of [x9.1]) fun x15 =>
      bnd (piece_Text_Insert x14 x4.1.fFrom x15) fun x16 =>
      bnd (piece_Text_Tidy x16 x9.2.2) fun x17 =>
      if x17.2.1 = 0 then
        bnd (piece_Text_Flat x17.1 x17.2.2) fun x20 =>
        bnd (line_bound x20 x4.1.fAt) fun x21 =>
        some ((⟨x17.1, x21⟩ : line_Line), x4.2, 0, x17.2.2)
      else
        some (a0, true, x17.2.1, x17.2.2)
    else
      some (a0, true, x9.2.1, x9.2.2)
set_option maxHeartbeats 4000000 in
theorem line_Line_Key_c {a0 : line_Line} {a1 : Int} {a2 : List UInt8} {b0 : Nat} {v1 : Value} {res : line_Line × Bool × Int × (List UInt8)} (h0 : line_Line_Key a0 a1 a2 = some res) : CallF X 43 [.agg [.sl 2 (List.map e_arena_Span a0.fT.fL), .val (.int .i64 a0.fT.fN), .val (.int .i64 a0.fAt)], .val (.pointer (some ⟨b0, 0, none⟩)), .val (.int .i64 a1)] [.var b0 [.val v1] 142, .row v1 (List.map byteD a2) 1 5] (fun x => .tup [.agg [.sl 2 (List.map e_arena_Span res.1.fT.fL), .val (.int .i64 res.1.fT.fN), .val (.int .i64 res.1.fAt)], .val (.bool res.2.1), .val (.int .i64 res.2.2.1)]) (fun x => [.var b0 [.val (vn x 0)] 142, .row (vn x 0) (List.map byteD res.2.2.2) 1 5]) := by
 unfold line_Line_Key at h0
 refine CallF.mkG (X := X) Try.func43 rfl rfl Try.ntmps43 rfl rfl ?_
 refine T.seq ?_
 refine T.region ?_
 refine TL.op1 (OpR.boxImm rfl rfl) rfl ?_
 refine TL.op (OpR.alloc rfl rfl (fun _ => rfl)) rfl (fun p1 => ?_)
 refine TL.op1 (OpR.pure rfl) rfl ?_
 refine TL.op1 (OpR.pure rfl) rfl ?_
 refine TL.nil ?_
 show T X _ _ _
 refine T.seq ?_
 obtain ⟨x3, hx3, h0⟩ := bnd_some h0
 obtain ⟨x4, hx4, h0⟩ := bnd_some h0
 refine T.drawS drawsX (fun env2 => [.nod [.sl 2 (List.map e_arena_Span a0.fT.fL), .val (.int .i64 a0.fT.fN), .val (.int .i64 a0.fAt)], .agg [.sl 2 (List.map e_arena_Span a0.fT.fL), .val (.int .i64 a0.fT.fN)], .val (.pointer (some ⟨b0, 0, none⟩)), .sl 1 (List.map byteD x3), .nod [.val (.int .i64 a0.fAt)], .val (.int .i64 a0.fAt), .val (.int .i64 a1), .tup [.agg [.val (.int .i64 x4.1.fFrom), .val (.int .i64 x4.1.fTo), .val (.string (bs x4.1.fIn)), .val (.int .i64 x4.1.fAt)], .val (.bool x4.2)], .tup [.agg [.val (.int .i64 x4.1.fFrom), .val (.int .i64 x4.1.fTo), .val (.string (bs x4.1.fIn)), .val (.int .i64 x4.1.fAt)], .val (.bool x4.2)], .agg [.val (.int .i64 x4.1.fFrom), .val (.int .i64 x4.1.fTo), .val (.string (bs x4.1.fIn)), .val (.int .i64 x4.1.fAt)], .val (.bool x4.2), .val (.pointer (some ⟨(blk (env2 11)), 0, none⟩)), .dead, .val (.bool x4.2)]) (fun D env2 => [.var b0 [.val v1] 142, .row v1 (List.map byteD a2) 1 5, .var (blk p1) [.val (.slice none 0 0), .val (.int .i64 0), .val (.int .i64 0)] 84] ++ (bif D 11 then [(bif D 12 then .var (blk (env2 11)) [.val (.int .i64 x4.1.fFrom), .val (.int .i64 x4.1.fTo), .val (.string (bs x4.1.fIn)), .val (.int .i64 x4.1.fAt)] 165 else .var (blk (env2 11)) [.val (.int .i64 0), .val (.int .i64 0), .val (.string (bs [])), .val (.int .i64 0)] 165)] else [])) [0, 1, 0, 7, 0, 16, 0, 127, 255, 511, 511, 0, 3071, 8191] [0, 1, 2, 3, 6, 7, 8, 9, 10, 14, 15, 16, 17, 18, 19, 20, 21, 22, 23, 24] (fun env2 => [.var b0 [.val v1] 142, .row v1 (List.map byteD a2) 1 5, .var (blk p1) [.val (.slice none 0 0), .val (.int .i64 0), .val (.int .i64 0)] 84, .var (blk (env2 11)) [.val (.int .i64 x4.1.fFrom), .val (.int .i64 x4.1.fTo), .val (.string (bs x4.1.fIn)), .val (.int .i64 x4.1.fAt)] 165]) (by decide +kernel) (by decide +kernel) (fun _ => rfl) (fun _ => rfl) ?_ (fun _ => rfl) (fun _ => rfl) ?_
 · refine oS (d := .nod [.sl 2 (List.map e_arena_Span a0.fT.fL), .val (.int .i64 a0.fT.fN), .val (.int .i64 a0.fAt)]) (fun _ => Want.plain rfl) (fun _ => rfl) (fun _ _ _ => rfl) (fun _ _ => OpR.pure rfl) (fun _ _ _ _ _ _ _ => rfl) ?_
   refine oS (d := .agg [.sl 2 (List.map e_arena_Span a0.fT.fL), .val (.int .i64 a0.fT.fN)]) (fun _ => Want.plain rfl) (fun _ => rfl) (fun _ _ _ => rfl) (fun _ _ => OpR.pure rfl) (fun _ _ _ _ _ _ _ => rfl) ?_
   refine oS (d := .val (.pointer (some ⟨b0, 0, none⟩))) (fun _ => Want.plain rfl) (fun _ => rfl) (fun _ _ _ => rfl) (fun _ _ => OpR.pure rfl) (fun _ _ _ _ _ _ _ => rfl) ?_
   refine OpsS.cons' true ?_ (fun _ _ _ _ _ _ _ => rfl) ?_
   · intro D env2 hA
     have e12 : D 12 = false := hA.no 12 _ rfl rfl
     rcases Bool.eq_false_or_eq_true (D 11) with e11 | e11
     rotate_left
     · exact OpS.yes (o0 := [.var b0 [.val v1] 142, .row v1 (List.map byteD a2) 1 5, .var (blk p1) [.val (.slice none 0 0), .val (.int .i64 0), .val (.int .i64 0)] 84]) (o1 := fun x => [.var b0 [.val v1] 142, .row v1 (List.map byteD a2) 1 5, .var (blk p1) [.val (.slice none 0 0), .val (.int .i64 0), .val (.int .i64 0)] 84]) (d := fun x => .sl 1 (List.map byteD x3)) (Want.plain rfl) (by first | rfl | simp only [e12, e11, cond_true, cond_false, List.cons_append, List.nil_append, List.append_nil]) (fun x => by first | rfl | simp only [ins_self, ins_ne D (show 3 ≠ 11 by decide), ins_ne D (show 3 ≠ 12 by decide), upd_self, upd_ne env2 x (show 3 ≠ 11 by decide), e12, e11, cond_true, cond_false, List.cons_append, List.nil_append, List.append_nil]) (fun x => rfl) (OpR.call [0, 1] fn46 (piece_Text_Flat_c hx3) rfl rfl rfl (fun _ => rfl))
     exact OpS.yes (o0 := [.var b0 [.val v1] 142, .row v1 (List.map byteD a2) 1 5, .var (blk p1) [.val (.slice none 0 0), .val (.int .i64 0), .val (.int .i64 0)] 84, .var (blk (env2 11)) [.val (.int .i64 0), .val (.int .i64 0), .val (.string (bs [])), .val (.int .i64 0)] 165]) (o1 := fun x => [.var b0 [.val v1] 142, .row v1 (List.map byteD a2) 1 5, .var (blk p1) [.val (.slice none 0 0), .val (.int .i64 0), .val (.int .i64 0)] 84, .var (blk (env2 11)) [.val (.int .i64 0), .val (.int .i64 0), .val (.string (bs [])), .val (.int .i64 0)] 165]) (d := fun x => .sl 1 (List.map byteD x3)) (Want.plain rfl) (by first | rfl | simp only [e12, e11, cond_true, cond_false, List.cons_append, List.nil_append, List.append_nil]) (fun x => by first | rfl | simp only [ins_self, ins_ne D (show 3 ≠ 11 by decide), ins_ne D (show 3 ≠ 12 by decide), upd_self, upd_ne env2 x (show 3 ≠ 11 by decide), e12, e11, cond_true, cond_false, List.cons_append, List.nil_append, List.append_nil]) (fun x => rfl) (OpR.call [0, 1] fn46 (piece_Text_Flat_c hx3) rfl rfl rfl (fun _ => rfl))
   refine oS (d := .nod [.val (.int .i64 a0.fAt)]) (fun _ => Want.plain rfl) (fun _ => rfl) (fun _ _ _ => rfl) (fun _ _ => OpR.pure rfl) (fun _ _ _ _ _ _ _ => rfl) ?_
   refine oS (d := .val (.int .i64 a0.fAt)) (fun _ => Want.plain rfl) (fun _ => rfl) (fun _ _ _ => rfl) (fun _ _ => OpR.pure rfl) (fun _ _ _ _ _ _ _ => rfl) ?_
   refine oS (d := .val (.int .i64 a1)) (fun _ => Want.plain rfl) (fun _ => rfl) (fun _ _ _ => rfl) (fun _ _ => OpR.pure rfl) (fun _ _ _ _ _ _ _ => rfl) ?_
   refine oS (d := .tup [.agg [.val (.int .i64 x4.1.fFrom), .val (.int .i64 x4.1.fTo), .val (.string (bs x4.1.fIn)), .val (.int .i64 x4.1.fAt)], .val (.bool x4.2)]) (fun _ => Want.plain rfl) (fun _ => rfl) (fun _ _ _ => rfl) (fun _ _ => OpR.call0 fn82 (line_Plan_c hx4) rfl) (fun _ _ _ _ _ _ _ => rfl) ?_
   refine oS (d := .tup [.agg [.val (.int .i64 x4.1.fFrom), .val (.int .i64 x4.1.fTo), .val (.string (bs x4.1.fIn)), .val (.int .i64 x4.1.fAt)], .val (.bool x4.2)]) (fun _ => Want.plain rfl) (fun _ => rfl) (fun _ _ _ => rfl) (fun _ _ => OpR.pure rfl) (fun _ _ _ _ _ _ _ => rfl) ?_
   refine oS (d := .agg [.val (.int .i64 x4.1.fFrom), .val (.int .i64 x4.1.fTo), .val (.string (bs x4.1.fIn)), .val (.int .i64 x4.1.fAt)]) (fun _ => Want.plain rfl) (fun _ => rfl) (fun _ _ _ => rfl) (fun _ _ => OpR.pure rfl) (fun _ _ _ _ _ _ _ => rfl) ?_
   refine oS (d := .val (.bool x4.2)) (fun _ => Want.plain rfl) (fun _ => rfl) (fun _ _ _ => rfl) (fun _ _ => OpR.pure rfl) (fun _ _ _ _ _ _ _ => rfl) ?_
   refine OpsS.cons' true ?_ (fun D hA env2 x j hj hD => match j, hj, hD with | 0, _, _ => rfl | 1, _, _ => rfl | 2, _, _ => rfl | 3, _, _ => rfl | 4, _, _ => rfl | 5, _, _ => rfl | 6, _, _ => rfl | 7, _, _ => rfl | 8, _, _ => rfl | 9, _, _ => rfl | 10, _, _ => rfl | 11, hj, _ => absurd rfl hj | 12, _, _ => rfl | 13, _, _ => rfl | _ + 14, _, _ => rfl) ?_
   · intro D env2 hA
     have e12 : D 12 = false := hA.no 12 _ rfl rfl
     exact OpS.yes (o0 := [.var b0 [.val v1] 142, .row v1 (List.map byteD a2) 1 5, .var (blk p1) [.val (.slice none 0 0), .val (.int .i64 0), .val (.int .i64 0)] 84]) (o1 := fun x => [.var b0 [.val v1] 142, .row v1 (List.map byteD a2) 1 5, .var (blk p1) [.val (.slice none 0 0), .val (.int .i64 0), .val (.int .i64 0)] 84, .var (blk x) [.val (.int .i64 0), .val (.int .i64 0), .val (.string (bs [])), .val (.int .i64 0)] 165]) (d := fun x => .val (.pointer (some ⟨(blk x), 0, none⟩))) (Want.plain rfl) (by first | rfl | simp only [e12, hA.me, cond_true, cond_false, List.cons_append, List.nil_append, List.append_nil]) (fun x => by first | rfl | simp only [ins_self, ins_ne D (show 11 ≠ 12 by decide), upd_self, e12, hA.me, cond_true, cond_false, List.cons_append, List.nil_append, List.append_nil]) (fun x => rfl) (OpR.alloc rfl rfl (fun _ => rfl))
   refine OpsS.cons' true ?_ (fun _ _ _ _ _ _ _ => rfl) ?_
   · intro D env2 hA
     have e11 : D 11 = true := hA.yes 11 _ rfl rfl
     exact OpS.yes (o0 := [.var b0 [.val v1] 142, .row v1 (List.map byteD a2) 1 5, .var (blk p1) [.val (.slice none 0 0), .val (.int .i64 0), .val (.int .i64 0)] 84, .var (blk (env2 11)) [.val (.int .i64 0), .val (.int .i64 0), .val (.string (bs [])), .val (.int .i64 0)] 165]) (o1 := fun x => [.var b0 [.val v1] 142, .row v1 (List.map byteD a2) 1 5, .var (blk p1) [.val (.slice none 0 0), .val (.int .i64 0), .val (.int .i64 0)] 84, .var (blk (env2 11)) [.val (.int .i64 x4.1.fFrom), .val (.int .i64 x4.1.fTo), .val (.string (bs x4.1.fIn)), .val (.int .i64 x4.1.fAt)] 165]) (d := fun x => .dead) (Want.plain rfl) (by first | rfl | simp only [e11, hA.me, cond_true, cond_false, List.cons_append, List.nil_append, List.append_nil]) (fun x => by first | rfl | simp only [ins_self, ins_ne D (show 12 ≠ 11 by decide), upd_self, upd_ne env2 x (show 12 ≠ 11 by decide), e11, hA.me, cond_true, cond_false, List.cons_append, List.nil_append, List.append_nil]) (fun x => rfl) (OpR.store 3 rfl rfl rfl rfl rfl rfl rfl rfl)
   refine oS (d := .val (.bool x4.2)) (fun _ => Want.plain rfl) (fun _ => rfl) (fun _ _ _ => rfl) (fun _ _ => OpR.pure rfl) (fun _ _ _ _ _ _ _ => rfl) ?_
   exact trivial
 intro env2
 show T X _ _ _
 refine T.seq ?_
 refine T.seq ?_
 obtain ⟨x6, hx6, h0⟩ := bnd_some h0
 obtain ⟨x7, hx7, h0⟩ := bnd_some h0
 refine T.drawQ drawsX [.nod [.sl 2 (List.map e_arena_Span a0.fT.fL), .val (.int .i64 a0.fT.fN), .val (.int .i64 a0.fAt)], .agg [.sl 2 (List.map e_arena_Span a0.fT.fL), .val (.int .i64 a0.fT.fN)], .val (.int .i64 x6), .val (.pointer (some ⟨(blk (env2 11)), 1, none⟩)), .val (.int .i64 x4.1.fTo), .val (.pointer (some ⟨(blk (env2 11)), 0, none⟩)), .val (.int .i64 x4.1.fFrom), .val (.int .i64 (w64 (x4.1.fTo - x4.1.fFrom))), .val (.int .i64 (w64 (x6 - (w64 (x4.1.fTo - x4.1.fFrom))))), .val (.pointer (some ⟨(blk (env2 11)), 2, none⟩)), .val (.string (bs x4.1.fIn)), .val (.int .i64 (x4.1.fIn.length : Int)), .val (.int .i64 x7), .val (.bool (decide (x7 > 400)))] [0, 1, 2, 3, 6, 7, 8, 9, 10, 14, 15, 16, 17, 18, 19, 20, 21, 22, 23, 24, 25, 26, 27, 28, 29, 30, 31, 32, 33, 34, 35, 36, 37, 38] (by decide +kernel) rfl ?_ rfl ?_
 · refine OpsQ.yes (Want.plain rfl) rfl (OpR.pure rfl) ?_
   refine OpsQ.yes (Want.plain rfl) rfl (OpR.pure rfl) ?_
   refine OpsQ.yes (Want.plain rfl) rfl (OpR.call0 fn68 (piece_Text_Len_c hx6) rfl) ?_
   refine OpsQ.yes (Want.plain rfl) rfl (OpR.pure rfl) ?_
   refine OpsQ.yes (Want.plain rfl) rfl (OpR.loadPtr 3 rfl rfl rfl rfl) ?_
   refine OpsQ.yes (Want.plain rfl) rfl (OpR.pure rfl) ?_
   refine OpsQ.yes (Want.plain rfl) rfl (OpR.loadPtr 3 rfl rfl rfl rfl) ?_
   refine OpsQ.yes (Want.plain rfl) rfl (OpR.pure rfl) ?_
   refine OpsQ.yes (Want.plain rfl) rfl (OpR.pure rfl) ?_
   refine OpsQ.yes (Want.plain rfl) rfl (OpR.pure rfl) ?_
   refine OpsQ.yes (Want.plain rfl) rfl (OpR.loadPtr 3 rfl rfl rfl rfl) ?_
   refine OpsQ.yes (Want.plain rfl) rfl (OpR.cast (OpR.pure rfl) (intE (lenS _))) ?_
   refine OpsQ.yes (Want.plain rfl) rfl (OpR.cast (OpR.pure rfl) (intE (Option.some.inj hx7))) ?_
   refine OpsQ.yes (Want.plain rfl) rfl (OpR.pure rfl) ?_
   exact OpsQ.nil
 show T X _ _ _
 rcases ite_some h0 with ⟨c8, h0⟩ | ⟨c8, h0⟩
 · refine T.condT rfl (decide_eq_true c8) ?_
   refine T.seq ?_
   refine T.region ?_
   refine TL.op1 (OpR.pure rfl) rfl ?_
   refine TL.op0 (OpR.store 2 rfl rfl rfl rfl rfl rfl rfl rfl) ?_
   refine TL.op1 (OpR.pure rfl) rfl ?_
   refine TL.op1 (OpR.pure rfl) rfl ?_
   refine TL.nil ?_
   show T X _ _ _
   refine T.ret ?_
   obtain rfl := Option.some.inj h0
   exact PostG.retP (ks := [0, 1]) (Gst.trans (Gst.only [6, 7, 8] rfl) (Gst.pick [0, 1, 2] rfl rfl)) (.tuple #[v1]) (ResL.cons (ResV.var 2 rfl rfl rfl rfl) (ResL.cons (ResV.tmp rfl) (ResL.cons (ResV.tmp rfl) ResL.nil))) rfl rfl rfl rfl
 refine T.condF rfl (decide_eq_false c8) ?_
 refine T.skip ?_
 show T X _ _ _
 refine T.seq ?_
 refine T.region ?_
 refine TL.op1 (OpR.pure rfl) rfl ?_
 refine TL.op1 (OpR.pure rfl) rfl ?_
 refine TL.op1 (OpR.loadPtr 3 rfl rfl rfl rfl) rfl ?_
 refine TL.op1 (OpR.toBytesM rfl rfl rfl rfl rfl rfl rfl) rfl ?_
 obtain ⟨x9, hx9, h0⟩ := bnd_some h0
 refine TL.op (OpR.call [0, 1] fn83 (arena_Arena_Keep_c hx9) rfl rfl rfl (fun _ => rfl)) rfl (fun w10 => ?_)
 refine TL.op1 (OpR.pure rfl) rfl ?_
 refine TL.op1 (OpR.pure rfl) rfl ?_
 refine TL.op1 (OpR.pure rfl) rfl ?_
 refine TL.op (OpR.alloc rfl rfl (fun _ => rfl)) rfl (fun p11 => ?_)
 refine TL.op0 (OpR.store 4 rfl rfl rfl rfl rfl rfl rfl rfl) ?_
 refine TL.op1 (OpR.pure rfl) rfl ?_
 refine TL.nil ?_
 show T X _ _ _
 refine T.seq ?_
 refine T.seq ?_
 refine T.region ?_
 refine TL.op1 (OpR.pure rfl) rfl ?_
 refine TL.op1 (OpR.pure rfl) rfl ?_
 refine TL.nil ?_
 show T X _ _ _
 rcases ite_some h0 with ⟨c12, h0⟩ | ⟨c12, h0⟩
 rotate_left
 · refine T.condT rfl (not_f (beq_eq_false_iff_ne.2 c12)) ?_
   refine T.seq ?_
   refine T.region ?_
   refine TL.op1 (OpR.pure rfl) rfl ?_
   refine TL.op1 (OpR.pure rfl) rfl ?_
   refine TL.op0 (OpR.store 2 rfl rfl rfl rfl rfl rfl rfl rfl) ?_
   refine TL.op1 (OpR.pure rfl) rfl ?_
   refine TL.op1 (OpR.pure rfl) rfl ?_
   refine TL.nil ?_
   show T X _ _ _
   refine T.ret ?_
   obtain rfl := Option.some.inj h0
   exact PostG.retP (ks := [0, 1]) (Gst.trans (Gst.only [6, 7, 8] rfl) (Gst.pick [0, 1, 2] rfl rfl)) (.tuple #[(vn w10 0)]) (ResL.cons (ResV.var 2 rfl rfl rfl rfl) (ResL.cons (ResV.tmp rfl) (ResL.cons (ResV.tmp rfl) ResL.nil))) rfl rfl rfl rfl
 refine T.condF rfl (not_t (beq_iff_eq.2 c12)) ?_
 refine T.skip ?_
 show T X _ _ _
 refine T.seq ?_
 obtain ⟨x14, hx14, h0⟩ := bnd_some h0
 obtain ⟨x15, hx15, h0⟩ := bnd_some h0
 obtain ⟨x16, hx16, h0⟩ := bnd_some h0
 obtain ⟨x17, hx17, h0⟩ := bnd_some h0
 refine T.drawS drawsX (fun env13 => [.nod [.sl 2 (List.map e_arena_Span a0.fT.fL), .val (.int .i64 a0.fT.fN), .val (.int .i64 a0.fAt)], .agg [.sl 2 (List.map e_arena_Span a0.fT.fL), .val (.int .i64 a0.fT.fN)], .val (.pointer (some ⟨(blk (env2 11)), 0, none⟩)), .val (.int .i64 x4.1.fFrom), .val (.pointer (some ⟨(blk (env2 11)), 1, none⟩)), .val (.int .i64 x4.1.fTo), .agg [.sl 2 (List.map e_arena_Span x14.fL), .val (.int .i64 x14.fN)], .val (.pointer (some ⟨(blk (env2 11)), 0, none⟩)), .val (.int .i64 x4.1.fFrom), .agg [.val (.int .i64 x9.1.fAt), .val (.int .i64 x9.1.fN)], .sl 2 (List.map e_arena_Span [x9.1]), .agg [.sl 2 (List.map e_arena_Span x15.fL), .val (.int .i64 x15.fN)], .agg [.sl 2 (List.map e_arena_Span x16.fL), .val (.int .i64 x16.fN)], .val (.pointer (some ⟨b0, 0, none⟩)), .tup [.agg [.sl 2 (List.map e_arena_Span x17.1.fL), .val (.int .i64 x17.1.fN)], .val (.int .i64 x17.2.1)], .tup [.agg [.sl 2 (List.map e_arena_Span x17.1.fL), .val (.int .i64 x17.1.fN)], .val (.int .i64 x17.2.1)], .agg [.sl 2 (List.map e_arena_Span x17.1.fL), .val (.int .i64 x17.1.fN)], .val (.int .i64 x17.2.1), .val (.pointer (some ⟨(blk (env13 18)), 0, none⟩)), .dead, .val (.int .i64 x17.2.1)]) (fun D env13 => [(bif D 14 then .var b0 [.val (vn (env13 14) 0)] 142 else .var b0 [.val (vn w10 0)] 142), (bif D 14 then .row (vn (env13 14) 0) (List.map byteD x17.2.2) 1 5 else .row (vn w10 0) (List.map byteD x9.2.2) 1 5), .var (blk p1) [.val (.slice none 0 0), .val (.int .i64 0), .val (.int .i64 0)] 84, .var (blk (env2 11)) [.val (.int .i64 x4.1.fFrom), .val (.int .i64 x4.1.fTo), .val (.string (bs x4.1.fIn)), .val (.int .i64 x4.1.fAt)] 165, .var (blk p11) [.val (.int .i64 x9.1.fAt), .val (.int .i64 x9.1.fN)] 88] ++ (bif D 18 then [(bif D 19 then .var (blk (env13 18)) [.sl 2 (List.map e_arena_Span x17.1.fL), .val (.int .i64 x17.1.fN)] 82 else .var (blk (env13 18)) [.val (.slice none 0 0), .val (.int .i64 0)] 82)] else [])) [0, 1, 0, 4, 0, 16, 63, 0, 128, 0, 512, 1663, 4095, 0, 16383, 32767, 65535, 65535, 0, 393215, 1048575] [0, 1, 2, 3, 6, 7, 8, 9, 10, 11, 12, 13, 14, 15, 16, 17, 18, 19, 20, 21, 22, 23, 24, 25, 26, 27, 28, 29, 30, 31, 32, 33, 34, 35, 36, 37, 38, 40, 41, 42, 43, 44, 45, 46, 47, 48, 49, 52, 53, 54, 55, 56, 57, 58, 59, 60, 61, 62, 63, 64, 65, 66, 67, 68, 69] (fun env13 => [.var b0 [.val (vn (env13 14) 0)] 142, .row (vn (env13 14) 0) (List.map byteD x17.2.2) 1 5, .var (blk p1) [.val (.slice none 0 0), .val (.int .i64 0), .val (.int .i64 0)] 84, .var (blk (env2 11)) [.val (.int .i64 x4.1.fFrom), .val (.int .i64 x4.1.fTo), .val (.string (bs x4.1.fIn)), .val (.int .i64 x4.1.fAt)] 165, .var (blk p11) [.val (.int .i64 x9.1.fAt), .val (.int .i64 x9.1.fN)] 88, .var (blk (env13 18)) [.sl 2 (List.map e_arena_Span x17.1.fL), .val (.int .i64 x17.1.fN)] 82]) (by decide +kernel) (by decide +kernel) (fun _ => rfl) (fun _ => rfl) ?_ (fun _ => rfl) (fun _ => rfl) ?_
 rotate_left
 · intro env13
   show T X _ _ _
   refine T.seq ?_
   refine T.seq ?_
   refine T.region ?_
   refine TL.op1 (OpR.pure rfl) rfl ?_
   refine TL.op1 (OpR.pure rfl) rfl ?_
   refine TL.nil ?_
   show T X _ _ _
   rcases ite_some h0 with ⟨c18, h0⟩ | ⟨c18, h0⟩
   rotate_left
   · refine T.condT rfl (not_f (beq_eq_false_iff_ne.2 c18)) ?_
     refine T.seq ?_
     refine T.region ?_
     refine TL.op1 (OpR.pure rfl) rfl ?_
     refine TL.op1 (OpR.pure rfl) rfl ?_
     refine TL.op0 (OpR.store 2 rfl rfl rfl rfl rfl rfl rfl rfl) ?_
     refine TL.op1 (OpR.pure rfl) rfl ?_
     refine TL.op1 (OpR.pure rfl) rfl ?_
     refine TL.nil ?_
     show T X _ _ _
     refine T.ret ?_
     obtain rfl := Option.some.inj h0
     exact PostG.retP (ks := [0, 1]) (Gst.trans (Gst.only [6, 7, 8] rfl) (Gst.pick [0, 1, 2] rfl rfl)) (.tuple #[(vn (env13 14) 0)]) (ResL.cons (ResV.var 2 rfl rfl rfl rfl) (ResL.cons (ResV.tmp rfl) (ResL.cons (ResV.tmp rfl) ResL.nil))) rfl rfl rfl rfl
   refine T.condF rfl (not_t (beq_iff_eq.2 c18)) ?_
   refine T.skip ?_
   show T X _ _ _
   refine T.seq ?_
   obtain ⟨x20, hx20, h0⟩ := bnd_some h0
   obtain ⟨x21, hx21, h0⟩ := bnd_some h0
   refine T.drawS drawsX (fun env19 => [.agg [.sl 2 (List.map e_arena_Span x17.1.fL), .val (.int .i64 x17.1.fN)], .agg [.sl 2 (List.map e_arena_Span x17.1.fL), .val (.int .i64 x17.1.fN)], .val (.pointer (some ⟨b0, 0, none⟩)), .sl 1 (List.map byteD x20), .val (.pointer (some ⟨(blk (env2 11)), 3, none⟩)), .val (.int .i64 x4.1.fAt), .val (.int .i64 x21), .agg [.sl 2 (List.map e_arena_Span x17.1.fL), .val (.int .i64 x17.1.fN), .val (.int .i64 x21)], .val (.bool x4.2), .dead, .val (.bool x4.2), .val (.int .i64 0)]) (fun D env19 => [.var b0 [.val (vn (env13 14) 0)] 142, .row (vn (env13 14) 0) (List.map byteD x17.2.2) 1 5, (bif D 9 then .var (blk p1) [.sl 2 (List.map e_arena_Span x17.1.fL), .val (.int .i64 x17.1.fN), .val (.int .i64 x21)] 84 else .var (blk p1) [.val (.slice none 0 0), .val (.int .i64 0), .val (.int .i64 0)] 84), .var (blk (env2 11)) [.val (.int .i64 x4.1.fFrom), .val (.int .i64 x4.1.fTo), .val (.string (bs x4.1.fIn)), .val (.int .i64 x4.1.fAt)] 165, .var (blk p11) [.val (.int .i64 x9.1.fAt), .val (.int .i64 x9.1.fN)] 88, .var (blk (env13 18)) [.sl 2 (List.map e_arena_Span x17.1.fL), .val (.int .i64 x17.1.fN)] 82]) [0, 0, 0, 6, 0, 16, 62, 127, 0, 255, 1023, 2047] [0, 1, 2, 3, 6, 7, 8, 9, 10, 11, 12, 13, 14, 15, 16, 17, 18, 19, 20, 21, 22, 23, 24, 25, 26, 27, 28, 29, 30, 31, 32, 33, 34, 35, 36, 37, 38, 40, 41, 42, 43, 44, 45, 46, 47, 48, 49, 52, 53, 54, 55, 56, 57, 58, 59, 60, 61, 62, 63, 64, 65, 66, 67, 68, 69, 70, 71, 74, 75, 76, 77, 78, 79, 80, 81, 82] (fun env19 => [.var b0 [.val (vn (env13 14) 0)] 142, .row (vn (env13 14) 0) (List.map byteD x17.2.2) 1 5, .var (blk p1) [.sl 2 (List.map e_arena_Span x17.1.fL), .val (.int .i64 x17.1.fN), .val (.int .i64 x21)] 84, .var (blk (env2 11)) [.val (.int .i64 x4.1.fFrom), .val (.int .i64 x4.1.fTo), .val (.string (bs x4.1.fIn)), .val (.int .i64 x4.1.fAt)] 165, .var (blk p11) [.val (.int .i64 x9.1.fAt), .val (.int .i64 x9.1.fN)] 88, .var (blk (env13 18)) [.sl 2 (List.map e_arena_Span x17.1.fL), .val (.int .i64 x17.1.fN)] 82]) (by decide +kernel) (by decide +kernel) (fun _ => rfl) (fun _ => rfl) ?_ (fun _ => rfl) (fun _ => rfl) ?_
   rotate_left
   · intro env19
     show T X _ _ _
     refine T.ret ?_
     obtain rfl := Option.some.inj h0
     exact PostG.retP (ks := [0, 1]) (Gst.trans (Gst.only [6, 7, 8] rfl) (Gst.pick [0, 1, 2] rfl rfl)) (.tuple #[(vn (env13 14) 0)]) (ResL.cons (ResV.var 2 rfl rfl rfl rfl) (ResL.cons (ResV.tmp rfl) (ResL.cons (ResV.tmp rfl) ResL.nil))) rfl rfl rfl rfl
   refine oS (d := .agg [.sl 2 (List.map e_arena_Span x17.1.fL), .val (.int .i64 x17.1.fN)]) (fun _ => Want.plain rfl) (fun _ => rfl) (fun _ _ _ => rfl) (fun _ _ => OpR.loadPtr 5 rfl rfl rfl rfl) (fun _ _ _ _ _ _ _ => rfl) ?_
   refine oS (d := .agg [.sl 2 (List.map e_arena_Span x17.1.fL), .val (.int .i64 x17.1.fN)]) (fun _ => Want.plain rfl) (fun _ => rfl) (fun _ _ _ => rfl) (fun _ _ => OpR.loadPtr 5 rfl rfl rfl rfl) (fun _ _ _ _ _ _ _ => rfl) ?_
   refine oS (d := .val (.pointer (some ⟨b0, 0, none⟩))) (fun _ => Want.plain rfl) (fun _ => rfl) (fun _ _ _ => rfl) (fun _ _ => OpR.pure rfl) (fun _ _ _ _ _ _ _ => rfl) ?_
   refine OpsS.cons' true ?_ (fun _ _ _ _ _ _ _ => rfl) ?_
   · intro D env19 hA
     have e9 : D 9 = false := hA.no 9 _ rfl rfl
     exact OpS.yes (o0 := [.var b0 [.val (vn (env13 14) 0)] 142, .row (vn (env13 14) 0) (List.map byteD x17.2.2) 1 5, .var (blk p1) [.val (.slice none 0 0), .val (.int .i64 0), .val (.int .i64 0)] 84, .var (blk (env2 11)) [.val (.int .i64 x4.1.fFrom), .val (.int .i64 x4.1.fTo), .val (.string (bs x4.1.fIn)), .val (.int .i64 x4.1.fAt)] 165, .var (blk p11) [.val (.int .i64 x9.1.fAt), .val (.int .i64 x9.1.fN)] 88, .var (blk (env13 18)) [.sl 2 (List.map e_arena_Span x17.1.fL), .val (.int .i64 x17.1.fN)] 82]) (o1 := fun x => [.var b0 [.val (vn (env13 14) 0)] 142, .row (vn (env13 14) 0) (List.map byteD x17.2.2) 1 5, .var (blk p1) [.val (.slice none 0 0), .val (.int .i64 0), .val (.int .i64 0)] 84, .var (blk (env2 11)) [.val (.int .i64 x4.1.fFrom), .val (.int .i64 x4.1.fTo), .val (.string (bs x4.1.fIn)), .val (.int .i64 x4.1.fAt)] 165, .var (blk p11) [.val (.int .i64 x9.1.fAt), .val (.int .i64 x9.1.fN)] 88, .var (blk (env13 18)) [.sl 2 (List.map e_arena_Span x17.1.fL), .val (.int .i64 x17.1.fN)] 82]) (d := fun x => .sl 1 (List.map byteD x20)) (Want.plain rfl) (by first | rfl | simp only [e9, cond_true, cond_false, List.cons_append, List.nil_append, List.append_nil]) (fun x => by first | rfl | simp only [ins_self, ins_ne D (show 3 ≠ 9 by decide), upd_self, e9, cond_true, cond_false, List.cons_append, List.nil_append, List.append_nil]) (fun x => rfl) (OpR.call [0, 1] fn46 (piece_Text_Flat_c hx20) rfl rfl rfl (fun _ => rfl))
   refine oS (d := .val (.pointer (some ⟨(blk (env2 11)), 3, none⟩))) (fun _ => Want.plain rfl) (fun _ => rfl) (fun _ _ _ => rfl) (fun _ _ => OpR.pure rfl) (fun _ _ _ _ _ _ _ => rfl) ?_
   refine oS (d := .val (.int .i64 x4.1.fAt)) (fun _ => Want.plain rfl) (fun _ => rfl) (fun _ _ _ => rfl) (fun _ _ => OpR.loadPtr 3 rfl rfl rfl rfl) (fun _ _ _ _ _ _ _ => rfl) ?_
   refine oS (d := .val (.int .i64 x21)) (fun _ => Want.plain rfl) (fun _ => rfl) (fun _ _ _ => rfl) (fun _ _ => OpR.call0 fn87 (line_bound_c hx21) rfl) (fun _ _ _ _ _ _ _ => rfl) ?_
   refine oS (d := .agg [.sl 2 (List.map e_arena_Span x17.1.fL), .val (.int .i64 x17.1.fN), .val (.int .i64 x21)]) (fun _ => Want.plain rfl) (fun _ => rfl) (fun _ _ _ => rfl) (fun _ _ => OpR.build rfl rfl rfl rfl rfl) (fun _ _ _ _ _ _ _ => rfl) ?_
   refine oS (d := .val (.bool x4.2)) (fun _ => Want.plain rfl) (fun _ => rfl) (fun _ _ _ => rfl) (fun _ _ => OpR.pure rfl) (fun _ _ _ _ _ _ _ => rfl) ?_
   refine OpsS.cons' true ?_ (fun _ _ _ _ _ _ _ => rfl) ?_
   · intro D env19 hA
     exact OpS.yes (o0 := [.var b0 [.val (vn (env13 14) 0)] 142, .row (vn (env13 14) 0) (List.map byteD x17.2.2) 1 5, .var (blk p1) [.val (.slice none 0 0), .val (.int .i64 0), .val (.int .i64 0)] 84, .var (blk (env2 11)) [.val (.int .i64 x4.1.fFrom), .val (.int .i64 x4.1.fTo), .val (.string (bs x4.1.fIn)), .val (.int .i64 x4.1.fAt)] 165, .var (blk p11) [.val (.int .i64 x9.1.fAt), .val (.int .i64 x9.1.fN)] 88, .var (blk (env13 18)) [.sl 2 (List.map e_arena_Span x17.1.fL), .val (.int .i64 x17.1.fN)] 82]) (o1 := fun x => [.var b0 [.val (vn (env13 14) 0)] 142, .row (vn (env13 14) 0) (List.map byteD x17.2.2) 1 5, .var (blk p1) [.sl 2 (List.map e_arena_Span x17.1.fL), .val (.int .i64 x17.1.fN), .val (.int .i64 x21)] 84, .var (blk (env2 11)) [.val (.int .i64 x4.1.fFrom), .val (.int .i64 x4.1.fTo), .val (.string (bs x4.1.fIn)), .val (.int .i64 x4.1.fAt)] 165, .var (blk p11) [.val (.int .i64 x9.1.fAt), .val (.int .i64 x9.1.fN)] 88, .var (blk (env13 18)) [.sl 2 (List.map e_arena_Span x17.1.fL), .val (.int .i64 x17.1.fN)] 82]) (d := fun x => .dead) (Want.plain rfl) (by first | rfl | simp only [hA.me, cond_true, cond_false, List.cons_append, List.nil_append, List.append_nil]) (fun x => by first | rfl | simp only [ins_self, upd_self, hA.me, cond_true, cond_false, List.cons_append, List.nil_append, List.append_nil]) (fun x => rfl) (OpR.store 2 rfl rfl rfl rfl rfl rfl rfl rfl)
   refine oS (d := .val (.bool x4.2)) (fun _ => Want.plain rfl) (fun _ => rfl) (fun _ _ _ => rfl) (fun _ _ => OpR.pure rfl) (fun _ _ _ _ _ _ _ => rfl) ?_
   refine oS (d := .val (.int .i64 0)) (fun _ => Want.plain rfl) (fun _ => rfl) (fun _ _ _ => rfl) (fun _ _ => OpR.pure rfl) (fun _ _ _ _ _ _ _ => rfl) ?_
   exact trivial
 refine oS (d := .nod [.sl 2 (List.map e_arena_Span a0.fT.fL), .val (.int .i64 a0.fT.fN), .val (.int .i64 a0.fAt)]) (fun _ => Want.plain rfl) (fun _ => rfl) (fun _ _ _ => rfl) (fun _ _ => OpR.pure rfl) (fun _ _ _ _ _ _ _ => rfl) ?_
 refine oS (d := .agg [.sl 2 (List.map e_arena_Span a0.fT.fL), .val (.int .i64 a0.fT.fN)]) (fun _ => Want.plain rfl) (fun _ => rfl) (fun _ _ _ => rfl) (fun _ _ => OpR.pure rfl) (fun _ _ _ _ _ _ _ => rfl) ?_
 refine oS (d := .val (.pointer (some ⟨(blk (env2 11)), 0, none⟩))) (fun _ => Want.plain rfl) (fun _ => rfl) (fun _ _ _ => rfl) (fun _ _ => OpR.pure rfl) (fun _ _ _ _ _ _ _ => rfl) ?_
 refine oS (d := .val (.int .i64 x4.1.fFrom)) (fun _ => Want.plain rfl) (fun _ => rfl) (fun _ _ _ => rfl) (fun _ _ => OpR.loadPtr 3 rfl rfl rfl rfl) (fun _ _ _ _ _ _ _ => rfl) ?_
 refine oS (d := .val (.pointer (some ⟨(blk (env2 11)), 1, none⟩))) (fun _ => Want.plain rfl) (fun _ => rfl) (fun _ _ _ => rfl) (fun _ _ => OpR.pure rfl) (fun _ _ _ _ _ _ _ => rfl) ?_
 refine oS (d := .val (.int .i64 x4.1.fTo)) (fun _ => Want.plain rfl) (fun _ => rfl) (fun _ _ _ => rfl) (fun _ _ => OpR.loadPtr 3 rfl rfl rfl rfl) (fun _ _ _ _ _ _ _ => rfl) ?_
 refine oS (d := .agg [.sl 2 (List.map e_arena_Span x14.fL), .val (.int .i64 x14.fN)]) (fun _ => Want.plain rfl) (fun _ => rfl) (fun _ _ _ => rfl) (fun _ _ => OpR.call0 fn84 (piece_Text_Delete_c hx14) rfl) (fun _ _ _ _ _ _ _ => rfl) ?_
 refine oS (d := .val (.pointer (some ⟨(blk (env2 11)), 0, none⟩))) (fun _ => Want.plain rfl) (fun _ => rfl) (fun _ _ _ => rfl) (fun _ _ => OpR.pure rfl) (fun _ _ _ _ _ _ _ => rfl) ?_
 refine oS (d := .val (.int .i64 x4.1.fFrom)) (fun _ => Want.plain rfl) (fun _ => rfl) (fun _ _ _ => rfl) (fun _ _ => OpR.loadPtr 3 rfl rfl rfl rfl) (fun _ _ _ _ _ _ _ => rfl) ?_
 refine oS (d := .agg [.val (.int .i64 x9.1.fAt), .val (.int .i64 x9.1.fN)]) (fun _ => Want.plain rfl) (fun _ => rfl) (fun _ _ _ => rfl) (fun _ _ => OpR.loadPtr 4 rfl rfl rfl rfl) (fun _ _ _ _ _ _ _ => rfl) ?_
 refine oS (d := .sl 2 (List.map e_arena_Span [x9.1])) (fun _ => Want.plain rfl) (fun _ => rfl) (fun _ _ _ => rfl) (fun _ _ => OpR.lit rfl rfl rfl rfl rfl rfl rfl) (fun _ _ _ _ _ _ _ => rfl) ?_
 refine oS (d := .agg [.sl 2 (List.map e_arena_Span x15.fL), .val (.int .i64 x15.fN)]) (fun _ => Want.plain rfl) (fun _ => rfl) (fun _ _ _ => rfl) (fun _ _ => OpR.call0 fn42 (piece_Of_c hx15) rfl) (fun _ _ _ _ _ _ _ => rfl) ?_
 refine oS (d := .agg [.sl 2 (List.map e_arena_Span x16.fL), .val (.int .i64 x16.fN)]) (fun _ => Want.plain rfl) (fun _ => rfl) (fun _ _ _ => rfl) (fun _ _ => OpR.call0 fn85 (piece_Text_Insert_c hx16) rfl) (fun _ _ _ _ _ _ _ => rfl) ?_
 refine oS (d := .val (.pointer (some ⟨b0, 0, none⟩))) (fun _ => Want.plain rfl) (fun _ => rfl) (fun _ _ _ => rfl) (fun _ _ => OpR.pure rfl) (fun _ _ _ _ _ _ _ => rfl) ?_
 refine OpsS.cons' true ?_ (fun D hA env13 x j hj hD => match j, hj, hD with | 0, _, _ => rfl | 1, _, _ => rfl | 2, _, _ => rfl | 3, _, _ => rfl | 4, _, _ => rfl | 5, _, _ => rfl | 6, _, _ => rfl | 7, _, _ => rfl | 8, _, _ => rfl | 9, _, _ => rfl | 10, _, _ => rfl | 11, _, _ => rfl | 12, _, _ => rfl | 13, _, _ => rfl | 14, hj, _ => absurd rfl hj | 15, _, _ => rfl | 16, _, _ => rfl | 17, _, _ => rfl | 18, _, _ => rfl | 19, _, _ => rfl | 20, _, _ => rfl | _ + 21, _, _ => rfl) ?_
 · intro D env13 hA
   have e19 : D 19 = false := hA.no 19 _ rfl rfl
   rcases Bool.eq_false_or_eq_true (D 18) with e18 | e18
   rotate_left
   · exact OpS.yes (o0 := [.var b0 [.val (vn w10 0)] 142, .row (vn w10 0) (List.map byteD x9.2.2) 1 5, .var (blk p1) [.val (.slice none 0 0), .val (.int .i64 0), .val (.int .i64 0)] 84, .var (blk (env2 11)) [.val (.int .i64 x4.1.fFrom), .val (.int .i64 x4.1.fTo), .val (.string (bs x4.1.fIn)), .val (.int .i64 x4.1.fAt)] 165, .var (blk p11) [.val (.int .i64 x9.1.fAt), .val (.int .i64 x9.1.fN)] 88]) (o1 := fun x => [.var b0 [.val (vn x 0)] 142, .row (vn x 0) (List.map byteD x17.2.2) 1 5, .var (blk p1) [.val (.slice none 0 0), .val (.int .i64 0), .val (.int .i64 0)] 84, .var (blk (env2 11)) [.val (.int .i64 x4.1.fFrom), .val (.int .i64 x4.1.fTo), .val (.string (bs x4.1.fIn)), .val (.int .i64 x4.1.fAt)] 165, .var (blk p11) [.val (.int .i64 x9.1.fAt), .val (.int .i64 x9.1.fN)] 88]) (d := fun x => .tup [.agg [.sl 2 (List.map e_arena_Span x17.1.fL), .val (.int .i64 x17.1.fN)], .val (.int .i64 x17.2.1)]) (Want.plain rfl) (by first | rfl | simp only [e19, e18, hA.me, cond_true, cond_false, List.cons_append, List.nil_append, List.append_nil]) (fun x => by first | rfl | simp only [ins_self, ins_ne D (show 14 ≠ 18 by decide), ins_ne D (show 14 ≠ 19 by decide), upd_self, upd_ne env13 x (show 14 ≠ 18 by decide), e19, e18, hA.me, cond_true, cond_false, List.cons_append, List.nil_append, List.append_nil]) (fun x => rfl) (OpR.call [0, 1] fn86 (piece_Text_Tidy_c hx17) rfl rfl rfl (fun _ => rfl))
   exact OpS.yes (o0 := [.var b0 [.val (vn w10 0)] 142, .row (vn w10 0) (List.map byteD x9.2.2) 1 5, .var (blk p1) [.val (.slice none 0 0), .val (.int .i64 0), .val (.int .i64 0)] 84, .var (blk (env2 11)) [.val (.int .i64 x4.1.fFrom), .val (.int .i64 x4.1.fTo), .val (.string (bs x4.1.fIn)), .val (.int .i64 x4.1.fAt)] 165, .var (blk p11) [.val (.int .i64 x9.1.fAt), .val (.int .i64 x9.1.fN)] 88, .var (blk (env13 18)) [.val (.slice none 0 0), .val (.int .i64 0)] 82]) (o1 := fun x => [.var b0 [.val (vn x 0)] 142, .row (vn x 0) (List.map byteD x17.2.2) 1 5, .var (blk p1) [.val (.slice none 0 0), .val (.int .i64 0), .val (.int .i64 0)] 84, .var (blk (env2 11)) [.val (.int .i64 x4.1.fFrom), .val (.int .i64 x4.1.fTo), .val (.string (bs x4.1.fIn)), .val (.int .i64 x4.1.fAt)] 165, .var (blk p11) [.val (.int .i64 x9.1.fAt), .val (.int .i64 x9.1.fN)] 88, .var (blk (env13 18)) [.val (.slice none 0 0), .val (.int .i64 0)] 82]) (d := fun x => .tup [.agg [.sl 2 (List.map e_arena_Span x17.1.fL), .val (.int .i64 x17.1.fN)], .val (.int .i64 x17.2.1)]) (Want.plain rfl) (by first | rfl | simp only [e19, e18, hA.me, cond_true, cond_false, List.cons_append, List.nil_append, List.append_nil]) (fun x => by first | rfl | simp only [ins_self, ins_ne D (show 14 ≠ 18 by decide), ins_ne D (show 14 ≠ 19 by decide), upd_self, upd_ne env13 x (show 14 ≠ 18 by decide), e19, e18, hA.me, cond_true, cond_false, List.cons_append, List.nil_append, List.append_nil]) (fun x => rfl) (OpR.call [0, 1] fn86 (piece_Text_Tidy_c hx17) rfl rfl rfl (fun _ => rfl))
 refine oS (d := .tup [.agg [.sl 2 (List.map e_arena_Span x17.1.fL), .val (.int .i64 x17.1.fN)], .val (.int .i64 x17.2.1)]) (fun _ => Want.plain rfl) (fun _ => rfl) (fun _ _ _ => rfl) (fun _ _ => OpR.pure rfl) (fun _ _ _ _ _ _ _ => rfl) ?_
 refine oS (d := .agg [.sl 2 (List.map e_arena_Span x17.1.fL), .val (.int .i64 x17.1.fN)]) (fun _ => Want.plain rfl) (fun _ => rfl) (fun _ _ _ => rfl) (fun _ _ => OpR.pure rfl) (fun _ _ _ _ _ _ _ => rfl) ?_
 refine oS (d := .val (.int .i64 x17.2.1)) (fun _ => Want.plain rfl) (fun _ => rfl) (fun _ _ _ => rfl) (fun _ _ => OpR.pure rfl) (fun _ _ _ _ _ _ _ => rfl) ?_
 refine OpsS.cons' true ?_ (fun D hA env13 x j hj hD => match j, hj, hD with | 0, _, _ => rfl | 1, _, _ => rfl | 2, _, _ => rfl | 3, _, _ => rfl | 4, _, _ => rfl | 5, _, _ => rfl | 6, _, _ => rfl | 7, _, _ => rfl | 8, _, _ => rfl | 9, _, _ => rfl | 10, _, _ => rfl | 11, _, _ => rfl | 12, _, _ => rfl | 13, _, _ => rfl | 14, _, _ => rfl | 15, _, _ => rfl | 16, _, _ => rfl | 17, _, _ => rfl | 18, hj, _ => absurd rfl hj | 19, _, _ => rfl | 20, _, _ => rfl | _ + 21, _, _ => rfl) ?_
 · intro D env13 hA
   have e19 : D 19 = false := hA.no 19 _ rfl rfl
   rcases Bool.eq_false_or_eq_true (D 14) with e14 | e14
   rotate_left
   · exact OpS.yes (o0 := [.var b0 [.val (vn w10 0)] 142, .row (vn w10 0) (List.map byteD x9.2.2) 1 5, .var (blk p1) [.val (.slice none 0 0), .val (.int .i64 0), .val (.int .i64 0)] 84, .var (blk (env2 11)) [.val (.int .i64 x4.1.fFrom), .val (.int .i64 x4.1.fTo), .val (.string (bs x4.1.fIn)), .val (.int .i64 x4.1.fAt)] 165, .var (blk p11) [.val (.int .i64 x9.1.fAt), .val (.int .i64 x9.1.fN)] 88]) (o1 := fun x => [.var b0 [.val (vn w10 0)] 142, .row (vn w10 0) (List.map byteD x9.2.2) 1 5, .var (blk p1) [.val (.slice none 0 0), .val (.int .i64 0), .val (.int .i64 0)] 84, .var (blk (env2 11)) [.val (.int .i64 x4.1.fFrom), .val (.int .i64 x4.1.fTo), .val (.string (bs x4.1.fIn)), .val (.int .i64 x4.1.fAt)] 165, .var (blk p11) [.val (.int .i64 x9.1.fAt), .val (.int .i64 x9.1.fN)] 88, .var (blk x) [.val (.slice none 0 0), .val (.int .i64 0)] 82]) (d := fun x => .val (.pointer (some ⟨(blk x), 0, none⟩))) (Want.plain rfl) (by first | rfl | simp only [e19, e14, hA.me, cond_true, cond_false, List.cons_append, List.nil_append, List.append_nil]) (fun x => by first | rfl | simp only [ins_self, ins_ne D (show 18 ≠ 14 by decide), ins_ne D (show 18 ≠ 19 by decide), upd_self, upd_ne env13 x (show 18 ≠ 14 by decide), e19, e14, hA.me, cond_true, cond_false, List.cons_append, List.nil_append, List.append_nil]) (fun x => rfl) (OpR.alloc rfl rfl (fun _ => rfl))
   exact OpS.yes (o0 := [.var b0 [.val (vn (env13 14) 0)] 142, .row (vn (env13 14) 0) (List.map byteD x17.2.2) 1 5, .var (blk p1) [.val (.slice none 0 0), .val (.int .i64 0), .val (.int .i64 0)] 84, .var (blk (env2 11)) [.val (.int .i64 x4.1.fFrom), .val (.int .i64 x4.1.fTo), .val (.string (bs x4.1.fIn)), .val (.int .i64 x4.1.fAt)] 165, .var (blk p11) [.val (.int .i64 x9.1.fAt), .val (.int .i64 x9.1.fN)] 88]) (o1 := fun x => [.var b0 [.val (vn (env13 14) 0)] 142, .row (vn (env13 14) 0) (List.map byteD x17.2.2) 1 5, .var (blk p1) [.val (.slice none 0 0), .val (.int .i64 0), .val (.int .i64 0)] 84, .var (blk (env2 11)) [.val (.int .i64 x4.1.fFrom), .val (.int .i64 x4.1.fTo), .val (.string (bs x4.1.fIn)), .val (.int .i64 x4.1.fAt)] 165, .var (blk p11) [.val (.int .i64 x9.1.fAt), .val (.int .i64 x9.1.fN)] 88, .var (blk x) [.val (.slice none 0 0), .val (.int .i64 0)] 82]) (d := fun x => .val (.pointer (some ⟨(blk x), 0, none⟩))) (Want.plain rfl) (by first | rfl | simp only [e19, e14, hA.me, cond_true, cond_false, List.cons_append, List.nil_append, List.append_nil]) (fun x => by first | rfl | simp only [ins_self, ins_ne D (show 18 ≠ 14 by decide), ins_ne D (show 18 ≠ 19 by decide), upd_self, upd_ne env13 x (show 18 ≠ 14 by decide), e19, e14, hA.me, cond_true, cond_false, List.cons_append, List.nil_append, List.append_nil]) (fun x => rfl) (OpR.alloc rfl rfl (fun _ => rfl))
 refine OpsS.cons' true ?_ (fun _ _ _ _ _ _ _ => rfl) ?_
 · intro D env13 hA
   have e14 : D 14 = true := hA.yes 14 _ rfl rfl
   have e18 : D 18 = true := hA.yes 18 _ rfl rfl
   exact OpS.yes (o0 := [.var b0 [.val (vn (env13 14) 0)] 142, .row (vn (env13 14) 0) (List.map byteD x17.2.2) 1 5, .var (blk p1) [.val (.slice none 0 0), .val (.int .i64 0), .val (.int .i64 0)] 84, .var (blk (env2 11)) [.val (.int .i64 x4.1.fFrom), .val (.int .i64 x4.1.fTo), .val (.string (bs x4.1.fIn)), .val (.int .i64 x4.1.fAt)] 165, .var (blk p11) [.val (.int .i64 x9.1.fAt), .val (.int .i64 x9.1.fN)] 88, .var (blk (env13 18)) [.val (.slice none 0 0), .val (.int .i64 0)] 82]) (o1 := fun x => [.var b0 [.val (vn (env13 14) 0)] 142, .row (vn (env13 14) 0) (List.map byteD x17.2.2) 1 5, .var (blk p1) [.val (.slice none 0 0), .val (.int .i64 0), .val (.int .i64 0)] 84, .var (blk (env2 11)) [.val (.int .i64 x4.1.fFrom), .val (.int .i64 x4.1.fTo), .val (.string (bs x4.1.fIn)), .val (.int .i64 x4.1.fAt)] 165, .var (blk p11) [.val (.int .i64 x9.1.fAt), .val (.int .i64 x9.1.fN)] 88, .var (blk (env13 18)) [.sl 2 (List.map e_arena_Span x17.1.fL), .val (.int .i64 x17.1.fN)] 82]) (d := fun x => .dead) (Want.plain rfl) (by first | rfl | simp only [e14, e18, hA.me, cond_true, cond_false, List.cons_append, List.nil_append, List.append_nil]) (fun x => by first | rfl | simp only [ins_self, ins_ne D (show 19 ≠ 14 by decide), ins_ne D (show 19 ≠ 18 by decide), upd_self, upd_ne env13 x (show 19 ≠ 14 by decide), upd_ne env13 x (show 19 ≠ 18 by decide), e14, e18, hA.me, cond_true, cond_false, List.cons_append, List.nil_append, List.append_nil]) (fun x => rfl) (OpR.store 5 rfl rfl rfl rfl rfl rfl rfl rfl)
 refine oS (d := .val (.int .i64 x17.2.1)) (fun _ => Want.plain rfl) (fun _ => rfl) (fun _ _ _ => rfl) (fun _ _ => OpR.pure rfl) (fun _ _ _ _ _ _ _ => rfl) ?_
 exact trivial
end Go.Proofs.Ytbcbggdgkdfciaa.S
