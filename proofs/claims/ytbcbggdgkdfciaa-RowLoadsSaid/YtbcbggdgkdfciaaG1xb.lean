/- Printed by a program of this session's own (gen.py): Lean functions for Go functions, and the proofs that the Go code comes to their answers. -/
import Derived.Test.YtbcbggdgkdfciaaG1xa
import Derived.Test.YtbcbggdgkdfciaaG2xa
set_option linter.unusedVariables false
set_option linter.unusedSimpArgs false
set_option maxRecDepth 20000
namespace Go.Proofs.Ytbcbggdgkdfciaa.S
open Go Go.Sm
attribute [local irreducible] T TL OpR CallT iter loop
noncomputable def ref08_Load.l1 (a0 : List UInt8) (a1 : ref05_Row) (s8 : Int × (List ref07_Cell)) : Option (Lp (Int × (List ref07_Cell)) (Ex (List ref07_Cell) (ref08_Row × Int))) :=
  if s8.1 < (a1.fFields.length : Int) then
    bnd (idx a1.fFields s8.1) fun x17 =>
    if (x17.fBytes.length : Int) > 400 then
      some (Lp.done (Ex.ret ((⟨[], 0, false⟩ : ref08_Row), 7)))
    else
      bnd (ref05_Text a0 x17.fBytes) fun x21 =>
      bnd (cut a0 x17.fRaw.fAt (w64 (x17.fRaw.fAt + x17.fRaw.fN))) fun x22 =>
      bnd (app 40 s8.2 [(⟨x21, x22, true⟩ : ref07_Cell)]) fun x23 =>
      some (Lp.next (w64 (s8.1 + 1), x23))
  else
    some (Lp.done (Ex.brk s8.2))
noncomputable def ref08_Load (a0 : List UInt8) (a1 : ref05_Row) : Option (ref08_Row × Int) :=
  if (a1.fFields.length : Int) > 40 then
    some ((⟨[], 0, false⟩ : ref08_Row), 6)
  else
    bnd (loop (ref08_Load.l1 a0 a1) (0, []) : Option (Ex (List ref07_Cell) (ref08_Row × Int))) fun t4 => match t4 with
      | .brk u5 =>
        some ((⟨u5, a1.fEnd, false⟩ : ref08_Row), 0)
      | .ret u5 => some u5
set_option maxHeartbeats 4000000 in
theorem ref08_Load_c {a0 : List UInt8} {a1 : ref05_Row} {res : ref08_Row × Int} (h0 : ref08_Load a0 a1 = some res) : CallF X 29 [.val (.string (bs a0)), .agg [.sl 4 (List.map e_ref05_Field a1.fFields), .val (.int .i64 a1.fEnd)]] [] (fun x => .tup [.agg [.sl 3 (List.map e_ref07_Cell res.1.fCells), .val (.int .i64 res.1.fEnd), .val (.bool res.1.fHidden)], .val (.int .i64 res.2)]) (fun x => []) := by
 unfold ref08_Load at h0
 refine CallF.mkG (X := X) Try.func29 rfl rfl Try.ntmps29 rfl rfl ?_
 refine T.seq ?_
 refine T.region ?_
 refine TL.op1 (OpR.boxImm rfl rfl) rfl ?_
 refine TL.op (OpR.alloc rfl rfl (fun _ => rfl)) rfl (fun p1 => ?_)
 refine TL.op1 (OpR.pure rfl) rfl ?_
 refine TL.nil ?_
 show T X _ _ _
 refine T.seq ?_
 refine T.region ?_
 refine TL.op1 (OpR.pure rfl) rfl ?_
 refine TL.op1 (OpR.pure rfl) rfl ?_
 refine TL.op1 (OpR.build rfl rfl rfl rfl rfl) rfl ?_
 refine TL.op (OpR.alloc rfl rfl (fun _ => rfl)) rfl (fun p2 => ?_)
 refine TL.op0 (OpR.store 1 rfl rfl rfl rfl rfl rfl rfl rfl) ?_
 refine TL.nil ?_
 show T X _ _ _
 refine T.seq ?_
 refine T.seq ?_
 refine T.region ?_
 refine TL.op1 (OpR.pure rfl) rfl ?_
 refine TL.op1 (OpR.pure rfl) rfl ?_
 refine TL.op1 (OpR.cast (OpR.pure rfl) (intE (lenM _ _))) rfl ?_
 refine TL.op1 (OpR.pure rfl) rfl ?_
 refine TL.nil ?_
 show T X _ _ _
 rcases ite_some h0 with ⟨c3, h0⟩ | ⟨c3, h0⟩
 · refine T.condT rfl (decide_eq_true c3) ?_
   refine T.seq ?_
   refine T.region ?_
   refine TL.op1 (OpR.build rfl rfl rfl rfl rfl) rfl ?_
   refine TL.op0 (OpR.store 0 rfl rfl rfl rfl rfl rfl rfl rfl) ?_
   refine TL.op1 (OpR.pure rfl) rfl ?_
   refine TL.nil ?_
   show T X _ _ _
   refine T.ret ?_
   obtain rfl := Option.some.inj h0
   exact PostG.retP (ks := []) (Gst.trans (Gst.only [4, 5] rfl) (Gst.trans (Gst.denil (ReS.cons Re.refl (ReS.cons Re.refl ReS.nil)) (ReO.var (ReL.cons (Re.base .nil) (ReL.cons Re.refl (ReL.cons Re.refl ReL.nil))) (ReO.same ReO.nil))) (Gst.pick [0] rfl rfl))) undef (ResL.cons (ResV.var 0 rfl rfl rfl rfl) (ResL.cons (ResV.tmp rfl) ResL.nil)) rfl rfl rfl rfl
 refine T.condF rfl (decide_eq_false c3) ?_
 refine T.skip ?_
 show T X _ _ _
 refine T.seq ?_
 refine T.seq ?_
 refine T.region ?_
 refine TL.op1 (OpR.pure rfl) rfl ?_
 refine TL.op1 (OpR.pure rfl) rfl ?_
 refine TL.op1 (OpR.cast (OpR.pure rfl) (intE (lenM _ _))) rfl ?_
 refine TL.op1 (OpR.pure rfl) rfl ?_
 refine TL.nil ?_
 show T X _ _ _
 obtain ⟨t4, ht4, h0⟩ := bnd_some h0
 refine T.cutC (fun S' => ∃ u5, t4 = Ex.brk u5 ∧ ∃ y6 : Value, S' = ⟨[(6, .val (.pointer (some ⟨(blk p2), 0, none⟩))), (5, .val (.int .i64 0)), (4, .val (.pointer (some ⟨(blk p1), 0, none⟩)))], [.var (blk p1) [.val (.slice none 0 0), .val (.int .i64 0), .val (.bool false)] 57, .var (blk p2) [.val y6, .val (.int .i64 a1.fEnd), .val (.bool false)] 57, .row y6 (List.map e_ref07_Cell u5) 3 112], 53⟩) (fun _ h => h) ?_ ?_
 rotate_left
 · rintro _ ⟨u5, rfl, y6, rfl⟩
   show T X _ _ _
   refine T.seq ?_
   refine T.region ?_
   refine TL.op1 (OpR.loadPtr 1 rfl rfl rfl rfl) rfl ?_
   refine TL.op0 (OpR.store 0 rfl rfl rfl rfl rfl rfl rfl rfl) ?_
   refine TL.op1 (OpR.pure rfl) rfl ?_
   refine TL.nil ?_
   show T X _ _ _
   refine T.ret ?_
   obtain rfl := Option.some.inj h0
   exact PostG.retP (ks := []) (Gst.trans (Gst.only [4, 5] rfl) (Gst.trans (Gst.freezeRow 2 rfl rfl (ReS.cons Re.refl (ReS.cons Re.refl ReS.nil)) (ReO.var (ReL.cons (Re.base .all) (ReL.cons Re.refl (ReL.cons Re.refl ReL.nil))) (ReO.var (ReL.cons (Re.base .all) (ReL.cons Re.refl (ReL.cons Re.refl ReL.nil))) (ReO.same ReO.nil)))) (Gst.pick [0] rfl rfl))) undef (ResL.cons (ResV.var 0 rfl rfl rfl rfl) (ResL.cons (ResV.tmp rfl) ResL.nil)) rfl rfl rfl rfl
 refine T.block ?_
 obtain ⟨n9, n14⟩ := loop_some ht4
 refine T.loop (fun n S' => ∃ S'', Gst S' S'' ∧ ∃ y7 : Value, ∃ s8 : Int × (List ref07_Cell), S'' = ⟨[(20, .val (.int .i64 s8.1)), (19, .val (.int .i64 (a1.fFields.length : Int))), (18, .sl 4 (List.map e_ref05_Field a1.fFields)), (6, .val (.pointer (some ⟨(blk p2), 0, none⟩))), (5, .val (.int .i64 0)), (4, .val (.pointer (some ⟨(blk p1), 0, none⟩))), (0, .val (.string (bs a0)))], [.var (blk p1) [.val (.slice none 0 0), .val (.int .i64 0), .val (.bool false)] 57, .var (blk p2) [.val y7, .val (.int .i64 a1.fEnd), .val (.bool false)] 57, .row y7 (List.map e_ref07_Cell s8.2) 3 112], 53⟩ ∧ iter (ref08_Load.l1 a0 a1) n s8 = some t4) n9 ?_ ?_
 · exact ⟨_, Gst.trans (Gst.only [0, 4, 5, 6, 18, 19, 20] rfl) (Gst.nilRow (ow := [.var (blk p1) [.val (.slice none 0 0), .val (.int .i64 0), .val (.bool false)] 57, .var (blk p2) [.val (.slice none 0 0), .val (.int .i64 a1.fEnd), .val (.bool false)] 57]) 3 112 rfl), (.slice none 0 0), (0, []), rfl, n14⟩
 rintro n9 _ ⟨_, g, y7, s8, rfl, i13⟩
 refine T.ghost g ?_
 obtain ⟨m10, q11, rfl, q12, i13⟩ := iter_succ i13
 unfold ref08_Load.l1 at q12
 refine T.seq ?_
 refine T.region ?_
 refine TL.op1 (OpR.pure rfl) rfl ?_
 refine TL.nil ?_
 show T X _ _ _
 refine T.seq ?_
 rcases ite_some q12 with ⟨c16, q12⟩ | ⟨c16, q12⟩
 rotate_left
 · refine T.condF rfl (decide_eq_false c16) ?_
   refine T.exit ?_
   obtain rfl := Option.some.inj q12
   obtain rfl : _ = _ := i13
   exact ⟨_, Gst.only [4, 5, 6] rfl, _, rfl, y7, rfl⟩
 refine T.condT rfl (decide_eq_true c16) ?_
 refine T.skip ?_
 show T X _ _ _
 refine T.seq ?_
 refine T.block ?_
 refine T.seq ?_
 refine T.region ?_
 obtain ⟨x17, hx17, q12⟩ := bnd_some q12
 refine TL.op1 (OpR.indexM e_ref05_Field hx17 rfl rfl rfl rfl rfl) rfl ?_
 refine TL.op1 (OpR.pure rfl) rfl ?_
 refine TL.op (OpR.alloc rfl rfl (fun _ => rfl)) rfl (fun p18 => ?_)
 refine TL.op0 (OpR.store 3 rfl rfl rfl rfl rfl rfl rfl rfl) ?_
 refine TL.nil ?_
 show T X _ _ _
 refine T.seq ?_
 refine T.seq ?_
 refine T.region ?_
 refine TL.op1 (OpR.pure rfl) rfl ?_
 refine TL.op1 (OpR.loadPtr 3 rfl rfl rfl rfl) rfl ?_
 refine TL.op1 (OpR.cast (OpR.pure rfl) (intE (lenM _ _))) rfl ?_
 refine TL.op1 (OpR.pure rfl) rfl ?_
 refine TL.nil ?_
 show T X _ _ _
 rcases ite_some q12 with ⟨c19, q12⟩ | ⟨c19, q12⟩
 · refine T.condT rfl (decide_eq_true c19) ?_
   refine T.seq ?_
   refine T.region ?_
   refine TL.op1 (OpR.build rfl rfl rfl rfl rfl) rfl ?_
   refine TL.op0 (OpR.store 0 rfl rfl rfl rfl rfl rfl rfl rfl) ?_
   refine TL.op1 (OpR.pure rfl) rfl ?_
   refine TL.nil ?_
   show T X _ _ _
   refine T.ret ?_
   obtain rfl := Option.some.inj q12
   obtain rfl : _ = _ := i13
   obtain rfl := Option.some.inj h0
   exact PostG.retP (ks := []) (Gst.trans (Gst.only [4, 5] rfl) (Gst.trans (Gst.denil (ReS.cons Re.refl (ReS.cons Re.refl ReS.nil)) (ReO.var (ReL.cons (Re.base .nil) (ReL.cons Re.refl (ReL.cons Re.refl ReL.nil))) (ReO.same (ReO.same (ReO.same ReO.nil))))) (Gst.pick [0] rfl rfl))) undef (ResL.cons (ResV.var 0 rfl rfl rfl rfl) (ResL.cons (ResV.tmp rfl) ResL.nil)) rfl rfl rfl rfl
 refine T.condF rfl (decide_eq_false c19) ?_
 refine T.skip ?_
 show T X _ _ _
 obtain ⟨x21, hx21, q12⟩ := bnd_some q12
 obtain ⟨x22, hx22, q12⟩ := bnd_some q12
 obtain ⟨x23, hx23, q12⟩ := bnd_some q12
 refine T.drawS drawsX (fun env20 => [.val (.pointer (some ⟨(blk p2), 0, none⟩)), .val y7, .val (.string (bs a0)), .val (.pointer (some ⟨(blk p18), 3, none⟩)), .sl 1 (List.map (eI .i64) x17.fBytes), .val (.string (bs x21)), .val (.string (bs a0)), .val (.pointer (some ⟨(blk p18), 0, none⟩)), .val (.pointer (some ⟨(blk p18), 0, none⟩)), .val (.int .i64 x17.fRaw.fAt), .val (.pointer (some ⟨(blk p18), 0, none⟩)), .val (.pointer (some ⟨(blk p18), 0, none⟩)), .val (.int .i64 x17.fRaw.fAt), .val (.pointer (some ⟨(blk p18), 0, none⟩)), .val (.pointer (some ⟨(blk p18), 1, none⟩)), .val (.int .i64 x17.fRaw.fN), .val (.int .i64 (w64 (x17.fRaw.fAt + x17.fRaw.fN))), .val (.string (bs x22)), .agg [.val (.string (bs x21)), .val (.string (bs x22)), .val (.bool true)], .sl 3 (List.map e_ref07_Cell [(⟨x21, x22, true⟩ : ref07_Cell)]), .val (env20 20), .val (.pointer (some ⟨(blk p2), 0, none⟩)), .dead]) (fun D env20 => [.var (blk p1) [.val (.slice none 0 0), .val (.int .i64 0), .val (.bool false)] 57, (bif D 22 then .var (blk p2) [.val (env20 20), .val (.int .i64 a1.fEnd), .val (.bool false)] 57 else .var (blk p2) [.val y7, .val (.int .i64 a1.fEnd), .val (.bool false)] 57), (bif D 20 then .row (env20 20) (List.map e_ref07_Cell x23) 3 112 else .row y7 (List.map e_ref07_Cell s8.2) 3 112), .var (blk p18) [.val (.int .i64 x17.fRaw.fAt), .val (.int .i64 x17.fRaw.fN), .val (.int .i64 x17.fKind), .sl 1 (List.map (eI .i64) x17.fBytes)] 152]) [0, 1, 0, 0, 8, 28, 0, 0, 128, 384, 0, 1024, 3072, 0, 8192, 24576, 64512, 131008, 262140, 524284, 1048575, 2097151, 4194303] [0, 4, 5, 6, 8, 18, 19, 20, 21, 22, 23, 24, 25, 26, 27, 29, 30, 31, 32, 33, 34, 35, 36, 37, 38, 39, 40, 41, 42, 43, 44, 45, 46, 47, 48, 49, 50] (fun env20 => [.var (blk p1) [.val (.slice none 0 0), .val (.int .i64 0), .val (.bool false)] 57, .var (blk p2) [.val (env20 20), .val (.int .i64 a1.fEnd), .val (.bool false)] 57, .row (env20 20) (List.map e_ref07_Cell x23) 3 112, .var (blk p18) [.val (.int .i64 x17.fRaw.fAt), .val (.int .i64 x17.fRaw.fN), .val (.int .i64 x17.fKind), .sl 1 (List.map (eI .i64) x17.fBytes)] 152]) (by decide +kernel) (by decide +kernel) (fun _ => rfl) (fun _ => rfl) ?_ (fun _ => rfl) (fun _ => rfl) ?_
 rotate_left
 · intro env20
   show T X _ _ _
   refine T.region ?_
   refine TL.op1 (OpR.pure rfl) rfl ?_
   refine TL.op1 (OpR.pure rfl) rfl ?_
   refine TL.nil ?_
   obtain rfl := Option.some.inj q12
   exact ⟨m10, Nat.lt_succ_self _, _, Gst.trans (Gst.only [0, 4, 5, 6, 18, 19, 20] rfl) (Gst.pick [0, 1, 2] rfl rfl), (env20 20), (w64 (s8.1 + 1), x23), rfl, i13⟩
 refine oS (d := .val (.pointer (some ⟨(blk p2), 0, none⟩))) (fun _ => Want.plain rfl) (fun _ => rfl) (fun _ _ _ => rfl) (fun _ _ => OpR.pure rfl) (fun _ _ _ _ _ _ _ => rfl) ?_
 refine OpsS.cons' true ?_ (fun _ _ _ _ _ _ _ => rfl) ?_
 · intro D env20 hA
   have e20 : D 20 = false := hA.no 20 _ rfl rfl
   have e22 : D 22 = false := hA.no 22 _ rfl rfl
   exact OpS.yes (o0 := [.var (blk p1) [.val (.slice none 0 0), .val (.int .i64 0), .val (.bool false)] 57, .var (blk p2) [.val y7, .val (.int .i64 a1.fEnd), .val (.bool false)] 57, .row y7 (List.map e_ref07_Cell s8.2) 3 112, .var (blk p18) [.val (.int .i64 x17.fRaw.fAt), .val (.int .i64 x17.fRaw.fN), .val (.int .i64 x17.fKind), .sl 1 (List.map (eI .i64) x17.fBytes)] 152]) (o1 := fun x => [.var (blk p1) [.val (.slice none 0 0), .val (.int .i64 0), .val (.bool false)] 57, .var (blk p2) [.val y7, .val (.int .i64 a1.fEnd), .val (.bool false)] 57, .row y7 (List.map e_ref07_Cell s8.2) 3 112, .var (blk p18) [.val (.int .i64 x17.fRaw.fAt), .val (.int .i64 x17.fRaw.fN), .val (.int .i64 x17.fKind), .sl 1 (List.map (eI .i64) x17.fBytes)] 152]) (d := fun x => .val y7) (Want.plain rfl) (by first | rfl | simp only [e20, e22, cond_true, cond_false, List.cons_append, List.nil_append, List.append_nil]) (fun x => by first | rfl | simp only [ins_self, ins_ne D (show 1 ≠ 20 by decide), ins_ne D (show 1 ≠ 22 by decide), upd_self, upd_ne env20 x (show 1 ≠ 20 by decide), e20, e22, cond_true, cond_false, List.cons_append, List.nil_append, List.append_nil]) (fun x => rfl) (OpR.loadPtr 1 rfl rfl rfl rfl)
 refine oS (d := .val (.string (bs a0))) (fun _ => Want.plain rfl) (fun _ => rfl) (fun _ _ _ => rfl) (fun _ _ => OpR.pure rfl) (fun _ _ _ _ _ _ _ => rfl) ?_
 refine oS (d := .val (.pointer (some ⟨(blk p18), 3, none⟩))) (fun _ => Want.plain rfl) (fun _ => rfl) (fun _ _ _ => rfl) (fun _ _ => OpR.pure rfl) (fun _ _ _ _ _ _ _ => rfl) ?_
 refine oS (d := .sl 1 (List.map (eI .i64) x17.fBytes)) (fun _ => Want.plain rfl) (fun _ => rfl) (fun _ _ _ => rfl) (fun _ _ => OpR.loadPtr 3 rfl rfl rfl rfl) (fun _ _ _ _ _ _ _ => rfl) ?_
 refine oS (d := .val (.string (bs x21))) (fun _ => Want.plain rfl) (fun _ => rfl) (fun _ _ _ => rfl) (fun _ _ => OpR.call0 fn69 (ref05_Text_c hx21) rfl) (fun _ _ _ _ _ _ _ => rfl) ?_
 refine oS (d := .val (.string (bs a0))) (fun _ => Want.plain rfl) (fun _ => rfl) (fun _ _ _ => rfl) (fun _ _ => OpR.pure rfl) (fun _ _ _ _ _ _ _ => rfl) ?_
 refine oS (d := .val (.pointer (some ⟨(blk p18), 0, none⟩))) (fun _ => Want.plain rfl) (fun _ => rfl) (fun _ _ _ => rfl) (fun _ _ => OpR.pure rfl) (fun _ _ _ _ _ _ _ => rfl) ?_
 refine oS (d := .val (.pointer (some ⟨(blk p18), 0, none⟩))) (fun _ => Want.plain rfl) (fun _ => rfl) (fun _ _ _ => rfl) (fun _ _ => OpR.pure rfl) (fun _ _ _ _ _ _ _ => rfl) ?_
 refine oS (d := .val (.int .i64 x17.fRaw.fAt)) (fun _ => Want.plain rfl) (fun _ => rfl) (fun _ _ _ => rfl) (fun _ _ => OpR.loadPtr 3 rfl rfl rfl rfl) (fun _ _ _ _ _ _ _ => rfl) ?_
 refine oS (d := .val (.pointer (some ⟨(blk p18), 0, none⟩))) (fun _ => Want.plain rfl) (fun _ => rfl) (fun _ _ _ => rfl) (fun _ _ => OpR.pure rfl) (fun _ _ _ _ _ _ _ => rfl) ?_
 refine oS (d := .val (.pointer (some ⟨(blk p18), 0, none⟩))) (fun _ => Want.plain rfl) (fun _ => rfl) (fun _ _ _ => rfl) (fun _ _ => OpR.pure rfl) (fun _ _ _ _ _ _ _ => rfl) ?_
 refine oS (d := .val (.int .i64 x17.fRaw.fAt)) (fun _ => Want.plain rfl) (fun _ => rfl) (fun _ _ _ => rfl) (fun _ _ => OpR.loadPtr 3 rfl rfl rfl rfl) (fun _ _ _ _ _ _ _ => rfl) ?_
 refine oS (d := .val (.pointer (some ⟨(blk p18), 0, none⟩))) (fun _ => Want.plain rfl) (fun _ => rfl) (fun _ _ _ => rfl) (fun _ _ => OpR.pure rfl) (fun _ _ _ _ _ _ _ => rfl) ?_
 refine oS (d := .val (.pointer (some ⟨(blk p18), 1, none⟩))) (fun _ => Want.plain rfl) (fun _ => rfl) (fun _ _ _ => rfl) (fun _ _ => OpR.pure rfl) (fun _ _ _ _ _ _ _ => rfl) ?_
 refine oS (d := .val (.int .i64 x17.fRaw.fN)) (fun _ => Want.plain rfl) (fun _ => rfl) (fun _ _ _ => rfl) (fun _ _ => OpR.loadPtr 3 rfl rfl rfl rfl) (fun _ _ _ _ _ _ _ => rfl) ?_
 refine oS (d := .val (.int .i64 (w64 (x17.fRaw.fAt + x17.fRaw.fN)))) (fun _ => Want.plain rfl) (fun _ => rfl) (fun _ _ _ => rfl) (fun _ _ => OpR.pure rfl) (fun _ _ _ _ _ _ _ => rfl) ?_
 refine oS (d := .val (.string (bs x22))) (fun _ => Want.plain rfl) (fun _ => rfl) (fun _ _ _ => rfl) (fun _ _ => OpR.sliceS hx22 rfl rfl rfl (BdM.some rfl) (BdM.some rfl)) (fun _ _ _ _ _ _ _ => rfl) ?_
 refine oS (d := .agg [.val (.string (bs x21)), .val (.string (bs x22)), .val (.bool true)]) (fun _ => Want.plain rfl) (fun _ => rfl) (fun _ _ _ => rfl) (fun _ _ => OpR.build rfl rfl rfl rfl rfl) (fun _ _ _ _ _ _ _ => rfl) ?_
 refine oS (d := .sl 3 (List.map e_ref07_Cell [(⟨x21, x22, true⟩ : ref07_Cell)])) (fun _ => Want.plain rfl) (fun _ => rfl) (fun _ _ _ => rfl) (fun _ _ => OpR.lit rfl rfl rfl rfl rfl rfl rfl) (fun _ _ _ _ _ _ _ => rfl) ?_
 refine OpsS.cons' true ?_ (fun D hA env20 x j hj hD => match j, hj, hD with | 0, _, _ => rfl | 1, _, _ => rfl | 2, _, _ => rfl | 3, _, _ => rfl | 4, _, _ => rfl | 5, _, _ => rfl | 6, _, _ => rfl | 7, _, _ => rfl | 8, _, _ => rfl | 9, _, _ => rfl | 10, _, _ => rfl | 11, _, _ => rfl | 12, _, _ => rfl | 13, _, _ => rfl | 14, _, _ => rfl | 15, _, _ => rfl | 16, _, _ => rfl | 17, _, _ => rfl | 18, _, _ => rfl | 19, _, _ => rfl | 20, hj, _ => absurd rfl hj | 21, _, _ => rfl | 22, _, _ => rfl | _ + 23, _, _ => rfl) ?_
 · intro D env20 hA
   have e22 : D 22 = false := hA.no 22 _ rfl rfl
   exact OpS.yes (o0 := [.var (blk p1) [.val (.slice none 0 0), .val (.int .i64 0), .val (.bool false)] 57, .var (blk p2) [.val y7, .val (.int .i64 a1.fEnd), .val (.bool false)] 57, .row y7 (List.map e_ref07_Cell s8.2) 3 112, .var (blk p18) [.val (.int .i64 x17.fRaw.fAt), .val (.int .i64 x17.fRaw.fN), .val (.int .i64 x17.fKind), .sl 1 (List.map (eI .i64) x17.fBytes)] 152]) (o1 := fun x => [.var (blk p1) [.val (.slice none 0 0), .val (.int .i64 0), .val (.bool false)] 57, .var (blk p2) [.val y7, .val (.int .i64 a1.fEnd), .val (.bool false)] 57, .row x (List.map e_ref07_Cell x23) 3 112, .var (blk p18) [.val (.int .i64 x17.fRaw.fAt), .val (.int .i64 x17.fRaw.fN), .val (.int .i64 x17.fKind), .sl 1 (List.map (eI .i64) x17.fBytes)] 152]) (d := fun x => .val x) (Want.plain rfl) (by first | rfl | simp only [e22, hA.me, cond_true, cond_false, List.cons_append, List.nil_append, List.append_nil]) (fun x => by first | rfl | simp only [ins_self, ins_ne D (show 20 ≠ 22 by decide), upd_self, e22, hA.me, cond_true, cond_false, List.cons_append, List.nil_append, List.append_nil]) (fun x => rfl) (OpR.appendM (m := [(⟨x21, x22, true⟩ : ref07_Cell)]) e_ref07_Cell 2 hx23 rfl rfl rfl rfl rfl rfl rfl rfl rfl (fun _ => rfl))
 refine oS (d := .val (.pointer (some ⟨(blk p2), 0, none⟩))) (fun _ => Want.plain rfl) (fun _ => rfl) (fun _ _ _ => rfl) (fun _ _ => OpR.pure rfl) (fun _ _ _ _ _ _ _ => rfl) ?_
 refine OpsS.cons' true ?_ (fun _ _ _ _ _ _ _ => rfl) ?_
 · intro D env20 hA
   have e20 : D 20 = true := hA.yes 20 _ rfl rfl
   exact OpS.yes (o0 := [.var (blk p1) [.val (.slice none 0 0), .val (.int .i64 0), .val (.bool false)] 57, .var (blk p2) [.val y7, .val (.int .i64 a1.fEnd), .val (.bool false)] 57, .row (env20 20) (List.map e_ref07_Cell x23) 3 112, .var (blk p18) [.val (.int .i64 x17.fRaw.fAt), .val (.int .i64 x17.fRaw.fN), .val (.int .i64 x17.fKind), .sl 1 (List.map (eI .i64) x17.fBytes)] 152]) (o1 := fun x => [.var (blk p1) [.val (.slice none 0 0), .val (.int .i64 0), .val (.bool false)] 57, .var (blk p2) [.val (env20 20), .val (.int .i64 a1.fEnd), .val (.bool false)] 57, .row (env20 20) (List.map e_ref07_Cell x23) 3 112, .var (blk p18) [.val (.int .i64 x17.fRaw.fAt), .val (.int .i64 x17.fRaw.fN), .val (.int .i64 x17.fKind), .sl 1 (List.map (eI .i64) x17.fBytes)] 152]) (d := fun x => .dead) (Want.plain rfl) (by first | rfl | simp only [e20, hA.me, cond_true, cond_false, List.cons_append, List.nil_append, List.append_nil]) (fun x => by first | rfl | simp only [ins_self, ins_ne D (show 22 ≠ 20 by decide), upd_self, upd_ne env20 x (show 22 ≠ 20 by decide), e20, hA.me, cond_true, cond_false, List.cons_append, List.nil_append, List.append_nil]) (fun x => rfl) (OpR.store 1 rfl rfl rfl rfl rfl rfl rfl rfl)
 exact trivial
noncomputable def arena_Arena_Right_nil (a0 : arena_Span) : Option Bool :=
  some false
set_option maxHeartbeats 4000000 in
theorem arena_Arena_Right_nil_c {a0 : arena_Span} {res : Bool} (h0 : arena_Arena_Right_nil a0 = some res) : CallF X 187 [.val (.pointer none), .agg [.val (.int .i64 a0.fAt), .val (.int .i64 a0.fN)]] [] (fun x => .val (.bool res)) (fun x => []) := by
 unfold arena_Arena_Right_nil at h0
 refine CallF.mkG (X := X) Try.func187 rfl rfl Try.ntmps187 rfl rfl ?_
 refine T.seq ?_
 refine T.region ?_
 refine TL.op1 (OpR.boxImm rfl rfl) rfl ?_
 refine TL.op1 (OpR.pure rfl) rfl ?_
 refine TL.nil ?_
 show T X _ _ _
 refine T.seq ?_
 refine T.seq ?_
 refine T.region ?_
 refine TL.op1 (OpR.pure rfl) rfl ?_
 refine TL.op1 (OpR.ptrNil rfl rfl rfl) rfl ?_
 refine TL.nil ?_
 show T X _ _ _
 refine T.condT rfl rfl ?_
 refine T.seq ?_
 refine T.region ?_
 refine TL.op1 (OpR.pure rfl) rfl ?_
 refine TL.nil ?_
 show T X _ _ _
 refine T.ret ?_
 obtain rfl := Option.some.inj h0
 exact PostG.retP (ks := []) (Gst.only [4] rfl) undef (ResL.cons (ResV.tmp rfl) ResL.nil) rfl rfl rfl rfl
noncomputable def arena_Arena_part_nil (a0 : arena_Span) : Option (List UInt8) :=
  bnd (arena_Arena_Right_nil a0) fun x1 =>
  if x1 = true then
    none
  else
    some []
set_option maxHeartbeats 4000000 in
theorem arena_Arena_part_nil_c {a0 : arena_Span} {res : (List UInt8)} (h0 : arena_Arena_part_nil a0 = some res) : CallF X 149 [.val (.pointer none), .agg [.val (.int .i64 a0.fAt), .val (.int .i64 a0.fN)]] [] (fun x => .sl 1 (List.map byteD res)) (fun x => []) := by
 unfold arena_Arena_part_nil at h0
 refine CallF.mkG (X := X) Try.func149 rfl rfl Try.ntmps149 rfl rfl ?_
 refine T.seq ?_
 refine T.region ?_
 refine TL.op1 (OpR.boxImm rfl rfl) rfl ?_
 refine TL.op1 (OpR.pure rfl) rfl ?_
 refine TL.nil ?_
 show T X _ _ _
 refine T.seq ?_
 refine T.seq ?_
 refine T.region ?_
 refine TL.op1 (OpR.pure rfl) rfl ?_
 refine TL.op1 (OpR.pure rfl) rfl ?_
 obtain ⟨x1, hx1, h0⟩ := bnd_some h0
 refine TL.op1 (OpR.call0 fn187 (arena_Arena_Right_nil_c hx1) rfl) rfl ?_
 refine TL.op1 (OpR.pure rfl) rfl ?_
 refine TL.nil ?_
 show T X _ _ _
 rcases ite_some h0 with ⟨c2, h0⟩ | ⟨c2, h0⟩
 · refine T.condF rfl (not_t (c2)) ?_
   refine T.skip ?_
   show T X _ _ _
   refine T.seq ?_
   exact (by cases h0)
 refine T.condT rfl (not_f (eq_false_of_ne_true c2)) ?_
 refine T.seq ?_
 refine T.region ?_
 refine TL.op1 (OpR.pure rfl) rfl ?_
 refine TL.nil ?_
 show T X _ _ _
 refine T.ret ?_
 obtain rfl := Option.some.inj h0
 exact PostG.retP (ks := []) (Gst.trans (Gst.only [4] rfl) (Gst.denil (ReS.cons (Re.base .nil) ReS.nil) ReO.nil)) undef (ResL.cons (ResV.tmp rfl) ResL.nil) rfl rfl rfl rfl
noncomputable def arena_Arena_Bytes_nil (a0 : arena_Span) : Option (List UInt8) :=
  bnd (arena_Arena_part_nil a0) fun x1 =>
  bnd (mkz 1 (x1.length : Int) (0 : UInt8)) fun x2 =>
  some (over x2 x1)
set_option maxHeartbeats 4000000 in
theorem arena_Arena_Bytes_nil_c {a0 : arena_Span} {res : (List UInt8)} (h0 : arena_Arena_Bytes_nil a0 = some res) : CallF X 91 [.val (.pointer none), .agg [.val (.int .i64 a0.fAt), .val (.int .i64 a0.fN)]] [] (fun x => .sl 1 (List.map byteD res)) (fun x => []) := by
 unfold arena_Arena_Bytes_nil at h0
 refine CallF.mkG (X := X) Try.func91 rfl rfl Try.ntmps91 rfl rfl ?_
 refine T.seq ?_
 refine T.region ?_
 refine TL.op1 (OpR.boxImm rfl rfl) rfl ?_
 refine TL.op1 (OpR.pure rfl) rfl ?_
 refine TL.nil ?_
 show T X _ _ _
 refine T.seq ?_
 refine T.region ?_
 refine TL.op1 (OpR.pure rfl) rfl ?_
 refine TL.op1 (OpR.pure rfl) rfl ?_
 obtain ⟨x1, hx1, h0⟩ := bnd_some h0
 refine TL.op1 (OpR.call0 fn149 (arena_Arena_part_nil_c hx1) rfl) rfl ?_
 refine TL.op1 (OpR.pure rfl) rfl ?_
 refine TL.nil ?_
 show T X _ _ _
 refine T.seq ?_
 refine T.region ?_
 refine TL.op1 (OpR.pure rfl) rfl ?_
 refine TL.op1 (OpR.cast (OpR.pure rfl) (intE (lenM _ _))) rfl ?_
 obtain ⟨x2, hx2, h0⟩ := bnd_some h0
 refine TL.op (OpR.makeM byteD hx2 rfl rfl rfl rfl rfl rfl rfl rfl rfl rfl rfl (fun _ => rfl)) rfl (fun v3 => ?_)
 refine TL.op1 (OpR.pure rfl) rfl ?_
 refine TL.nil ?_
 show T X _ _ _
 refine T.seq ?_
 refine T.region ?_
 refine TL.op1 (OpR.pure rfl) rfl ?_
 refine TL.op1 (OpR.pure rfl) rfl ?_
 refine TL.op1 (OpR.copyM byteD 0 rfl rfl rfl rfl rfl rfl rfl rfl) rfl ?_
 refine TL.nil ?_
 show T X _ _ _
 refine T.seq ?_
 refine T.region ?_
 refine TL.op1 (OpR.pure rfl) rfl ?_
 refine TL.op1 (OpR.pure rfl) rfl ?_
 refine TL.nil ?_
 show T X _ _ _
 refine T.ret ?_
 obtain rfl := Option.some.inj h0
 exact PostG.retP (ks := []) (Gst.trans (Gst.only [4] rfl) (Gst.trans (Gst.freezeRow 0 rfl rfl (ReS.cons (Re.base .all) ReS.nil) (ReO.same ReO.nil)) (Gst.pick [] rfl rfl))) undef (ResL.cons (ResV.tmp rfl) ResL.nil) rfl rfl rfl rfl
noncomputable def piece_Text_Flat_nil.l1 (a0 : piece_Text) (s4 : Int × (List UInt8)) : Option (Lp (Int × (List UInt8)) (List UInt8)) :=
  if s4.1 < (a0.fL.length : Int) then
    bnd (idx a0.fL s4.1) fun x13 =>
    bnd (arena_Arena_Bytes_nil x13) fun x15 =>
    bnd (app 1 s4.2 x15) fun x16 =>
    some (Lp.next (w64 (s4.1 + 1), x16))
  else
    some (Lp.done s4.2)
noncomputable def piece_Text_Flat_nil (a0 : piece_Text) : Option (List UInt8) :=
  bnd (loop (piece_Text_Flat_nil.l1 a0) (0, []) : Option (List UInt8)) fun t1 =>
  some t1
set_option maxHeartbeats 4000000 in
theorem piece_Text_Flat_nil_c {a0 : piece_Text} {res : (List UInt8)} (h0 : piece_Text_Flat_nil a0 = some res) : CallF X 46 [.agg [.sl 2 (List.map e_arena_Span a0.fL), .val (.int .i64 a0.fN)], .val (.pointer none)] [] (fun x => .sl 1 (List.map byteD res)) (fun x => []) := by
 unfold piece_Text_Flat_nil at h0
 refine CallF.mkG (X := X) Try.func46 rfl rfl Try.ntmps46 rfl rfl ?_
 refine T.seq ?_
 refine T.region ?_
 refine TL.op1 (OpR.boxImm rfl rfl) rfl ?_
 refine TL.op1 (OpR.pure rfl) rfl ?_
 refine TL.nil ?_
 show T X _ _ _
 refine T.seq ?_
 refine T.region ?_
 refine TL.op1 (OpR.pure rfl) rfl ?_
 refine TL.nil ?_
 show T X _ _ _
 refine T.seq ?_
 refine T.seq ?_
 refine T.region ?_
 refine TL.op1 (OpR.pure rfl) rfl ?_
 refine TL.op1 (OpR.pure rfl) rfl ?_
 refine TL.op1 (OpR.cast (OpR.pure rfl) (intE (lenM _ _))) rfl ?_
 refine TL.op1 (OpR.pure rfl) rfl ?_
 refine TL.nil ?_
 show T X _ _ _
 obtain ⟨t1, ht1, h0⟩ := bnd_some h0
 refine T.cutC (fun S' => ∃ y2 : Value, S' = ⟨[(5, .val y2), (4, .val (.slice none 0 0))], [.row y2 (List.map byteD t1) 1 5], 22⟩) (fun _ h => h) ?_ ?_
 rotate_left
 · rintro _ ⟨y2, rfl⟩
   show T X _ _ _
   refine T.seq ?_
   refine T.region ?_
   refine TL.op1 (OpR.pure rfl) rfl ?_
   refine TL.op1 (OpR.pure rfl) rfl ?_
   refine TL.nil ?_
   show T X _ _ _
   refine T.ret ?_
   obtain rfl := Option.some.inj h0
   exact PostG.retP (ks := []) (Gst.trans (Gst.only [4] rfl) (Gst.trans (Gst.freezeRow 0 rfl rfl (ReS.cons (Re.base .all) ReS.nil) (ReO.same ReO.nil)) (Gst.pick [] rfl rfl))) undef (ResL.cons (ResV.tmp rfl) ResL.nil) rfl rfl rfl rfl
 refine T.block ?_
 obtain ⟨n5, n10⟩ := loop_some ht1
 refine T.loop (fun n S' => ∃ S'', Gst S' S'' ∧ ∃ y3 : Value, ∃ s4 : Int × (List UInt8), S'' = ⟨[(11, .val (.int .i64 s4.1)), (10, .val (.int .i64 (a0.fL.length : Int))), (9, .sl 2 (List.map e_arena_Span a0.fL)), (5, .val y3), (4, .val (.slice none 0 0)), (1, .val (.pointer none))], [.row y3 (List.map byteD s4.2) 1 5], 22⟩ ∧ iter (piece_Text_Flat_nil.l1 a0) n s4 = some t1) n5 ?_ ?_
 · exact ⟨_, Gst.trans (Gst.only [1, 4, 5, 9, 10, 11] rfl) (Gst.nilRow (ow := []) 1 5 rfl), (.slice none 0 0), (0, []), rfl, n10⟩
 rintro n5 _ ⟨_, g, y3, s4, rfl, i9⟩
 refine T.ghost g ?_
 obtain ⟨m6, q7, rfl, q8, i9⟩ := iter_succ i9
 unfold piece_Text_Flat_nil.l1 at q8
 refine T.seq ?_
 refine T.region ?_
 refine TL.op1 (OpR.pure rfl) rfl ?_
 refine TL.nil ?_
 show T X _ _ _
 refine T.seq ?_
 rcases ite_some q8 with ⟨c12, q8⟩ | ⟨c12, q8⟩
 rotate_left
 · refine T.condF rfl (decide_eq_false c12) ?_
   refine T.exit ?_
   obtain rfl := Option.some.inj q8
   obtain rfl : _ = _ := i9
   exact ⟨_, Gst.only [4, 5] rfl, y3, rfl⟩
 refine T.condT rfl (decide_eq_true c12) ?_
 refine T.skip ?_
 show T X _ _ _
 refine T.seq ?_
 refine T.block ?_
 refine T.seq ?_
 refine T.region ?_
 obtain ⟨x13, hx13, q8⟩ := bnd_some q8
 refine TL.op1 (OpR.indexM e_arena_Span hx13 rfl rfl rfl rfl rfl) rfl ?_
 refine TL.op1 (OpR.pure rfl) rfl ?_
 refine TL.op (OpR.alloc rfl rfl (fun _ => rfl)) rfl (fun p14 => ?_)
 refine TL.op0 (OpR.store 1 rfl rfl rfl rfl rfl rfl rfl rfl) ?_
 refine TL.nil ?_
 show T X _ _ _
 refine T.region ?_
 refine TL.op1 (OpR.pure rfl) rfl ?_
 refine TL.op1 (OpR.pure rfl) rfl ?_
 refine TL.op1 (OpR.loadPtr 1 rfl rfl rfl rfl) rfl ?_
 obtain ⟨x15, hx15, q8⟩ := bnd_some q8
 refine TL.op1 (OpR.call0 fn91 (arena_Arena_Bytes_nil_c hx15) rfl) rfl ?_
 obtain ⟨x16, hx16, q8⟩ := bnd_some q8
 refine TL.op (OpR.appendM (m := x15) byteD 0 hx16 rfl rfl rfl rfl rfl rfl rfl rfl rfl (fun _ => rfl)) rfl (fun v17 => ?_)
 refine TL.op1 (OpR.pure rfl) rfl ?_
 refine TL.nil ?_
 show T X _ _ _
 refine T.region ?_
 refine TL.op1 (OpR.pure rfl) rfl ?_
 refine TL.op1 (OpR.pure rfl) rfl ?_
 refine TL.nil ?_
 obtain rfl := Option.some.inj q8
 exact ⟨m6, Nat.lt_succ_self _, _, Gst.trans (Gst.only [1, 4, 5, 9, 10, 11] rfl) (Gst.pick [0] rfl rfl), v17, (w64 (s4.1 + 1), x16), rfl, i9⟩
noncomputable def cell_Cell_Bytes_nil (a0 : cell_Cell) : Option (List UInt8) :=
  bnd (piece_Text_Flat_nil a0.fText) fun x1 =>
  some x1
set_option maxHeartbeats 4000000 in
theorem cell_Cell_Bytes_nil_c {a0 : cell_Cell} {res : (List UInt8)} (h0 : cell_Cell_Bytes_nil a0 = some res) : CallF X 102 [.agg [.sl 2 (List.map e_arena_Span a0.fText.fL), .val (.int .i64 a0.fText.fN), .val (.int .i64 a0.fRaw.fAt), .val (.int .i64 a0.fRaw.fN), .val (.bool a0.fKept)], .val (.pointer none)] [] (fun x => .sl 1 (List.map byteD res)) (fun x => []) := by
 unfold cell_Cell_Bytes_nil at h0
 refine CallF.mkG (X := X) Try.func102 rfl rfl Try.ntmps102 rfl rfl ?_
 refine T.seq ?_
 refine T.region ?_
 refine TL.op1 (OpR.boxImm rfl rfl) rfl ?_
 refine TL.op1 (OpR.pure rfl) rfl ?_
 refine TL.nil ?_
 show T X _ _ _
 refine T.seq ?_
 refine T.region ?_
 refine TL.op1 (OpR.pure rfl) rfl ?_
 refine TL.op1 (OpR.pure rfl) rfl ?_
 refine TL.op1 (OpR.pure rfl) rfl ?_
 obtain ⟨x1, hx1, h0⟩ := bnd_some h0
 refine TL.op1 (OpR.call0 fn46 (piece_Text_Flat_nil_c hx1) rfl) rfl ?_
 refine TL.op1 (OpR.pure rfl) rfl ?_
 refine TL.nil ?_
 show T X _ _ _
 refine T.ret ?_
 obtain rfl := Option.some.inj h0
 exact PostG.retP (ks := []) (Gst.only [4] rfl) undef (ResL.cons (ResV.tmp rfl) ResL.nil) rfl rfl rfl rfl
noncomputable def law07_Plain_nil (a0 : cell_Cell) : Option ref07_Cell :=
  bnd (cell_Cell_Bytes_nil a0) fun x3 =>
  bnd (if a0.fKept = true then
    bnd (arena_Arena_Bytes_nil a0.fRaw) fun x6 =>
    some x6
  else
    some [] : Option (List UInt8)) fun t4 =>
  some (⟨x3, t4, a0.fKept⟩ : ref07_Cell)
set_option maxHeartbeats 4000000 in
theorem law07_Plain_nil_c {a0 : cell_Cell} {res : ref07_Cell} (h0 : law07_Plain_nil a0 = some res) : CallF X 54 [.val (.pointer none), .agg [.sl 2 (List.map e_arena_Span a0.fText.fL), .val (.int .i64 a0.fText.fN), .val (.int .i64 a0.fRaw.fAt), .val (.int .i64 a0.fRaw.fN), .val (.bool a0.fKept)]] [] (fun x => .agg [.val (.string (bs res.fS)), .val (.string (bs res.fRaw)), .val (.bool res.fKept)]) (fun x => []) := by
 unfold law07_Plain_nil at h0
 refine CallF.mkG (X := X) Try.func54 rfl rfl Try.ntmps54 rfl rfl ?_
 refine T.seq ?_
 refine T.region ?_
 refine TL.op1 (OpR.boxImm rfl rfl) rfl ?_
 refine TL.op (OpR.alloc rfl rfl (fun _ => rfl)) rfl (fun p1 => ?_)
 refine TL.nil ?_
 show T X _ _ _
 refine T.seq ?_
 obtain ⟨x3, hx3, h0⟩ := bnd_some h0
 refine T.drawS drawsX (fun env2 => [.agg [.sl 2 (List.map e_arena_Span a0.fText.fL), .val (.int .i64 a0.fText.fN), .val (.int .i64 a0.fRaw.fAt), .val (.int .i64 a0.fRaw.fN), .val (.bool a0.fKept)], .val (.pointer none), .sl 1 (List.map byteD x3), .val (.string (bs x3)), .nod [.val (.bool a0.fKept)], .val (.bool a0.fKept), .agg [.val (.string (bs x3)), .val (.string (bs [])), .val (.bool a0.fKept)], .val (.pointer (some ⟨(blk (env2 7)), 0, none⟩)), .dead]) (fun D env2 => [.var (blk p1) [.val (.string (bs [])), .val (.string (bs [])), .val (.bool false)] 112] ++ (bif D 7 then [(bif D 8 then .var (blk (env2 7)) [.val (.string (bs x3)), .val (.string (bs [])), .val (.bool a0.fKept)] 112 else .var (blk (env2 7)) [.val (.string (bs [])), .val (.string (bs [])), .val (.bool false)] 112)] else [])) [0, 0, 3, 7, 0, 16, 63, 0, 255] [0, 1, 3, 4, 5, 6, 7, 8, 9, 10, 11, 12] (fun env2 => [.var (blk p1) [.val (.string (bs [])), .val (.string (bs [])), .val (.bool false)] 112, .var (blk (env2 7)) [.val (.string (bs x3)), .val (.string (bs [])), .val (.bool a0.fKept)] 112]) (by decide +kernel) (by decide +kernel) (fun _ => rfl) (fun _ => rfl) ?_ (fun _ => rfl) (fun _ => rfl) ?_
 rotate_left
 · intro env2
   show T X _ _ _
   refine T.seq ?_
   refine T.seq ?_
   refine T.region ?_
   refine TL.op1 (OpR.pure rfl) rfl ?_
   refine TL.op1 (OpR.pure rfl) rfl ?_
   refine TL.nil ?_
   show T X _ _ _
   obtain ⟨t4, ht4, h0⟩ := bnd_some h0
   refine T.cutC (fun S' => S' = ⟨[(5, .val (.pointer (some ⟨(blk (env2 7)), 0, none⟩))), (4, .val (.pointer (some ⟨(blk p1), 0, none⟩)))], [.var (blk p1) [.val (.string (bs [])), .val (.string (bs [])), .val (.bool false)] 112, .var (blk (env2 7)) [.val (.string (bs x3)), .val (.string (bs t4)), .val (.bool a0.fKept)] 112], 22⟩) (fun _ h => h) ?_ ?_
   rotate_left
   · rintro _ rfl
     show T X _ _ _
     refine T.seq ?_
     refine T.region ?_
     refine TL.op1 (OpR.loadPtr 1 rfl rfl rfl rfl) rfl ?_
     refine TL.op0 (OpR.store 0 rfl rfl rfl rfl rfl rfl rfl rfl) ?_
     refine TL.nil ?_
     show T X _ _ _
     refine T.ret ?_
     obtain rfl := Option.some.inj h0
     exact PostG.retP (ks := []) (Gst.trans (Gst.only [4] rfl) (Gst.pick [0] rfl rfl)) undef (ResL.cons (ResV.var 0 rfl rfl rfl rfl) ResL.nil) rfl rfl rfl rfl
   rcases ite_some ht4 with ⟨c5, ht4⟩ | ⟨c5, ht4⟩
   rotate_left
   · refine T.condF rfl (eq_false_of_ne_true c5) ?_
     refine T.skip ?_
     obtain rfl := Option.some.inj ht4
     exact ⟨_, Gst.only [4, 5] rfl, rfl⟩
   refine T.condT rfl (c5) ?_
   refine T.region ?_
   refine TL.op1 (OpR.pure rfl) rfl ?_
   refine TL.op1 (OpR.pure rfl) rfl ?_
   refine TL.op1 (OpR.pure rfl) rfl ?_
   obtain ⟨x6, hx6, ht4⟩ := bnd_some ht4
   refine TL.op1 (OpR.call0 fn91 (arena_Arena_Bytes_nil_c hx6) rfl) rfl ?_
   refine TL.op1 (OpR.toStr (bs := x6) rfl rfl rfl rfl rfl rfl rfl) rfl ?_
   refine TL.op1 (OpR.pure rfl) rfl ?_
   refine TL.op0 (OpR.store 1 rfl rfl rfl rfl rfl rfl rfl rfl) ?_
   refine TL.nil ?_
   obtain rfl := Option.some.inj ht4
   exact ⟨_, Gst.only [4, 5] rfl, rfl⟩
 refine oS (d := .agg [.sl 2 (List.map e_arena_Span a0.fText.fL), .val (.int .i64 a0.fText.fN), .val (.int .i64 a0.fRaw.fAt), .val (.int .i64 a0.fRaw.fN), .val (.bool a0.fKept)]) (fun _ => Want.plain rfl) (fun _ => rfl) (fun _ _ _ => rfl) (fun _ _ => OpR.pure rfl) (fun _ _ _ _ _ _ _ => rfl) ?_
 refine oS (d := .val (.pointer none)) (fun _ => Want.plain rfl) (fun _ => rfl) (fun _ _ _ => rfl) (fun _ _ => OpR.pure rfl) (fun _ _ _ _ _ _ _ => rfl) ?_
 refine oS (d := .sl 1 (List.map byteD x3)) (fun _ => Want.plain rfl) (fun _ => rfl) (fun _ _ _ => rfl) (fun _ _ => OpR.call0 fn102 (cell_Cell_Bytes_nil_c hx3) rfl) (fun _ _ _ _ _ _ _ => rfl) ?_
 refine oS (d := .val (.string (bs x3))) (fun _ => Want.plain rfl) (fun _ => rfl) (fun _ _ _ => rfl) (fun _ _ => OpR.toStr (bs := x3) rfl rfl rfl rfl rfl rfl rfl) (fun _ _ _ _ _ _ _ => rfl) ?_
 refine oS (d := .nod [.val (.bool a0.fKept)]) (fun _ => Want.plain rfl) (fun _ => rfl) (fun _ _ _ => rfl) (fun _ _ => OpR.pure rfl) (fun _ _ _ _ _ _ _ => rfl) ?_
 refine oS (d := .val (.bool a0.fKept)) (fun _ => Want.plain rfl) (fun _ => rfl) (fun _ _ _ => rfl) (fun _ _ => OpR.pure rfl) (fun _ _ _ _ _ _ _ => rfl) ?_
 refine oS (d := .agg [.val (.string (bs x3)), .val (.string (bs [])), .val (.bool a0.fKept)]) (fun _ => Want.plain rfl) (fun _ => rfl) (fun _ _ _ => rfl) (fun _ _ => OpR.build rfl rfl rfl rfl rfl) (fun _ _ _ _ _ _ _ => rfl) ?_
 refine OpsS.cons' true ?_ (fun D hA env2 x j hj hD => match j, hj, hD with | 0, _, _ => rfl | 1, _, _ => rfl | 2, _, _ => rfl | 3, _, _ => rfl | 4, _, _ => rfl | 5, _, _ => rfl | 6, _, _ => rfl | 7, hj, _ => absurd rfl hj | 8, _, _ => rfl | _ + 9, _, _ => rfl) ?_
 · intro D env2 hA
   have e8 : D 8 = false := hA.no 8 _ rfl rfl
   exact OpS.yes (o0 := [.var (blk p1) [.val (.string (bs [])), .val (.string (bs [])), .val (.bool false)] 112]) (o1 := fun x => [.var (blk p1) [.val (.string (bs [])), .val (.string (bs [])), .val (.bool false)] 112, .var (blk x) [.val (.string (bs [])), .val (.string (bs [])), .val (.bool false)] 112]) (d := fun x => .val (.pointer (some ⟨(blk x), 0, none⟩))) (Want.plain rfl) (by first | rfl | simp only [e8, hA.me, cond_true, cond_false, List.cons_append, List.nil_append, List.append_nil]) (fun x => by first | rfl | simp only [ins_self, ins_ne D (show 7 ≠ 8 by decide), upd_self, e8, hA.me, cond_true, cond_false, List.cons_append, List.nil_append, List.append_nil]) (fun x => rfl) (OpR.alloc rfl rfl (fun _ => rfl))
 refine OpsS.cons' true ?_ (fun _ _ _ _ _ _ _ => rfl) ?_
 · intro D env2 hA
   have e7 : D 7 = true := hA.yes 7 _ rfl rfl
   exact OpS.yes (o0 := [.var (blk p1) [.val (.string (bs [])), .val (.string (bs [])), .val (.bool false)] 112, .var (blk (env2 7)) [.val (.string (bs [])), .val (.string (bs [])), .val (.bool false)] 112]) (o1 := fun x => [.var (blk p1) [.val (.string (bs [])), .val (.string (bs [])), .val (.bool false)] 112, .var (blk (env2 7)) [.val (.string (bs x3)), .val (.string (bs [])), .val (.bool a0.fKept)] 112]) (d := fun x => .dead) (Want.plain rfl) (by first | rfl | simp only [e7, hA.me, cond_true, cond_false, List.cons_append, List.nil_append, List.append_nil]) (fun x => by first | rfl | simp only [ins_self, ins_ne D (show 8 ≠ 7 by decide), upd_self, upd_ne env2 x (show 8 ≠ 7 by decide), e7, hA.me, cond_true, cond_false, List.cons_append, List.nil_append, List.append_nil]) (fun x => rfl) (OpR.store 1 rfl rfl rfl rfl rfl rfl rfl rfl)
 exact trivial
noncomputable def law08_Plain_nil.l1 (a0 : row_Row) (s6 : Int × (List ref07_Cell)) : Option (Lp (Int × (List ref07_Cell)) (List ref07_Cell)) :=
  if s6.1 < (a0.fCells.length : Int) then
    bnd (idx a0.fCells s6.1) fun x15 =>
    bnd (law07_Plain_nil x15) fun x18 =>
    bnd (app 40 s6.2 [x18]) fun x19 =>
    some (Lp.next (w64 (s6.1 + 1), x19))
  else
    some (Lp.done s6.2)
noncomputable def law08_Plain_nil (a0 : row_Row) : Option ref08_Row :=
  bnd (loop (law08_Plain_nil.l1 a0) (0, []) : Option (List ref07_Cell)) fun t3 =>
  some (⟨t3, a0.fEnd, a0.fHidden⟩ : ref08_Row)
set_option maxHeartbeats 4000000 in
theorem law08_Plain_nil_c {a0 : row_Row} {res : ref08_Row} (h0 : law08_Plain_nil a0 = some res) : CallF X 31 [.val (.pointer none), .agg [.sl 5 (List.map e_cell_Cell a0.fCells), .val (.int .i64 a0.fEnd), .val (.bool a0.fHidden)]] [] (fun x => .agg [.sl 3 (List.map e_ref07_Cell res.fCells), .val (.int .i64 res.fEnd), .val (.bool res.fHidden)]) (fun x => []) := by
 unfold law08_Plain_nil at h0
 refine CallF.mkG (X := X) Try.func31 rfl rfl Try.ntmps31 rfl rfl ?_
 refine T.seq ?_
 refine T.region ?_
 refine TL.op1 (OpR.boxImm rfl rfl) rfl ?_
 refine TL.op (OpR.alloc rfl rfl (fun _ => rfl)) rfl (fun p1 => ?_)
 refine TL.nil ?_
 show T X _ _ _
 refine T.seq ?_
 refine T.region ?_
 refine TL.op1 (OpR.pure rfl) rfl ?_
 refine TL.op1 (OpR.pure rfl) rfl ?_
 refine TL.op1 (OpR.pure rfl) rfl ?_
 refine TL.op1 (OpR.pure rfl) rfl ?_
 refine TL.op1 (OpR.build rfl rfl rfl rfl rfl) rfl ?_
 refine TL.op (OpR.alloc rfl rfl (fun _ => rfl)) rfl (fun p2 => ?_)
 refine TL.op0 (OpR.store 1 rfl rfl rfl rfl rfl rfl rfl rfl) ?_
 refine TL.nil ?_
 show T X _ _ _
 refine T.seq ?_
 refine T.seq ?_
 refine T.region ?_
 refine TL.op1 (OpR.pure rfl) rfl ?_
 refine TL.op1 (OpR.pure rfl) rfl ?_
 refine TL.op1 (OpR.cast (OpR.pure rfl) (intE (lenM _ _))) rfl ?_
 refine TL.op1 (OpR.pure rfl) rfl ?_
 refine TL.nil ?_
 show T X _ _ _
 obtain ⟨t3, ht3, h0⟩ := bnd_some h0
 refine T.cutC (fun S' => ∃ y4 : Value, S' = ⟨[(5, .val (.pointer (some ⟨(blk p2), 0, none⟩))), (4, .val (.pointer (some ⟨(blk p1), 0, none⟩)))], [.var (blk p1) [.val (.slice none 0 0), .val (.int .i64 0), .val (.bool false)] 57, .var (blk p2) [.val y4, .val (.int .i64 a0.fEnd), .val (.bool a0.fHidden)] 57, .row y4 (List.map e_ref07_Cell t3) 3 112], 30⟩) (fun _ h => h) ?_ ?_
 rotate_left
 · rintro _ ⟨y4, rfl⟩
   show T X _ _ _
   refine T.seq ?_
   refine T.region ?_
   refine TL.op1 (OpR.loadPtr 1 rfl rfl rfl rfl) rfl ?_
   refine TL.op0 (OpR.store 0 rfl rfl rfl rfl rfl rfl rfl rfl) ?_
   refine TL.nil ?_
   show T X _ _ _
   refine T.ret ?_
   obtain rfl := Option.some.inj h0
   exact PostG.retP (ks := []) (Gst.trans (Gst.only [4] rfl) (Gst.trans (Gst.freezeRow 2 rfl rfl (ReS.cons Re.refl ReS.nil) (ReO.var (ReL.cons (Re.base .all) (ReL.cons Re.refl (ReL.cons Re.refl ReL.nil))) (ReO.var (ReL.cons (Re.base .all) (ReL.cons Re.refl (ReL.cons Re.refl ReL.nil))) (ReO.same ReO.nil)))) (Gst.pick [0] rfl rfl))) undef (ResL.cons (ResV.var 0 rfl rfl rfl rfl) ResL.nil) rfl rfl rfl rfl
 refine T.block ?_
 obtain ⟨n7, n12⟩ := loop_some ht3
 refine T.loop (fun n S' => ∃ S'', Gst S' S'' ∧ ∃ y5 : Value, ∃ s6 : Int × (List ref07_Cell), S'' = ⟨[(16, .val (.int .i64 s6.1)), (15, .val (.int .i64 (a0.fCells.length : Int))), (14, .sl 5 (List.map e_cell_Cell a0.fCells)), (5, .val (.pointer (some ⟨(blk p2), 0, none⟩))), (4, .val (.pointer (some ⟨(blk p1), 0, none⟩))), (0, .val (.pointer none))], [.var (blk p1) [.val (.slice none 0 0), .val (.int .i64 0), .val (.bool false)] 57, .var (blk p2) [.val y5, .val (.int .i64 a0.fEnd), .val (.bool a0.fHidden)] 57, .row y5 (List.map e_ref07_Cell s6.2) 3 112], 30⟩ ∧ iter (law08_Plain_nil.l1 a0) n s6 = some t3) n7 ?_ ?_
 · exact ⟨_, Gst.trans (Gst.only [0, 4, 5, 14, 15, 16] rfl) (Gst.nilRow (ow := [.var (blk p1) [.val (.slice none 0 0), .val (.int .i64 0), .val (.bool false)] 57, .var (blk p2) [.val (.slice none 0 0), .val (.int .i64 a0.fEnd), .val (.bool a0.fHidden)] 57]) 3 112 rfl), (.slice none 0 0), (0, []), rfl, n12⟩
 rintro n7 _ ⟨_, g, y5, s6, rfl, i11⟩
 refine T.ghost g ?_
 obtain ⟨m8, q9, rfl, q10, i11⟩ := iter_succ i11
 unfold law08_Plain_nil.l1 at q10
 refine T.seq ?_
 refine T.region ?_
 refine TL.op1 (OpR.pure rfl) rfl ?_
 refine TL.nil ?_
 show T X _ _ _
 refine T.seq ?_
 rcases ite_some q10 with ⟨c14, q10⟩ | ⟨c14, q10⟩
 rotate_left
 · refine T.condF rfl (decide_eq_false c14) ?_
   refine T.exit ?_
   obtain rfl := Option.some.inj q10
   obtain rfl : _ = _ := i11
   exact ⟨_, Gst.only [4, 5] rfl, y5, rfl⟩
 refine T.condT rfl (decide_eq_true c14) ?_
 refine T.skip ?_
 show T X _ _ _
 refine T.seq ?_
 refine T.block ?_
 refine T.seq ?_
 refine T.region ?_
 obtain ⟨x15, hx15, q10⟩ := bnd_some q10
 refine TL.op1 (OpR.indexM e_cell_Cell hx15 rfl rfl rfl rfl rfl) rfl ?_
 refine TL.op1 (OpR.pure rfl) rfl ?_
 refine TL.op (OpR.alloc rfl rfl (fun _ => rfl)) rfl (fun p16 => ?_)
 refine TL.op0 (OpR.store 3 rfl rfl rfl rfl rfl rfl rfl rfl) ?_
 refine TL.nil ?_
 show T X _ _ _
 obtain ⟨x18, hx18, q10⟩ := bnd_some q10
 obtain ⟨x19, hx19, q10⟩ := bnd_some q10
 refine T.drawS drawsX (fun env17 => [.val (.pointer (some ⟨(blk p2), 0, none⟩)), .val y5, .val (.pointer none), .agg [.sl 2 (List.map e_arena_Span x15.fText.fL), .val (.int .i64 x15.fText.fN), .val (.int .i64 x15.fRaw.fAt), .val (.int .i64 x15.fRaw.fN), .val (.bool x15.fKept)], .agg [.val (.string (bs x18.fS)), .val (.string (bs x18.fRaw)), .val (.bool x18.fKept)], .sl 3 (List.map e_ref07_Cell [x18]), .val (env17 6), .val (.pointer (some ⟨(blk p2), 0, none⟩)), .dead]) (fun D env17 => [.var (blk p1) [.val (.slice none 0 0), .val (.int .i64 0), .val (.bool false)] 57, (bif D 8 then .var (blk p2) [.val (env17 6), .val (.int .i64 a0.fEnd), .val (.bool a0.fHidden)] 57 else .var (blk p2) [.val y5, .val (.int .i64 a0.fEnd), .val (.bool a0.fHidden)] 57), (bif D 6 then .row (env17 6) (List.map e_ref07_Cell x19) 3 112 else .row y5 (List.map e_ref07_Cell s6.2) 3 112), .var (blk p16) [.sl 2 (List.map e_arena_Span x15.fText.fL), .val (.int .i64 x15.fText.fN), .val (.int .i64 x15.fRaw.fAt), .val (.int .i64 x15.fRaw.fN), .val (.bool x15.fKept)] 108]) [0, 1, 0, 0, 12, 28, 63, 127, 255] [0, 4, 5, 7, 14, 15, 16, 17, 18, 19, 20, 21, 22, 23, 24, 25, 26, 27] (fun env17 => [.var (blk p1) [.val (.slice none 0 0), .val (.int .i64 0), .val (.bool false)] 57, .var (blk p2) [.val (env17 6), .val (.int .i64 a0.fEnd), .val (.bool a0.fHidden)] 57, .row (env17 6) (List.map e_ref07_Cell x19) 3 112, .var (blk p16) [.sl 2 (List.map e_arena_Span x15.fText.fL), .val (.int .i64 x15.fText.fN), .val (.int .i64 x15.fRaw.fAt), .val (.int .i64 x15.fRaw.fN), .val (.bool x15.fKept)] 108]) (by decide +kernel) (by decide +kernel) (fun _ => rfl) (fun _ => rfl) ?_ (fun _ => rfl) (fun _ => rfl) ?_
 rotate_left
 · intro env17
   show T X _ _ _
   refine T.region ?_
   refine TL.op1 (OpR.pure rfl) rfl ?_
   refine TL.op1 (OpR.pure rfl) rfl ?_
   refine TL.nil ?_
   obtain rfl := Option.some.inj q10
   exact ⟨m8, Nat.lt_succ_self _, _, Gst.trans (Gst.only [0, 4, 5, 14, 15, 16] rfl) (Gst.pick [0, 1, 2] rfl rfl), (env17 6), (w64 (s6.1 + 1), x19), rfl, i11⟩
 refine oS (d := .val (.pointer (some ⟨(blk p2), 0, none⟩))) (fun _ => Want.plain rfl) (fun _ => rfl) (fun _ _ _ => rfl) (fun _ _ => OpR.pure rfl) (fun _ _ _ _ _ _ _ => rfl) ?_
 refine OpsS.cons' true ?_ (fun _ _ _ _ _ _ _ => rfl) ?_
 · intro D env17 hA
   have e6 : D 6 = false := hA.no 6 _ rfl rfl
   have e8 : D 8 = false := hA.no 8 _ rfl rfl
   exact OpS.yes (o0 := [.var (blk p1) [.val (.slice none 0 0), .val (.int .i64 0), .val (.bool false)] 57, .var (blk p2) [.val y5, .val (.int .i64 a0.fEnd), .val (.bool a0.fHidden)] 57, .row y5 (List.map e_ref07_Cell s6.2) 3 112, .var (blk p16) [.sl 2 (List.map e_arena_Span x15.fText.fL), .val (.int .i64 x15.fText.fN), .val (.int .i64 x15.fRaw.fAt), .val (.int .i64 x15.fRaw.fN), .val (.bool x15.fKept)] 108]) (o1 := fun x => [.var (blk p1) [.val (.slice none 0 0), .val (.int .i64 0), .val (.bool false)] 57, .var (blk p2) [.val y5, .val (.int .i64 a0.fEnd), .val (.bool a0.fHidden)] 57, .row y5 (List.map e_ref07_Cell s6.2) 3 112, .var (blk p16) [.sl 2 (List.map e_arena_Span x15.fText.fL), .val (.int .i64 x15.fText.fN), .val (.int .i64 x15.fRaw.fAt), .val (.int .i64 x15.fRaw.fN), .val (.bool x15.fKept)] 108]) (d := fun x => .val y5) (Want.plain rfl) (by first | rfl | simp only [e6, e8, cond_true, cond_false, List.cons_append, List.nil_append, List.append_nil]) (fun x => by first | rfl | simp only [ins_self, ins_ne D (show 1 ≠ 6 by decide), ins_ne D (show 1 ≠ 8 by decide), upd_self, upd_ne env17 x (show 1 ≠ 6 by decide), e6, e8, cond_true, cond_false, List.cons_append, List.nil_append, List.append_nil]) (fun x => rfl) (OpR.loadPtr 1 rfl rfl rfl rfl)
 refine oS (d := .val (.pointer none)) (fun _ => Want.plain rfl) (fun _ => rfl) (fun _ _ _ => rfl) (fun _ _ => OpR.pure rfl) (fun _ _ _ _ _ _ _ => rfl) ?_
 refine oS (d := .agg [.sl 2 (List.map e_arena_Span x15.fText.fL), .val (.int .i64 x15.fText.fN), .val (.int .i64 x15.fRaw.fAt), .val (.int .i64 x15.fRaw.fN), .val (.bool x15.fKept)]) (fun _ => Want.plain rfl) (fun _ => rfl) (fun _ _ _ => rfl) (fun _ _ => OpR.loadPtr 3 rfl rfl rfl rfl) (fun _ _ _ _ _ _ _ => rfl) ?_
 refine oS (d := .agg [.val (.string (bs x18.fS)), .val (.string (bs x18.fRaw)), .val (.bool x18.fKept)]) (fun _ => Want.plain rfl) (fun _ => rfl) (fun _ _ _ => rfl) (fun _ _ => OpR.call0 fn54 (law07_Plain_nil_c hx18) rfl) (fun _ _ _ _ _ _ _ => rfl) ?_
 refine oS (d := .sl 3 (List.map e_ref07_Cell [x18])) (fun _ => Want.plain rfl) (fun _ => rfl) (fun _ _ _ => rfl) (fun _ _ => OpR.lit rfl rfl rfl rfl rfl rfl rfl) (fun _ _ _ _ _ _ _ => rfl) ?_
 refine OpsS.cons' true ?_ (fun D hA env17 x j hj hD => match j, hj, hD with | 0, _, _ => rfl | 1, _, _ => rfl | 2, _, _ => rfl | 3, _, _ => rfl | 4, _, _ => rfl | 5, _, _ => rfl | 6, hj, _ => absurd rfl hj | 7, _, _ => rfl | 8, _, _ => rfl | _ + 9, _, _ => rfl) ?_
 · intro D env17 hA
   have e8 : D 8 = false := hA.no 8 _ rfl rfl
   exact OpS.yes (o0 := [.var (blk p1) [.val (.slice none 0 0), .val (.int .i64 0), .val (.bool false)] 57, .var (blk p2) [.val y5, .val (.int .i64 a0.fEnd), .val (.bool a0.fHidden)] 57, .row y5 (List.map e_ref07_Cell s6.2) 3 112, .var (blk p16) [.sl 2 (List.map e_arena_Span x15.fText.fL), .val (.int .i64 x15.fText.fN), .val (.int .i64 x15.fRaw.fAt), .val (.int .i64 x15.fRaw.fN), .val (.bool x15.fKept)] 108]) (o1 := fun x => [.var (blk p1) [.val (.slice none 0 0), .val (.int .i64 0), .val (.bool false)] 57, .var (blk p2) [.val y5, .val (.int .i64 a0.fEnd), .val (.bool a0.fHidden)] 57, .row x (List.map e_ref07_Cell x19) 3 112, .var (blk p16) [.sl 2 (List.map e_arena_Span x15.fText.fL), .val (.int .i64 x15.fText.fN), .val (.int .i64 x15.fRaw.fAt), .val (.int .i64 x15.fRaw.fN), .val (.bool x15.fKept)] 108]) (d := fun x => .val x) (Want.plain rfl) (by first | rfl | simp only [e8, hA.me, cond_true, cond_false, List.cons_append, List.nil_append, List.append_nil]) (fun x => by first | rfl | simp only [ins_self, ins_ne D (show 6 ≠ 8 by decide), upd_self, e8, hA.me, cond_true, cond_false, List.cons_append, List.nil_append, List.append_nil]) (fun x => rfl) (OpR.appendM (m := [x18]) e_ref07_Cell 2 hx19 rfl rfl rfl rfl rfl rfl rfl rfl rfl (fun _ => rfl))
 refine oS (d := .val (.pointer (some ⟨(blk p2), 0, none⟩))) (fun _ => Want.plain rfl) (fun _ => rfl) (fun _ _ _ => rfl) (fun _ _ => OpR.pure rfl) (fun _ _ _ _ _ _ _ => rfl) ?_
 refine OpsS.cons' true ?_ (fun _ _ _ _ _ _ _ => rfl) ?_
 · intro D env17 hA
   have e6 : D 6 = true := hA.yes 6 _ rfl rfl
   exact OpS.yes (o0 := [.var (blk p1) [.val (.slice none 0 0), .val (.int .i64 0), .val (.bool false)] 57, .var (blk p2) [.val y5, .val (.int .i64 a0.fEnd), .val (.bool a0.fHidden)] 57, .row (env17 6) (List.map e_ref07_Cell x19) 3 112, .var (blk p16) [.sl 2 (List.map e_arena_Span x15.fText.fL), .val (.int .i64 x15.fText.fN), .val (.int .i64 x15.fRaw.fAt), .val (.int .i64 x15.fRaw.fN), .val (.bool x15.fKept)] 108]) (o1 := fun x => [.var (blk p1) [.val (.slice none 0 0), .val (.int .i64 0), .val (.bool false)] 57, .var (blk p2) [.val (env17 6), .val (.int .i64 a0.fEnd), .val (.bool a0.fHidden)] 57, .row (env17 6) (List.map e_ref07_Cell x19) 3 112, .var (blk p16) [.sl 2 (List.map e_arena_Span x15.fText.fL), .val (.int .i64 x15.fText.fN), .val (.int .i64 x15.fRaw.fAt), .val (.int .i64 x15.fRaw.fN), .val (.bool x15.fKept)] 108]) (d := fun x => .dead) (Want.plain rfl) (by first | rfl | simp only [e6, hA.me, cond_true, cond_false, List.cons_append, List.nil_append, List.append_nil]) (fun x => by first | rfl | simp only [ins_self, ins_ne D (show 8 ≠ 6 by decide), upd_self, upd_ne env17 x (show 8 ≠ 6 by decide), e6, hA.me, cond_true, cond_false, List.cons_append, List.nil_append, List.append_nil]) (fun x => rfl) (OpR.store 1 rfl rfl rfl rfl rfl rfl rfl rfl)
 exact trivial
noncomputable def ref07_Same.l1 (a0 : List ref07_Cell) (a1 : List ref07_Cell) (s4 : Int) : Option (Lp Int (Ex Unit Bool)) :=
  if s4 < (a0.length : Int) then
    bnd (idx a0 s4) fun x14 =>
    bnd (idx a1 s4) fun x15 =>
    if x14 = x15 then
      some (Lp.next (w64 (s4 + 1)))
    else
      some (Lp.done (Ex.ret false))
  else
    some (Lp.done (Ex.brk ()))
noncomputable def ref07_Same (a0 : List ref07_Cell) (a1 : List ref07_Cell) : Option Bool :=
  if (a0.length : Int) = (a1.length : Int) then
    bnd (loop (ref07_Same.l1 a0 a1) 0 : Option (Ex Unit Bool)) fun t2 => match t2 with
      | .brk u3 =>
        some true
      | .ret u3 => some u3
  else
    some false
set_option maxHeartbeats 4000000 in
theorem ref07_Same_c {a0 : List ref07_Cell} {a1 : List ref07_Cell} {res : Bool} (h0 : ref07_Same a0 a1 = some res) : CallF X 70 [.sl 3 (List.map e_ref07_Cell a0), .sl 3 (List.map e_ref07_Cell a1)] [] (fun x => .val (.bool res)) (fun x => []) := by
 unfold ref07_Same at h0
 refine CallF.mkG (X := X) Try.func70 rfl rfl Try.ntmps70 rfl rfl ?_
 refine T.seq ?_
 refine T.region ?_
 refine TL.op1 (OpR.pure rfl) rfl ?_
 refine TL.nil ?_
 show T X _ _ _
 refine T.seq ?_
 refine T.seq ?_
 refine T.region ?_
 refine TL.op1 (OpR.pure rfl) rfl ?_
 refine TL.op1 (OpR.cast (OpR.pure rfl) (intE (lenM _ _))) rfl ?_
 refine TL.op1 (OpR.pure rfl) rfl ?_
 refine TL.op1 (OpR.cast (OpR.pure rfl) (intE (lenM _ _))) rfl ?_
 refine TL.op1 (OpR.pure rfl) rfl ?_
 refine TL.nil ?_
 show T X _ _ _
 rcases ite_some h0 with ⟨c1, h0⟩ | ⟨c1, h0⟩
 rotate_left
 · refine T.condT rfl (not_f (beq_eq_false_iff_ne.2 c1)) ?_
   refine T.seq ?_
   refine T.region ?_
   refine TL.op1 (OpR.pure rfl) rfl ?_
   refine TL.nil ?_
   show T X _ _ _
   refine T.ret ?_
   obtain rfl := Option.some.inj h0
   exact PostG.retP (ks := []) (Gst.only [4] rfl) undef (ResL.cons (ResV.tmp rfl) ResL.nil) rfl rfl rfl rfl
 refine T.condF rfl (not_t (beq_iff_eq.2 c1)) ?_
 refine T.skip ?_
 show T X _ _ _
 refine T.seq ?_
 refine T.seq ?_
 refine T.region ?_
 refine TL.op1 (OpR.pure rfl) rfl ?_
 refine TL.op1 (OpR.cast (OpR.pure rfl) (intE (lenM _ _))) rfl ?_
 refine TL.op1 (OpR.pure rfl) rfl ?_
 refine TL.nil ?_
 show T X _ _ _
 obtain ⟨t2, ht2, h0⟩ := bnd_some h0
 refine T.cutC (fun S' => ∃ u3, t2 = Ex.brk u3 ∧ S' = ⟨[(4, .val (.bool false))], [], 26⟩) (fun _ h => h) ?_ ?_
 rotate_left
 · rintro _ ⟨u3, rfl, rfl⟩
   show T X _ _ _
   refine T.seq ?_
   refine T.region ?_
   refine TL.op1 (OpR.pure rfl) rfl ?_
   refine TL.nil ?_
   show T X _ _ _
   refine T.ret ?_
   obtain rfl := Option.some.inj h0
   exact PostG.retP (ks := []) (Gst.only [4] rfl) undef (ResL.cons (ResV.tmp rfl) ResL.nil) rfl rfl rfl rfl
 refine T.block ?_
 obtain ⟨n5, n10⟩ := loop_some ht2
 refine T.loop (fun n S' => ∃ S'', Gst S' S'' ∧ ∃ s4 : Int, S'' = ⟨[(13, .val (.int .i64 s4)), (12, .val (.int .i64 (a0.length : Int))), (4, .val (.bool false)), (1, .sl 3 (List.map e_ref07_Cell a1)), (0, .sl 3 (List.map e_ref07_Cell a0))], [], 26⟩ ∧ iter (ref07_Same.l1 a0 a1) n s4 = some t2) n5 ?_ ?_
 · exact ⟨_, Gst.only [0, 1, 4, 12, 13] rfl, 0, rfl, n10⟩
 rintro n5 _ ⟨_, g, s4, rfl, i9⟩
 refine T.ghost g ?_
 obtain ⟨m6, q7, rfl, q8, i9⟩ := iter_succ i9
 unfold ref07_Same.l1 at q8
 refine T.seq ?_
 refine T.region ?_
 refine TL.op1 (OpR.pure rfl) rfl ?_
 refine TL.nil ?_
 show T X _ _ _
 refine T.seq ?_
 rcases ite_some q8 with ⟨c12, q8⟩ | ⟨c12, q8⟩
 rotate_left
 · refine T.condF rfl (decide_eq_false c12) ?_
   refine T.exit ?_
   obtain rfl := Option.some.inj q8
   obtain rfl : _ = _ := i9
   exact ⟨_, Gst.only [4] rfl, _, rfl, rfl⟩
 refine T.condT rfl (decide_eq_true c12) ?_
 refine T.skip ?_
 show T X _ _ _
 refine T.seq ?_
 refine T.block ?_
 refine T.seq ?_
 refine T.region ?_
 refine TL.op1 (OpR.pure rfl) rfl ?_
 refine TL.op1 (OpR.pure rfl) rfl ?_
 refine TL.nil ?_
 show T X _ _ _
 refine T.seq ?_
 obtain ⟨x14, hx14, q8⟩ := bnd_some q8
 obtain ⟨x15, hx15, q8⟩ := bnd_some q8
 refine T.drawQ drawsX [.sl 3 (List.map e_ref07_Cell a0), .val (.int .i64 s4), .nod [.val (.string (bs x14.fS)), .val (.string (bs x14.fRaw)), .val (.bool x14.fKept)], .agg [.val (.string (bs x14.fS)), .val (.string (bs x14.fRaw)), .val (.bool x14.fKept)], .sl 3 (List.map e_ref07_Cell a1), .val (.int .i64 s4), .nod [.val (.string (bs x15.fS)), .val (.string (bs x15.fRaw)), .val (.bool x15.fKept)], .agg [.val (.string (bs x15.fS)), .val (.string (bs x15.fRaw)), .val (.bool x15.fKept)], .val (.bool (!(x14 == x15)))] [0, 1, 4, 5, 12, 13, 14, 15, 16, 17, 18, 19, 20, 21, 22, 23, 24] (by decide +kernel) rfl ?_ rfl ?_
 · refine OpsQ.yes (Want.plain rfl) rfl (OpR.pure rfl) ?_
   refine OpsQ.yes (Want.plain rfl) rfl (OpR.pure rfl) ?_
   refine OpsQ.yes (Want.plain rfl) rfl (OpR.indexM e_ref07_Cell hx14 rfl rfl rfl rfl rfl) ?_
   refine OpsQ.yes (Want.plain rfl) rfl (OpR.pure rfl) ?_
   refine OpsQ.yes (Want.plain rfl) rfl (OpR.pure rfl) ?_
   refine OpsQ.yes (Want.plain rfl) rfl (OpR.pure rfl) ?_
   refine OpsQ.yes (Want.plain rfl) rfl (OpR.indexM e_ref07_Cell hx15 rfl rfl rfl rfl rfl) ?_
   refine OpsQ.yes (Want.plain rfl) rfl (OpR.pure rfl) ?_
   refine OpsQ.yes (Want.plain rfl) rfl (OpR.cast (OpR.neStruct rfl rfl rfl rfl rfl (by kernel_rfl) (by kernel_rfl)) (boolE (congrArg (fun b => !b) (beq_ref07_Cell x14 x15)))) ?_
   exact OpsQ.nil
 show T X _ _ _
 rcases ite_some q8 with ⟨c16, q8⟩ | ⟨c16, q8⟩
 · refine T.condF rfl (not_t (beq_iff_eq.2 c16)) ?_
   refine T.skip ?_
   show T X _ _ _
   refine T.region ?_
   refine TL.op1 (OpR.pure rfl) rfl ?_
   refine TL.op1 (OpR.pure rfl) rfl ?_
   refine TL.nil ?_
   obtain rfl := Option.some.inj q8
   exact ⟨m6, Nat.lt_succ_self _, _, Gst.only [0, 1, 4, 12, 13] rfl, w64 (s4 + 1), rfl, i9⟩
 refine T.condT rfl (not_f (beq_eq_false_iff_ne.2 c16)) ?_
 refine T.seq ?_
 refine T.region ?_
 refine TL.op1 (OpR.pure rfl) rfl ?_
 refine TL.nil ?_
 show T X _ _ _
 refine T.ret ?_
 obtain rfl := Option.some.inj q8
 obtain rfl : _ = _ := i9
 obtain rfl := Option.some.inj h0
 exact PostG.retP (ks := []) (Gst.only [4] rfl) undef (ResL.cons (ResV.tmp rfl) ResL.nil) rfl rfl rfl rfl
noncomputable def ref08_Same (a0 : ref08_Row) (a1 : ref08_Row) : Option Bool :=
  bnd (if a0.fEnd = a1.fEnd then
    if (a0.fHidden == a1.fHidden) = true then
      bnd (ref07_Same a0.fCells a1.fCells) fun x4 =>
      some x4
    else
      some false
  else
    some false : Option Bool) fun t1 =>
  some t1
set_option maxHeartbeats 4000000 in
theorem ref08_Same_c {a0 : ref08_Row} {a1 : ref08_Row} {res : Bool} (h0 : ref08_Same a0 a1 = some res) : CallF X 30 [.agg [.sl 3 (List.map e_ref07_Cell a0.fCells), .val (.int .i64 a0.fEnd), .val (.bool a0.fHidden)], .agg [.sl 3 (List.map e_ref07_Cell a1.fCells), .val (.int .i64 a1.fEnd), .val (.bool a1.fHidden)]] [] (fun x => .val (.bool res)) (fun x => []) := by
 unfold ref08_Same at h0
 refine CallF.mkG (X := X) Try.func30 rfl rfl Try.ntmps30 rfl rfl ?_
 refine T.seq ?_
 refine T.region ?_
 refine TL.op1 (OpR.boxImm rfl rfl) rfl ?_
 refine TL.op1 (OpR.boxImm rfl rfl) rfl ?_
 refine TL.op1 (OpR.pure rfl) rfl ?_
 refine TL.nil ?_
 show T X _ _ _
 refine T.seq ?_
 obtain ⟨t1, ht1, h0⟩ := bnd_some h0
 refine T.cutC (fun S' => S' = ⟨[(4, .val (.bool t1))], [], 24⟩) (fun _ h => h) ?_ ?_
 rotate_left
 · rintro _ rfl
   show T X _ _ _
   refine T.ret ?_
   obtain rfl := Option.some.inj h0
   exact PostG.retP (ks := []) (Gst.only [4] rfl) undef (ResL.cons (ResV.tmp rfl) ResL.nil) rfl rfl rfl rfl
 refine T.region ?_
 refine TL.op1 (OpR.pure rfl) rfl ?_
 refine TL.op1 (OpR.pure rfl) rfl ?_
 refine TL.op1 (OpR.pure rfl) rfl ?_
 refine TL.op1 (OpR.pure rfl) rfl ?_
 refine TL.op1 (OpR.pure rfl) rfl ?_
 refine TL.op1 (OpR.pure rfl) rfl ?_
 rcases ite_some ht1 with ⟨c2, ht1⟩ | ⟨c2, ht1⟩
 rotate_left
 · refine TL.off rfl rfl rfl rfl (beq_eq_false_iff_ne.2 c2) rfl rfl ?_
   refine TL.off rfl rfl rfl rfl (beq_eq_false_iff_ne.2 c2) rfl rfl ?_
   refine TL.off rfl rfl rfl rfl (beq_eq_false_iff_ne.2 c2) rfl rfl ?_
   refine TL.off rfl rfl rfl rfl (beq_eq_false_iff_ne.2 c2) rfl rfl ?_
   refine TL.off rfl rfl rfl rfl (beq_eq_false_iff_ne.2 c2) rfl rfl ?_
   refine TL.op1 (OpR.pickF rfl (beq_eq_false_iff_ne.2 c2) rfl) rfl ?_
   refine TL.op1 (OpR.pure rfl) rfl ?_
   refine TL.off rfl rfl rfl rfl rfl rfl rfl ?_
   refine TL.off rfl rfl rfl rfl rfl rfl rfl ?_
   refine TL.off rfl rfl rfl rfl rfl rfl rfl ?_
   refine TL.off rfl rfl rfl rfl rfl rfl rfl ?_
   refine TL.off rfl rfl rfl rfl rfl rfl rfl ?_
   refine TL.op1 (OpR.pickF rfl rfl rfl) rfl ?_
   refine TL.op1 (OpR.pure rfl) rfl ?_
   refine TL.nil ?_
   obtain rfl := Option.some.inj ht1
   exact ⟨_, Gst.only [4] rfl, rfl⟩
 refine TL.on rfl rfl rfl rfl (beq_iff_eq.2 c2) ?_
 refine TL.op1 (OpR.pure rfl) rfl ?_
 refine TL.on rfl rfl rfl rfl (beq_iff_eq.2 c2) ?_
 refine TL.op1 (OpR.pure rfl) rfl ?_
 refine TL.on rfl rfl rfl rfl (beq_iff_eq.2 c2) ?_
 refine TL.op1 (OpR.pure rfl) rfl ?_
 refine TL.on rfl rfl rfl rfl (beq_iff_eq.2 c2) ?_
 refine TL.op1 (OpR.pure rfl) rfl ?_
 refine TL.on rfl rfl rfl rfl (beq_iff_eq.2 c2) ?_
 refine TL.op1 (OpR.eqBool rfl rfl rfl rfl) rfl ?_
 refine TL.op1 (OpR.pickT rfl (beq_iff_eq.2 c2) rfl) rfl ?_
 refine TL.op1 (OpR.pure rfl) rfl ?_
 rcases ite_some ht1 with ⟨c3, ht1⟩ | ⟨c3, ht1⟩
 rotate_left
 · refine TL.off rfl rfl rfl rfl (eq_false_of_ne_true c3) rfl rfl ?_
   refine TL.off rfl rfl rfl rfl (eq_false_of_ne_true c3) rfl rfl ?_
   refine TL.off rfl rfl rfl rfl (eq_false_of_ne_true c3) rfl rfl ?_
   refine TL.off rfl rfl rfl rfl (eq_false_of_ne_true c3) rfl rfl ?_
   refine TL.off rfl rfl rfl rfl (eq_false_of_ne_true c3) rfl rfl ?_
   refine TL.op1 (OpR.pickF rfl (eq_false_of_ne_true c3) rfl) rfl ?_
   refine TL.op1 (OpR.pure rfl) rfl ?_
   refine TL.nil ?_
   obtain rfl := Option.some.inj ht1
   exact ⟨_, Gst.only [4] rfl, rfl⟩
 refine TL.on rfl rfl rfl rfl (c3) ?_
 refine TL.op1 (OpR.pure rfl) rfl ?_
 refine TL.on rfl rfl rfl rfl (c3) ?_
 refine TL.op1 (OpR.pure rfl) rfl ?_
 refine TL.on rfl rfl rfl rfl (c3) ?_
 refine TL.op1 (OpR.pure rfl) rfl ?_
 refine TL.on rfl rfl rfl rfl (c3) ?_
 refine TL.op1 (OpR.pure rfl) rfl ?_
 refine TL.on rfl rfl rfl rfl (c3) ?_
 obtain ⟨x4, hx4, ht1⟩ := bnd_some ht1
 refine TL.op1 (OpR.call0 fn70 (ref07_Same_c hx4) rfl) rfl ?_
 refine TL.op1 (OpR.pickT rfl (c3) rfl) rfl ?_
 refine TL.op1 (OpR.pure rfl) rfl ?_
 refine TL.nil ?_
 obtain rfl := Option.some.inj ht1
 exact ⟨_, Gst.only [4] rfl, rfl⟩
noncomputable def quote_class (a0 : UInt8) : Option Int :=
  if (a0.toNat : Int) = 44 then
    some 1
  else
    if (a0.toNat : Int) = 34 then
      some 2
    else
      if (a0.toNat : Int) = 13 then
        some 3
      else
        if (a0.toNat : Int) = 10 then
          some 4
        else
          some 0
set_option maxHeartbeats 4000000 in
theorem quote_class_c {a0 : UInt8} {res : Int} (h0 : quote_class a0 = some res) : CallF X 170 [.val (.int .u8 (a0.toNat : Int))] [] (fun x => .val (.int .i64 res)) (fun x => []) := by
 unfold quote_class at h0
 refine CallF.mkG (X := X) Try.func170 rfl rfl Try.ntmps170 rfl rfl ?_
 refine T.seq ?_
 refine T.region ?_
 refine TL.op1 (OpR.pure rfl) rfl ?_
 refine TL.nil ?_
 show T X _ _ _
 refine T.seq ?_
 refine T.seq ?_
 refine T.region ?_
 refine TL.op1 (OpR.pure rfl) rfl ?_
 refine TL.nil ?_
 show T X _ _ _
 refine T.block ?_
 refine T.seq ?_
 refine T.region ?_
 refine TL.op1 (OpR.pure rfl) rfl ?_
 refine TL.op1 (OpR.pure rfl) rfl ?_
 refine TL.nil ?_
 show T X _ _ _
 rcases ite_some h0 with ⟨c1, h0⟩ | ⟨c1, h0⟩
 · refine T.condT rfl (beq_iff_eq.2 c1) ?_
   refine T.seq ?_
   refine T.region ?_
   refine TL.op1 (OpR.pure rfl) rfl ?_
   refine TL.nil ?_
   show T X _ _ _
   refine T.ret ?_
   obtain rfl := Option.some.inj h0
   exact PostG.retP (ks := []) (Gst.only [2] rfl) undef (ResL.cons (ResV.tmp rfl) ResL.nil) rfl rfl rfl rfl
 refine T.condF rfl (beq_eq_false_iff_ne.2 c1) ?_
 refine T.seq ?_
 refine T.region ?_
 refine TL.op1 (OpR.pure rfl) rfl ?_
 refine TL.op1 (OpR.pure rfl) rfl ?_
 refine TL.nil ?_
 show T X _ _ _
 rcases ite_some h0 with ⟨c2, h0⟩ | ⟨c2, h0⟩
 · refine T.condT rfl (beq_iff_eq.2 c2) ?_
   refine T.seq ?_
   refine T.region ?_
   refine TL.op1 (OpR.pure rfl) rfl ?_
   refine TL.nil ?_
   show T X _ _ _
   refine T.ret ?_
   obtain rfl := Option.some.inj h0
   exact PostG.retP (ks := []) (Gst.only [2] rfl) undef (ResL.cons (ResV.tmp rfl) ResL.nil) rfl rfl rfl rfl
 refine T.condF rfl (beq_eq_false_iff_ne.2 c2) ?_
 refine T.seq ?_
 refine T.region ?_
 refine TL.op1 (OpR.pure rfl) rfl ?_
 refine TL.op1 (OpR.pure rfl) rfl ?_
 refine TL.nil ?_
 show T X _ _ _
 rcases ite_some h0 with ⟨c3, h0⟩ | ⟨c3, h0⟩
 · refine T.condT rfl (beq_iff_eq.2 c3) ?_
   refine T.seq ?_
   refine T.region ?_
   refine TL.op1 (OpR.pure rfl) rfl ?_
   refine TL.nil ?_
   show T X _ _ _
   refine T.ret ?_
   obtain rfl := Option.some.inj h0
   exact PostG.retP (ks := []) (Gst.only [2] rfl) undef (ResL.cons (ResV.tmp rfl) ResL.nil) rfl rfl rfl rfl
 refine T.condF rfl (beq_eq_false_iff_ne.2 c3) ?_
 refine T.seq ?_
 refine T.region ?_
 refine TL.op1 (OpR.pure rfl) rfl ?_
 refine TL.op1 (OpR.pure rfl) rfl ?_
 refine TL.nil ?_
 show T X _ _ _
 rcases ite_some h0 with ⟨c4, h0⟩ | ⟨c4, h0⟩
 · refine T.condT rfl (beq_iff_eq.2 c4) ?_
   refine T.seq ?_
   refine T.region ?_
   refine TL.op1 (OpR.pure rfl) rfl ?_
   refine TL.nil ?_
   show T X _ _ _
   refine T.ret ?_
   obtain rfl := Option.some.inj h0
   exact PostG.retP (ks := []) (Gst.only [2] rfl) undef (ResL.cons (ResV.tmp rfl) ResL.nil) rfl rfl rfl rfl
 refine T.condF rfl (beq_eq_false_iff_ne.2 c4) ?_
 refine T.skip ?_
 show T X _ _ _
 refine T.seq ?_
 refine T.region ?_
 refine TL.op1 (OpR.pure rfl) rfl ?_
 refine TL.nil ?_
 show T X _ _ _
 refine T.ret ?_
 obtain rfl := Option.some.inj h0
 exact PostG.retP (ks := []) (Gst.only [2] rfl) undef (ResL.cons (ResV.tmp rfl) ResL.nil) rfl rfl rfl rfl
noncomputable def quote_Needs.l1 (a0 : List UInt8) (s3 : Int) : Option (Lp Int (Ex Unit Bool)) :=
  if s3 < (a0.length : Int) then
    bnd (idx a0 s3) fun x12 =>
    bnd (quote_class x12) fun x13 =>
    if x13 = 0 then
      some (Lp.next (w64 (s3 + 1)))
    else
      some (Lp.done (Ex.ret true))
  else
    some (Lp.done (Ex.brk ()))
noncomputable def quote_Needs (a0 : List UInt8) : Option Bool :=
  bnd (loop (quote_Needs.l1 a0) 0 : Option (Ex Unit Bool)) fun t1 => match t1 with
    | .brk u2 =>
      some false
    | .ret u2 => some u2
set_option maxHeartbeats 4000000 in
theorem quote_Needs_c {a0 : List UInt8} {res : Bool} (h0 : quote_Needs a0 = some res) : CallF X 169 [.sl 1 (List.map byteD a0)] [] (fun x => .val (.bool res)) (fun x => []) := by
 unfold quote_Needs at h0
 refine CallF.mkG (X := X) Try.func169 rfl rfl Try.ntmps169 rfl rfl ?_
 refine T.seq ?_
 refine T.region ?_
 refine TL.op1 (OpR.pure rfl) rfl ?_
 refine TL.nil ?_
 show T X _ _ _
 refine T.seq ?_
 refine T.seq ?_
 refine T.region ?_
 refine TL.op1 (OpR.pure rfl) rfl ?_
 refine TL.op1 (OpR.cast (OpR.pure rfl) (intE (lenM _ _))) rfl ?_
 refine TL.op1 (OpR.pure rfl) rfl ?_
 refine TL.nil ?_
 show T X _ _ _
 obtain ⟨t1, ht1, h0⟩ := bnd_some h0
 refine T.cutC (fun S' => ∃ u2, t1 = Ex.brk u2 ∧ S' = ⟨[(2, .val (.bool false))], [], 15⟩) (fun _ h => h) ?_ ?_
 rotate_left
 · rintro _ ⟨u2, rfl, rfl⟩
   show T X _ _ _
   refine T.seq ?_
   refine T.region ?_
   refine TL.op1 (OpR.pure rfl) rfl ?_
   refine TL.nil ?_
   show T X _ _ _
   refine T.ret ?_
   obtain rfl := Option.some.inj h0
   exact PostG.retP (ks := []) (Gst.only [2] rfl) undef (ResL.cons (ResV.tmp rfl) ResL.nil) rfl rfl rfl rfl
 refine T.block ?_
 obtain ⟨n4, n9⟩ := loop_some ht1
 refine T.loop (fun n S' => ∃ S'', Gst S' S'' ∧ ∃ s3 : Int, S'' = ⟨[(7, .val (.int .i64 s3)), (6, .val (.int .i64 (a0.length : Int))), (5, .sl 1 (List.map byteD a0)), (2, .val (.bool false))], [], 15⟩ ∧ iter (quote_Needs.l1 a0) n s3 = some t1) n4 ?_ ?_
 · exact ⟨_, Gst.only [2, 5, 6, 7] rfl, 0, rfl, n9⟩
 rintro n4 _ ⟨_, g, s3, rfl, i8⟩
 refine T.ghost g ?_
 obtain ⟨m5, q6, rfl, q7, i8⟩ := iter_succ i8
 unfold quote_Needs.l1 at q7
 refine T.seq ?_
 refine T.region ?_
 refine TL.op1 (OpR.pure rfl) rfl ?_
 refine TL.nil ?_
 show T X _ _ _
 refine T.seq ?_
 rcases ite_some q7 with ⟨c11, q7⟩ | ⟨c11, q7⟩
 rotate_left
 · refine T.condF rfl (decide_eq_false c11) ?_
   refine T.exit ?_
   obtain rfl := Option.some.inj q7
   obtain rfl : _ = _ := i8
   exact ⟨_, Gst.only [2] rfl, _, rfl, rfl⟩
 refine T.condT rfl (decide_eq_true c11) ?_
 refine T.skip ?_
 show T X _ _ _
 refine T.seq ?_
 refine T.block ?_
 refine T.seq ?_
 refine T.region ?_
 obtain ⟨x12, hx12, q7⟩ := bnd_some q7
 refine TL.op1 (OpR.indexM byteD hx12 rfl rfl rfl rfl rfl) rfl ?_
 refine TL.op1 (OpR.pure rfl) rfl ?_
 refine TL.op1 (OpR.pure rfl) rfl ?_
 refine TL.nil ?_
 show T X _ _ _
 refine T.seq ?_
 refine T.region ?_
 refine TL.op1 (OpR.pure rfl) rfl ?_
 obtain ⟨x13, hx13, q7⟩ := bnd_some q7
 refine TL.op1 (OpR.call0 fn170 (quote_class_c hx13) rfl) rfl ?_
 refine TL.op1 (OpR.pure rfl) rfl ?_
 refine TL.nil ?_
 show T X _ _ _
 rcases ite_some q7 with ⟨c14, q7⟩ | ⟨c14, q7⟩
 · refine T.condF rfl (not_t (beq_iff_eq.2 c14)) ?_
   refine T.skip ?_
   show T X _ _ _
   refine T.region ?_
   refine TL.op1 (OpR.pure rfl) rfl ?_
   refine TL.op1 (OpR.pure rfl) rfl ?_
   refine TL.nil ?_
   obtain rfl := Option.some.inj q7
   exact ⟨m5, Nat.lt_succ_self _, _, Gst.only [2, 5, 6, 7] rfl, w64 (s3 + 1), rfl, i8⟩
 refine T.condT rfl (not_f (beq_eq_false_iff_ne.2 c14)) ?_
 refine T.seq ?_
 refine T.region ?_
 refine TL.op1 (OpR.pure rfl) rfl ?_
 refine TL.nil ?_
 show T X _ _ _
 refine T.ret ?_
 obtain rfl := Option.some.inj q7
 obtain rfl : _ = _ := i8
 obtain rfl := Option.some.inj h0
 exact PostG.retP (ks := []) (Gst.only [2] rfl) undef (ResL.cons (ResV.tmp rfl) ResL.nil) rfl rfl rfl rfl
noncomputable def quote_quotes.l1 (a0 : List UInt8) (s2 : Int × Int) : Option (Lp (Int × Int) Int) :=
  if s2.2 < (a0.length : Int) then
    bnd (idx a0 s2.2) fun x11 =>
    bnd (quote_class x11) fun x12 =>
    bnd (if x12 = 2 then
      some (w64 (s2.1 + 1))
    else
      some s2.1 : Option Int) fun t13 =>
    some (Lp.next (t13, w64 (s2.2 + 1)))
  else
    some (Lp.done s2.1)
noncomputable def quote_quotes (a0 : List UInt8) : Option Int :=
  bnd (loop (quote_quotes.l1 a0) (0, 0) : Option Int) fun t1 =>
  some t1
set_option maxHeartbeats 4000000 in
theorem quote_quotes_c {a0 : List UInt8} {res : Int} (h0 : quote_quotes a0 = some res) : CallF X 204 [.sl 1 (List.map byteD a0)] [] (fun x => .val (.int .i64 res)) (fun x => []) := by
 unfold quote_quotes at h0
 refine CallF.mkG (X := X) Try.func204 rfl rfl Try.ntmps204 rfl rfl ?_
 refine T.seq ?_
 refine T.region ?_
 refine TL.op1 (OpR.pure rfl) rfl ?_
 refine TL.nil ?_
 show T X _ _ _
 refine T.seq ?_
 refine T.region ?_
 refine TL.op1 (OpR.pure rfl) rfl ?_
 refine TL.nil ?_
 show T X _ _ _
 refine T.seq ?_
 refine T.seq ?_
 refine T.region ?_
 refine TL.op1 (OpR.pure rfl) rfl ?_
 refine TL.op1 (OpR.cast (OpR.pure rfl) (intE (lenM _ _))) rfl ?_
 refine TL.op1 (OpR.pure rfl) rfl ?_
 refine TL.nil ?_
 show T X _ _ _
 obtain ⟨t1, ht1, h0⟩ := bnd_some h0
 refine T.cutC (fun S' => S' = ⟨[(3, .val (.int .i64 t1)), (2, .val (.int .i64 0))], [], 19⟩) (fun _ h => h) ?_ ?_
 rotate_left
 · rintro _ rfl
   show T X _ _ _
   refine T.seq ?_
   refine T.region ?_
   refine TL.op1 (OpR.pure rfl) rfl ?_
   refine TL.op1 (OpR.pure rfl) rfl ?_
   refine TL.nil ?_
   show T X _ _ _
   refine T.ret ?_
   obtain rfl := Option.some.inj h0
   exact PostG.retP (ks := []) (Gst.only [2] rfl) undef (ResL.cons (ResV.tmp rfl) ResL.nil) rfl rfl rfl rfl
 refine T.block ?_
 obtain ⟨n3, n8⟩ := loop_some ht1
 refine T.loop (fun n S' => ∃ S'', Gst S' S'' ∧ ∃ s2 : Int × Int, S'' = ⟨[(8, .val (.int .i64 s2.2)), (7, .val (.int .i64 (a0.length : Int))), (6, .sl 1 (List.map byteD a0)), (3, .val (.int .i64 s2.1)), (2, .val (.int .i64 0))], [], 19⟩ ∧ iter (quote_quotes.l1 a0) n s2 = some t1) n3 ?_ ?_
 · exact ⟨_, Gst.only [2, 3, 6, 7, 8] rfl, (0, 0), rfl, n8⟩
 rintro n3 _ ⟨_, g, s2, rfl, i7⟩
 refine T.ghost g ?_
 obtain ⟨m4, q5, rfl, q6, i7⟩ := iter_succ i7
 unfold quote_quotes.l1 at q6
 refine T.seq ?_
 refine T.region ?_
 refine TL.op1 (OpR.pure rfl) rfl ?_
 refine TL.nil ?_
 show T X _ _ _
 refine T.seq ?_
 rcases ite_some q6 with ⟨c10, q6⟩ | ⟨c10, q6⟩
 rotate_left
 · refine T.condF rfl (decide_eq_false c10) ?_
   refine T.exit ?_
   obtain rfl := Option.some.inj q6
   obtain rfl : _ = _ := i7
   exact ⟨_, Gst.only [2, 3] rfl, rfl⟩
 refine T.condT rfl (decide_eq_true c10) ?_
 refine T.skip ?_
 show T X _ _ _
 refine T.seq ?_
 refine T.block ?_
 refine T.seq ?_
 refine T.region ?_
 obtain ⟨x11, hx11, q6⟩ := bnd_some q6
 refine TL.op1 (OpR.indexM byteD hx11 rfl rfl rfl rfl rfl) rfl ?_
 refine TL.op1 (OpR.pure rfl) rfl ?_
 refine TL.op1 (OpR.pure rfl) rfl ?_
 refine TL.nil ?_
 show T X _ _ _
 refine T.seq ?_
 refine T.region ?_
 refine TL.op1 (OpR.pure rfl) rfl ?_
 obtain ⟨x12, hx12, q6⟩ := bnd_some q6
 refine TL.op1 (OpR.call0 fn170 (quote_class_c hx12) rfl) rfl ?_
 refine TL.op1 (OpR.pure rfl) rfl ?_
 refine TL.nil ?_
 show T X _ _ _
 obtain ⟨t13, ht13, q6⟩ := bnd_some q6
 refine T.cutC (fun S' => S' = ⟨[(8, .val (.int .i64 s2.2)), (7, .val (.int .i64 (a0.length : Int))), (6, .sl 1 (List.map byteD a0)), (3, .val (.int .i64 t13)), (2, .val (.int .i64 0))], [], 19⟩) (fun _ h => h) ?_ ?_
 rotate_left
 · rintro _ rfl
   show T X _ _ _
   refine T.region ?_
   refine TL.op1 (OpR.pure rfl) rfl ?_
   refine TL.op1 (OpR.pure rfl) rfl ?_
   refine TL.nil ?_
   obtain rfl := Option.some.inj q6
   exact ⟨m4, Nat.lt_succ_self _, _, Gst.only [2, 3, 6, 7, 8] rfl, (t13, w64 (s2.2 + 1)), rfl, i7⟩
 rcases ite_some ht13 with ⟨c14, ht13⟩ | ⟨c14, ht13⟩
 rotate_left
 · refine T.condF rfl (beq_eq_false_iff_ne.2 c14) ?_
   refine T.skip ?_
   obtain rfl := Option.some.inj ht13
   exact ⟨_, Gst.only [2, 3, 6, 7, 8] rfl, rfl⟩
 refine T.condT rfl (beq_iff_eq.2 c14) ?_
 refine T.region ?_
 refine TL.op1 (OpR.pure rfl) rfl ?_
 refine TL.op1 (OpR.pure rfl) rfl ?_
 refine TL.op1 (OpR.pure rfl) rfl ?_
 refine TL.nil ?_
 obtain rfl := Option.some.inj ht13
 exact ⟨_, Gst.only [2, 3, 6, 7, 8] rfl, rfl⟩
noncomputable def quote_Width (a0 : List UInt8) : Option Int :=
  bnd (quote_Needs a0) fun x1 =>
  if x1 = true then
    bnd (quote_quotes a0) fun x3 =>
    some (w64 ((w64 ((a0.length : Int) + x3)) + 2))
  else
    some (a0.length : Int)
set_option maxHeartbeats 4000000 in
theorem quote_Width_c {a0 : List UInt8} {res : Int} (h0 : quote_Width a0 = some res) : CallF X 168 [.sl 1 (List.map byteD a0)] [] (fun x => .val (.int .i64 res)) (fun x => []) := by
 unfold quote_Width at h0
 refine CallF.mkG (X := X) Try.func168 rfl rfl Try.ntmps168 rfl rfl ?_
 refine T.seq ?_
 refine T.region ?_
 refine TL.op1 (OpR.pure rfl) rfl ?_
 refine TL.nil ?_
 show T X _ _ _
 refine T.seq ?_
 refine T.seq ?_
 refine T.region ?_
 refine TL.op1 (OpR.pure rfl) rfl ?_
 obtain ⟨x1, hx1, h0⟩ := bnd_some h0
 refine TL.op1 (OpR.call0 fn169 (quote_Needs_c hx1) rfl) rfl ?_
 refine TL.op1 (OpR.pure rfl) rfl ?_
 refine TL.nil ?_
 show T X _ _ _
 rcases ite_some h0 with ⟨c2, h0⟩ | ⟨c2, h0⟩
 rotate_left
 · refine T.condT rfl (not_f (eq_false_of_ne_true c2)) ?_
   refine T.seq ?_
   refine T.region ?_
   refine TL.op1 (OpR.pure rfl) rfl ?_
   refine TL.op1 (OpR.cast (OpR.pure rfl) (intE (lenM _ _))) rfl ?_
   refine TL.op1 (OpR.pure rfl) rfl ?_
   refine TL.nil ?_
   show T X _ _ _
   refine T.ret ?_
   obtain rfl := Option.some.inj h0
   exact PostG.retP (ks := []) (Gst.only [2] rfl) undef (ResL.cons (ResV.tmp rfl) ResL.nil) rfl rfl rfl rfl
 refine T.condF rfl (not_t (c2)) ?_
 refine T.skip ?_
 show T X _ _ _
 refine T.seq ?_
 refine T.region ?_
 refine TL.op1 (OpR.pure rfl) rfl ?_
 refine TL.op1 (OpR.cast (OpR.pure rfl) (intE (lenM _ _))) rfl ?_
 refine TL.op1 (OpR.pure rfl) rfl ?_
 obtain ⟨x3, hx3, h0⟩ := bnd_some h0
 refine TL.op1 (OpR.call0 fn204 (quote_quotes_c hx3) rfl) rfl ?_
 refine TL.op1 (OpR.pure rfl) rfl ?_
 refine TL.op1 (OpR.pure rfl) rfl ?_
 refine TL.op1 (OpR.pure rfl) rfl ?_
 refine TL.nil ?_
 show T X _ _ _
 refine T.ret ?_
 obtain rfl := Option.some.inj h0
 exact PostG.retP (ks := []) (Gst.only [2] rfl) undef (ResL.cons (ResV.tmp rfl) ResL.nil) rfl rfl rfl rfl
noncomputable def quote_Put.l1 (a0 : List UInt8) (s11 : Int × (List UInt8)) : Option (Lp (Int × (List UInt8)) (List UInt8)) :=
  if s11.1 < (a0.length : Int) then
    bnd (idx a0 s11.1) fun x20 =>
    bnd (quote_class x20) fun x21 =>
    bnd (if x21 = 2 then
      bnd (app 1 s11.2 [x20]) fun x25 =>
      some x25
    else
      some s11.2 : Option (List UInt8)) fun t22 =>
    bnd (app 1 t22 [x20]) fun x27 =>
    some (Lp.next (w64 (s11.1 + 1), x27))
  else
    some (Lp.done s11.2)
noncomputable def quote_Put (a0 : List UInt8) : Option (List UInt8) :=
  bnd (quote_Width a0) fun x1 =>
  bnd ((mkc 1 x1 : Option (List UInt8))) fun x2 =>
  bnd (quote_Needs a0) fun x4 =>
  if x4 = true then
    bnd (app 1 x2 [34]) fun x6 =>
    bnd (loop (quote_Put.l1 a0) (0, x6) : Option (List UInt8)) fun t8 =>
    bnd (app 1 t8 [34]) fun x29 =>
    some x29
  else
    bnd (app 1 x2 a0) fun x31 =>
    some x31
set_option maxHeartbeats 4000000 in
theorem quote_Put_c {a0 : List UInt8} {res : (List UInt8)} (h0 : quote_Put a0 = some res) : CallF X 125 [.sl 1 (List.map byteD a0)] [] (fun x => .sl 1 (List.map byteD res)) (fun x => []) := by
 unfold quote_Put at h0
 refine CallF.mkG (X := X) Try.func125 rfl rfl Try.ntmps125 rfl rfl ?_
 refine T.seq ?_
 refine T.region ?_
 refine TL.op1 (OpR.pure rfl) rfl ?_
 refine TL.nil ?_
 show T X _ _ _
 refine T.seq ?_
 refine T.region ?_
 refine TL.op1 (OpR.pure rfl) rfl ?_
 obtain ⟨x1, hx1, h0⟩ := bnd_some h0
 refine TL.op1 (OpR.call0 fn168 (quote_Width_c hx1) rfl) rfl ?_
 obtain ⟨x2, hx2, h0⟩ := bnd_some h0
 refine TL.op (OpR.makeC byteD hx2 rfl rfl rfl rfl rfl rfl rfl (fun _ => rfl)) rfl (fun v3 => ?_)
 refine TL.op1 (OpR.pure rfl) rfl ?_
 refine TL.nil ?_
 show T X _ _ _
 refine T.seq ?_
 refine T.seq ?_
 refine T.region ?_
 refine TL.op1 (OpR.pure rfl) rfl ?_
 obtain ⟨x4, hx4, h0⟩ := bnd_some h0
 refine TL.op1 (OpR.call0 fn169 (quote_Needs_c hx4) rfl) rfl ?_
 refine TL.op1 (OpR.pure rfl) rfl ?_
 refine TL.nil ?_
 show T X _ _ _
 rcases ite_some h0 with ⟨c5, h0⟩ | ⟨c5, h0⟩
 rotate_left
 · refine T.condT rfl (not_f (eq_false_of_ne_true c5)) ?_
   refine T.seq ?_
   refine T.region ?_
   refine TL.op1 (OpR.pure rfl) rfl ?_
   refine TL.op1 (OpR.pure rfl) rfl ?_
   obtain ⟨x31, hx31, h0⟩ := bnd_some h0
   refine TL.op (OpR.appendM (m := a0) byteD 0 hx31 rfl rfl rfl rfl rfl rfl rfl rfl rfl (fun _ => rfl)) rfl (fun v32 => ?_)
   refine TL.op1 (OpR.pure rfl) rfl ?_
   refine TL.nil ?_
   show T X _ _ _
   refine T.ret ?_
   obtain rfl := Option.some.inj h0
   exact PostG.retP (ks := []) (Gst.trans (Gst.only [2] rfl) (Gst.trans (Gst.freezeRow 0 rfl rfl (ReS.cons (Re.base .all) ReS.nil) (ReO.same ReO.nil)) (Gst.pick [] rfl rfl))) undef (ResL.cons (ResV.tmp rfl) ResL.nil) rfl rfl rfl rfl
 refine T.condF rfl (not_t (c5)) ?_
 refine T.skip ?_
 show T X _ _ _
 refine T.seq ?_
 refine T.region ?_
 refine TL.op1 (OpR.pure rfl) rfl ?_
 refine TL.op1 (OpR.lit rfl rfl rfl rfl rfl rfl rfl) rfl ?_
 obtain ⟨x6, hx6, h0⟩ := bnd_some h0
 refine TL.op (OpR.appendM (m := [34]) byteD 0 hx6 rfl rfl rfl rfl rfl rfl rfl rfl rfl (fun _ => rfl)) rfl (fun v7 => ?_)
 refine TL.op1 (OpR.pure rfl) rfl ?_
 refine TL.nil ?_
 show T X _ _ _
 refine T.seq ?_
 refine T.seq ?_
 refine T.region ?_
 refine TL.op1 (OpR.pure rfl) rfl ?_
 refine TL.op1 (OpR.cast (OpR.pure rfl) (intE (lenM _ _))) rfl ?_
 refine TL.op1 (OpR.pure rfl) rfl ?_
 refine TL.nil ?_
 show T X _ _ _
 obtain ⟨t8, ht8, h0⟩ := bnd_some h0
 refine T.cutC (fun S' => ∃ y9 : Value, S' = ⟨[(3, .val y9), (2, .val (.slice none 0 0))], [.row y9 (List.map byteD t8) 1 5], 39⟩) (fun _ h => h) ?_ ?_
 rotate_left
 · rintro _ ⟨y9, rfl⟩
   show T X _ _ _
   refine T.seq ?_
   refine T.region ?_
   refine TL.op1 (OpR.pure rfl) rfl ?_
   refine TL.op1 (OpR.lit rfl rfl rfl rfl rfl rfl rfl) rfl ?_
   obtain ⟨x29, hx29, h0⟩ := bnd_some h0
   refine TL.op (OpR.appendM (m := [34]) byteD 0 hx29 rfl rfl rfl rfl rfl rfl rfl rfl rfl (fun _ => rfl)) rfl (fun v30 => ?_)
   refine TL.op1 (OpR.pure rfl) rfl ?_
   refine TL.nil ?_
   show T X _ _ _
   refine T.ret ?_
   obtain rfl := Option.some.inj h0
   exact PostG.retP (ks := []) (Gst.trans (Gst.only [2] rfl) (Gst.trans (Gst.freezeRow 0 rfl rfl (ReS.cons (Re.base .all) ReS.nil) (ReO.same ReO.nil)) (Gst.pick [] rfl rfl))) undef (ResL.cons (ResV.tmp rfl) ResL.nil) rfl rfl rfl rfl
 refine T.block ?_
 obtain ⟨n12, n17⟩ := loop_some ht8
 refine T.loop (fun n S' => ∃ S'', Gst S' S'' ∧ ∃ y10 : Value, ∃ s11 : Int × (List UInt8), S'' = ⟨[(20, .val (.int .i64 s11.1)), (19, .val (.int .i64 (a0.length : Int))), (18, .sl 1 (List.map byteD a0)), (3, .val y10), (2, .val (.slice none 0 0))], [.row y10 (List.map byteD s11.2) 1 5], 39⟩ ∧ iter (quote_Put.l1 a0) n s11 = some t8) n12 ?_ ?_
 · exact ⟨_, Gst.only [2, 3, 18, 19, 20] rfl, v7, (0, x6), rfl, n17⟩
 rintro n12 _ ⟨_, g, y10, s11, rfl, i16⟩
 refine T.ghost g ?_
 obtain ⟨m13, q14, rfl, q15, i16⟩ := iter_succ i16
 unfold quote_Put.l1 at q15
 refine T.seq ?_
 refine T.region ?_
 refine TL.op1 (OpR.pure rfl) rfl ?_
 refine TL.nil ?_
 show T X _ _ _
 refine T.seq ?_
 rcases ite_some q15 with ⟨c19, q15⟩ | ⟨c19, q15⟩
 rotate_left
 · refine T.condF rfl (decide_eq_false c19) ?_
   refine T.exit ?_
   obtain rfl := Option.some.inj q15
   obtain rfl : _ = _ := i16
   exact ⟨_, Gst.only [2, 3] rfl, y10, rfl⟩
 refine T.condT rfl (decide_eq_true c19) ?_
 refine T.skip ?_
 show T X _ _ _
 refine T.seq ?_
 refine T.block ?_
 refine T.seq ?_
 refine T.region ?_
 obtain ⟨x20, hx20, q15⟩ := bnd_some q15
 refine TL.op1 (OpR.indexM byteD hx20 rfl rfl rfl rfl rfl) rfl ?_
 refine TL.op1 (OpR.pure rfl) rfl ?_
 refine TL.op1 (OpR.pure rfl) rfl ?_
 refine TL.nil ?_
 show T X _ _ _
 refine T.seq ?_
 refine T.seq ?_
 refine T.region ?_
 refine TL.op1 (OpR.pure rfl) rfl ?_
 obtain ⟨x21, hx21, q15⟩ := bnd_some q15
 refine TL.op1 (OpR.call0 fn170 (quote_class_c hx21) rfl) rfl ?_
 refine TL.op1 (OpR.pure rfl) rfl ?_
 refine TL.nil ?_
 show T X _ _ _
 obtain ⟨t22, ht22, q15⟩ := bnd_some q15
 refine T.cutC (fun S' => ∃ y23 : Value, S' = ⟨[(20, .val (.int .i64 s11.1)), (19, .val (.int .i64 (a0.length : Int))), (18, .sl 1 (List.map byteD a0)), (5, .val (.int .u8 (x20.toNat : Int))), (3, .val y23), (2, .val (.slice none 0 0))], [.row y23 (List.map byteD t22) 1 5], 39⟩) (fun _ h => h) ?_ ?_
 rotate_left
 · rintro _ ⟨y23, rfl⟩
   show T X _ _ _
   refine T.region ?_
   refine TL.op1 (OpR.pure rfl) rfl ?_
   refine TL.op1 (OpR.pure rfl) rfl ?_
   refine TL.op1 (OpR.lit rfl rfl rfl rfl rfl rfl rfl) rfl ?_
   obtain ⟨x27, hx27, q15⟩ := bnd_some q15
   refine TL.op (OpR.appendM (m := [x20]) byteD 0 hx27 rfl rfl rfl rfl rfl rfl rfl rfl rfl (fun _ => rfl)) rfl (fun v28 => ?_)
   refine TL.op1 (OpR.pure rfl) rfl ?_
   refine TL.nil ?_
   show T X _ _ _
   refine T.region ?_
   refine TL.op1 (OpR.pure rfl) rfl ?_
   refine TL.op1 (OpR.pure rfl) rfl ?_
   refine TL.nil ?_
   obtain rfl := Option.some.inj q15
   exact ⟨m13, Nat.lt_succ_self _, _, Gst.only [2, 3, 18, 19, 20] rfl, v28, (w64 (s11.1 + 1), x27), rfl, i16⟩
 rcases ite_some ht22 with ⟨c24, ht22⟩ | ⟨c24, ht22⟩
 rotate_left
 · refine T.condF rfl (beq_eq_false_iff_ne.2 c24) ?_
   refine T.skip ?_
   obtain rfl := Option.some.inj ht22
   exact ⟨_, Gst.only [2, 3, 5, 18, 19, 20] rfl, y10, rfl⟩
 refine T.condT rfl (beq_iff_eq.2 c24) ?_
 refine T.region ?_
 refine TL.op1 (OpR.pure rfl) rfl ?_
 refine TL.op1 (OpR.pure rfl) rfl ?_
 refine TL.op1 (OpR.lit rfl rfl rfl rfl rfl rfl rfl) rfl ?_
 obtain ⟨x25, hx25, ht22⟩ := bnd_some ht22
 refine TL.op (OpR.appendM (m := [x20]) byteD 0 hx25 rfl rfl rfl rfl rfl rfl rfl rfl rfl (fun _ => rfl)) rfl (fun v26 => ?_)
 refine TL.op1 (OpR.pure rfl) rfl ?_
 refine TL.nil ?_
 obtain rfl := Option.some.inj ht22
 exact ⟨_, Gst.only [2, 3, 5, 18, 19, 20] rfl, v26, rfl⟩
noncomputable def cell_Cell_Print_nil (a0 : cell_Cell) : Option (List UInt8) :=
  if a0.fKept = true then
    bnd (arena_Arena_Bytes_nil a0.fRaw) fun x2 =>
    some x2
  else
    bnd (cell_Cell_Bytes_nil a0) fun x3 =>
    bnd (quote_Put x3) fun x4 =>
    some x4
set_option maxHeartbeats 4000000 in
theorem cell_Cell_Print_nil_c {a0 : cell_Cell} {res : (List UInt8)} (h0 : cell_Cell_Print_nil a0 = some res) : CallF X 72 [.agg [.sl 2 (List.map e_arena_Span a0.fText.fL), .val (.int .i64 a0.fText.fN), .val (.int .i64 a0.fRaw.fAt), .val (.int .i64 a0.fRaw.fN), .val (.bool a0.fKept)], .val (.pointer none)] [] (fun x => .sl 1 (List.map byteD res)) (fun x => []) := by
 unfold cell_Cell_Print_nil at h0
 refine CallF.mkG (X := X) Try.func72 rfl rfl Try.ntmps72 rfl rfl ?_
 refine T.seq ?_
 refine T.region ?_
 refine TL.op1 (OpR.boxImm rfl rfl) rfl ?_
 refine TL.op1 (OpR.pure rfl) rfl ?_
 refine TL.nil ?_
 show T X _ _ _
 refine T.seq ?_
 refine T.seq ?_
 refine T.region ?_
 refine TL.op1 (OpR.pure rfl) rfl ?_
 refine TL.op1 (OpR.pure rfl) rfl ?_
 refine TL.nil ?_
 show T X _ _ _
 rcases ite_some h0 with ⟨c1, h0⟩ | ⟨c1, h0⟩
 · refine T.condT rfl (c1) ?_
   refine T.seq ?_
   refine T.region ?_
   refine TL.op1 (OpR.pure rfl) rfl ?_
   refine TL.op1 (OpR.pure rfl) rfl ?_
   refine TL.op1 (OpR.pure rfl) rfl ?_
   obtain ⟨x2, hx2, h0⟩ := bnd_some h0
   refine TL.op1 (OpR.call0 fn91 (arena_Arena_Bytes_nil_c hx2) rfl) rfl ?_
   refine TL.op1 (OpR.pure rfl) rfl ?_
   refine TL.nil ?_
   show T X _ _ _
   refine T.ret ?_
   obtain rfl := Option.some.inj h0
   exact PostG.retP (ks := []) (Gst.only [4] rfl) undef (ResL.cons (ResV.tmp rfl) ResL.nil) rfl rfl rfl rfl
 refine T.condF rfl (eq_false_of_ne_true c1) ?_
 refine T.skip ?_
 show T X _ _ _
 refine T.seq ?_
 refine T.region ?_
 refine TL.op1 (OpR.pure rfl) rfl ?_
 refine TL.op1 (OpR.pure rfl) rfl ?_
 obtain ⟨x3, hx3, h0⟩ := bnd_some h0
 refine TL.op1 (OpR.call0 fn102 (cell_Cell_Bytes_nil_c hx3) rfl) rfl ?_
 obtain ⟨x4, hx4, h0⟩ := bnd_some h0
 refine TL.op1 (OpR.call0 fn125 (quote_Put_c hx4) rfl) rfl ?_
 refine TL.op1 (OpR.pure rfl) rfl ?_
 refine TL.nil ?_
 show T X _ _ _
 refine T.ret ?_
 obtain rfl := Option.some.inj h0
 exact PostG.retP (ks := []) (Gst.only [4] rfl) undef (ResL.cons (ResV.tmp rfl) ResL.nil) rfl rfl rfl rfl
noncomputable def row_Row_Print_nil.l1 (a0 : row_Row) (s4 : Int × (List UInt8)) : Option (Lp (Int × (List UInt8)) (List UInt8)) :=
  if s4.1 < (a0.fCells.length : Int) then
    bnd (idx a0.fCells s4.1) fun x13 =>
    bnd (if s4.1 > 0 then
      bnd (app 1 s4.2 [44]) fun x18 =>
      some x18
    else
      some s4.2 : Option (List UInt8)) fun t15 =>
    bnd (cell_Cell_Print_nil x13) fun x20 =>
    bnd (app 1 t15 x20) fun x21 =>
    some (Lp.next (w64 (s4.1 + 1), x21))
  else
    some (Lp.done s4.2)
noncomputable def row_Row_Print_nil (a0 : row_Row) : Option (List UInt8) :=
  bnd (loop (row_Row_Print_nil.l1 a0) (0, []) : Option (List UInt8)) fun t1 =>
  some t1
set_option maxHeartbeats 4000000 in
theorem row_Row_Print_nil_c {a0 : row_Row} {res : (List UInt8)} (h0 : row_Row_Print_nil a0 = some res) : CallF X 33 [.agg [.sl 5 (List.map e_cell_Cell a0.fCells), .val (.int .i64 a0.fEnd), .val (.bool a0.fHidden)], .val (.pointer none)] [] (fun x => .sl 1 (List.map byteD res)) (fun x => []) := by
 unfold row_Row_Print_nil at h0
 refine CallF.mkG (X := X) Try.func33 rfl rfl Try.ntmps33 rfl rfl ?_
 refine T.seq ?_
 refine T.region ?_
 refine TL.op1 (OpR.boxImm rfl rfl) rfl ?_
 refine TL.op1 (OpR.pure rfl) rfl ?_
 refine TL.nil ?_
 show T X _ _ _
 refine T.seq ?_
 refine T.region ?_
 refine TL.op1 (OpR.pure rfl) rfl ?_
 refine TL.nil ?_
 show T X _ _ _
 refine T.seq ?_
 refine T.seq ?_
 refine T.region ?_
 refine TL.op1 (OpR.pure rfl) rfl ?_
 refine TL.op1 (OpR.pure rfl) rfl ?_
 refine TL.op1 (OpR.cast (OpR.pure rfl) (intE (lenM _ _))) rfl ?_
 refine TL.op1 (OpR.pure rfl) rfl ?_
 refine TL.nil ?_
 show T X _ _ _
 obtain ⟨t1, ht1, h0⟩ := bnd_some h0
 refine T.cutC (fun S' => ∃ y2 : Value, S' = ⟨[(5, .val y2), (4, .val (.slice none 0 0))], [.row y2 (List.map byteD t1) 1 5], 28⟩) (fun _ h => h) ?_ ?_
 rotate_left
 · rintro _ ⟨y2, rfl⟩
   show T X _ _ _
   refine T.seq ?_
   refine T.region ?_
   refine TL.op1 (OpR.pure rfl) rfl ?_
   refine TL.op1 (OpR.pure rfl) rfl ?_
   refine TL.nil ?_
   show T X _ _ _
   refine T.ret ?_
   obtain rfl := Option.some.inj h0
   exact PostG.retP (ks := []) (Gst.trans (Gst.only [4] rfl) (Gst.trans (Gst.freezeRow 0 rfl rfl (ReS.cons (Re.base .all) ReS.nil) (ReO.same ReO.nil)) (Gst.pick [] rfl rfl))) undef (ResL.cons (ResV.tmp rfl) ResL.nil) rfl rfl rfl rfl
 refine T.block ?_
 obtain ⟨n5, n10⟩ := loop_some ht1
 refine T.loop (fun n S' => ∃ S'', Gst S' S'' ∧ ∃ y3 : Value, ∃ s4 : Int × (List UInt8), S'' = ⟨[(11, .val (.int .i64 s4.1)), (10, .val (.int .i64 (a0.fCells.length : Int))), (9, .sl 5 (List.map e_cell_Cell a0.fCells)), (5, .val y3), (4, .val (.slice none 0 0)), (1, .val (.pointer none))], [.row y3 (List.map byteD s4.2) 1 5], 28⟩ ∧ iter (row_Row_Print_nil.l1 a0) n s4 = some t1) n5 ?_ ?_
 · exact ⟨_, Gst.trans (Gst.only [1, 4, 5, 9, 10, 11] rfl) (Gst.nilRow (ow := []) 1 5 rfl), (.slice none 0 0), (0, []), rfl, n10⟩
 rintro n5 _ ⟨_, g, y3, s4, rfl, i9⟩
 refine T.ghost g ?_
 obtain ⟨m6, q7, rfl, q8, i9⟩ := iter_succ i9
 unfold row_Row_Print_nil.l1 at q8
 refine T.seq ?_
 refine T.region ?_
 refine TL.op1 (OpR.pure rfl) rfl ?_
 refine TL.nil ?_
 show T X _ _ _
 refine T.seq ?_
 rcases ite_some q8 with ⟨c12, q8⟩ | ⟨c12, q8⟩
 rotate_left
 · refine T.condF rfl (decide_eq_false c12) ?_
   refine T.exit ?_
   obtain rfl := Option.some.inj q8
   obtain rfl : _ = _ := i9
   exact ⟨_, Gst.only [4, 5] rfl, y3, rfl⟩
 refine T.condT rfl (decide_eq_true c12) ?_
 refine T.skip ?_
 show T X _ _ _
 refine T.seq ?_
 refine T.block ?_
 refine T.seq ?_
 refine T.region ?_
 refine TL.op1 (OpR.pure rfl) rfl ?_
 obtain ⟨x13, hx13, q8⟩ := bnd_some q8
 refine TL.op1 (OpR.indexM e_cell_Cell hx13 rfl rfl rfl rfl rfl) rfl ?_
 refine TL.op1 (OpR.pure rfl) rfl ?_
 refine TL.op (OpR.alloc rfl rfl (fun _ => rfl)) rfl (fun p14 => ?_)
 refine TL.op1 (OpR.pure rfl) rfl ?_
 refine TL.op0 (OpR.store 1 rfl rfl rfl rfl rfl rfl rfl rfl) ?_
 refine TL.nil ?_
 show T X _ _ _
 refine T.seq ?_
 refine T.seq ?_
 refine T.region ?_
 refine TL.op1 (OpR.pure rfl) rfl ?_
 refine TL.op1 (OpR.pure rfl) rfl ?_
 refine TL.nil ?_
 show T X _ _ _
 obtain ⟨t15, ht15, q8⟩ := bnd_some q8
 refine T.cutC (fun S' => ∃ y16 : Value, S' = ⟨[(11, .val (.int .i64 s4.1)), (10, .val (.int .i64 (a0.fCells.length : Int))), (9, .sl 5 (List.map e_cell_Cell a0.fCells)), (7, .val (.pointer (some ⟨(blk p14), 0, none⟩))), (5, .val y16), (4, .val (.slice none 0 0)), (1, .val (.pointer none))], [.row y16 (List.map byteD t15) 1 5, .var (blk p14) [.sl 2 (List.map e_arena_Span x13.fText.fL), .val (.int .i64 x13.fText.fN), .val (.int .i64 x13.fRaw.fAt), .val (.int .i64 x13.fRaw.fN), .val (.bool x13.fKept)] 108], 28⟩) (fun _ h => h) ?_ ?_
 · rcases ite_some ht15 with ⟨c17, ht15⟩ | ⟨c17, ht15⟩
   rotate_left
   · refine T.condF rfl (decide_eq_false c17) ?_
     refine T.skip ?_
     obtain rfl := Option.some.inj ht15
     exact ⟨_, Gst.only [1, 4, 5, 7, 9, 10, 11] rfl, y3, rfl⟩
   refine T.condT rfl (decide_eq_true c17) ?_
   refine T.region ?_
   refine TL.op1 (OpR.pure rfl) rfl ?_
   refine TL.op1 (OpR.lit rfl rfl rfl rfl rfl rfl rfl) rfl ?_
   obtain ⟨x18, hx18, ht15⟩ := bnd_some ht15
   refine TL.op (OpR.appendM (m := [44]) byteD 0 hx18 rfl rfl rfl rfl rfl rfl rfl rfl rfl (fun _ => rfl)) rfl (fun v19 => ?_)
   refine TL.op1 (OpR.pure rfl) rfl ?_
   refine TL.nil ?_
   obtain rfl := Option.some.inj ht15
   exact ⟨_, Gst.only [1, 4, 5, 7, 9, 10, 11] rfl, v19, rfl⟩
 rintro _ ⟨y16, rfl⟩
 show T X _ _ _
 refine T.region ?_
 refine TL.op1 (OpR.pure rfl) rfl ?_
 refine TL.op1 (OpR.loadPtr 1 rfl rfl rfl rfl) rfl ?_
 refine TL.op1 (OpR.pure rfl) rfl ?_
 obtain ⟨x20, hx20, q8⟩ := bnd_some q8
 refine TL.op1 (OpR.call0 fn72 (cell_Cell_Print_nil_c hx20) rfl) rfl ?_
 obtain ⟨x21, hx21, q8⟩ := bnd_some q8
 refine TL.op (OpR.appendM (m := x20) byteD 0 hx21 rfl rfl rfl rfl rfl rfl rfl rfl rfl (fun _ => rfl)) rfl (fun v22 => ?_)
 refine TL.op1 (OpR.pure rfl) rfl ?_
 refine TL.nil ?_
 show T X _ _ _
 refine T.region ?_
 refine TL.op1 (OpR.pure rfl) rfl ?_
 refine TL.op1 (OpR.pure rfl) rfl ?_
 refine TL.nil ?_
 obtain rfl := Option.some.inj q8
 exact ⟨m6, Nat.lt_succ_self _, _, Gst.trans (Gst.only [1, 4, 5, 9, 10, 11] rfl) (Gst.pick [0] rfl rfl), v22, (w64 (s4.1 + 1), x21), rfl, i9⟩
noncomputable def ref05_Mark (a0 : Int) : Option (List UInt8) :=
  if a0 = 1 then
    some [10]
  else
    if a0 = 2 then
      some [13, 10]
    else
      if a0 = 3 then
        some [13]
      else
        some []
set_option maxHeartbeats 4000000 in
theorem ref05_Mark_c {a0 : Int} {res : (List UInt8)} (h0 : ref05_Mark a0 = some res) : CallF X 34 [.val (.int .i64 a0)] [] (fun x => .val (.string (bs res))) (fun x => []) := by
 unfold ref05_Mark at h0
 refine CallF.mkG (X := X) Try.func34 rfl rfl Try.ntmps34 rfl rfl ?_
 refine T.seq ?_
 refine T.region ?_
 refine TL.op1 (OpR.pure rfl) rfl ?_
 refine TL.nil ?_
 show T X _ _ _
 refine T.seq ?_
 refine T.seq ?_
 refine T.region ?_
 refine TL.op1 (OpR.pure rfl) rfl ?_
 refine TL.op1 (OpR.pure rfl) rfl ?_
 refine TL.nil ?_
 show T X _ _ _
 rcases ite_some h0 with ⟨c1, h0⟩ | ⟨c1, h0⟩
 · refine T.condT rfl (beq_iff_eq.2 c1) ?_
   refine T.seq ?_
   refine T.region ?_
   refine TL.op1 (OpR.pure rfl) rfl ?_
   refine TL.nil ?_
   show T X _ _ _
   refine T.ret ?_
   obtain rfl := Option.some.inj h0
   exact PostG.retP (ks := []) (Gst.only [2] rfl) undef (ResL.cons (ResV.tmp rfl) ResL.nil) rfl rfl rfl rfl
 refine T.condF rfl (beq_eq_false_iff_ne.2 c1) ?_
 refine T.skip ?_
 show T X _ _ _
 refine T.seq ?_
 refine T.seq ?_
 refine T.region ?_
 refine TL.op1 (OpR.pure rfl) rfl ?_
 refine TL.op1 (OpR.pure rfl) rfl ?_
 refine TL.nil ?_
 show T X _ _ _
 rcases ite_some h0 with ⟨c2, h0⟩ | ⟨c2, h0⟩
 · refine T.condT rfl (beq_iff_eq.2 c2) ?_
   refine T.seq ?_
   refine T.region ?_
   refine TL.op1 (OpR.pure rfl) rfl ?_
   refine TL.nil ?_
   show T X _ _ _
   refine T.ret ?_
   obtain rfl := Option.some.inj h0
   exact PostG.retP (ks := []) (Gst.only [2] rfl) undef (ResL.cons (ResV.tmp rfl) ResL.nil) rfl rfl rfl rfl
 refine T.condF rfl (beq_eq_false_iff_ne.2 c2) ?_
 refine T.skip ?_
 show T X _ _ _
 refine T.seq ?_
 refine T.seq ?_
 refine T.region ?_
 refine TL.op1 (OpR.pure rfl) rfl ?_
 refine TL.op1 (OpR.pure rfl) rfl ?_
 refine TL.nil ?_
 show T X _ _ _
 rcases ite_some h0 with ⟨c3, h0⟩ | ⟨c3, h0⟩
 · refine T.condT rfl (beq_iff_eq.2 c3) ?_
   refine T.seq ?_
   refine T.region ?_
   refine TL.op1 (OpR.pure rfl) rfl ?_
   refine TL.nil ?_
   show T X _ _ _
   refine T.ret ?_
   obtain rfl := Option.some.inj h0
   exact PostG.retP (ks := []) (Gst.only [2] rfl) undef (ResL.cons (ResV.tmp rfl) ResL.nil) rfl rfl rfl rfl
 refine T.condF rfl (beq_eq_false_iff_ne.2 c3) ?_
 refine T.skip ?_
 show T X _ _ _
 refine T.seq ?_
 refine T.region ?_
 refine TL.op1 (OpR.pure rfl) rfl ?_
 refine TL.nil ?_
 show T X _ _ _
 refine T.ret ?_
 obtain rfl := Option.some.inj h0
 exact PostG.retP (ks := []) (Gst.only [2] rfl) undef (ResL.cons (ResV.tmp rfl) ResL.nil) rfl rfl rfl rfl
noncomputable def arena_New_2 : Option (Int × (List UInt8)) :=
  bnd ((mkc 1 0 : Option (List UInt8))) fun x1 =>
  some (0, x1)
set_option maxHeartbeats 4000000 in
theorem arena_New_2_c {res : Int × (List UInt8)} (h0 : arena_New_2 = some res) : CallF X 25 [.val (.slice none 0 0)] [] (fun x => .tup [.val (.pointer (some ⟨(blk (vn x 0)), 0, none⟩)), .val (.int .i64 res.1)]) (fun x => [.var (blk (vn x 0)) [.val (vn x 1)] 142, .row (vn x 1) (List.map byteD res.2) 1 5]) := by
 unfold arena_New_2 at h0
 refine CallF.mkG (X := X) Try.func25 rfl rfl Try.ntmps25 rfl rfl ?_
 refine T.seq ?_
 refine T.region ?_
 refine TL.op1 (OpR.pure rfl) rfl ?_
 refine TL.op1 (OpR.pure rfl) rfl ?_
 refine TL.nil ?_
 show T X _ _ _
 refine T.seq ?_
 refine T.seq ?_
 refine T.region ?_
 refine TL.op1 (OpR.pure rfl) rfl ?_
 refine TL.op1 (OpR.pure rfl) rfl ?_
 refine TL.op1 (OpR.cast (OpR.pure rfl) (boolE (show (decide ((0 : Int) > 4096)) = false by decide))) rfl ?_
 refine TL.nil ?_
 show T X _ _ _
 refine T.condF rfl rfl ?_
 refine T.skip ?_
 show T X _ _ _
 refine T.seq ?_
 refine T.region ?_
 refine TL.op1 (OpR.pure rfl) rfl ?_
 refine TL.op1 (OpR.pure rfl) rfl ?_
 obtain ⟨x1, hx1, h0⟩ := bnd_some h0
 refine TL.op (OpR.makeC byteD hx1 rfl rfl rfl rfl rfl rfl rfl (fun _ => rfl)) rfl (fun v2 => ?_)
 refine TL.op1 (OpR.build rfl rfl rfl rfl rfl) rfl ?_
 refine TL.op (OpR.boxVar rfl rfl (fun _ => rfl)) rfl (fun p3 => ?_)
 refine TL.op1 (OpR.pure rfl) rfl ?_
 refine TL.nil ?_
 show T X _ _ _
 refine T.seq ?_
 refine T.region ?_
 refine TL.op1 (OpR.pure rfl) rfl ?_
 refine TL.op1 (OpR.pure rfl) rfl ?_
 refine TL.op1 (OpR.pure rfl) rfl ?_
 refine TL.op1 (OpR.loadPtr 1 rfl rfl rfl rfl) rfl ?_
 refine TL.op1 (OpR.pure rfl) rfl ?_
 refine TL.op1 (OpR.copyNil 0 rfl rfl rfl rfl rfl rfl) rfl ?_
 refine TL.nil ?_
 show T X _ _ _
 refine T.seq ?_
 refine T.region ?_
 refine TL.op1 (OpR.pure rfl) rfl ?_
 refine TL.op1 (OpR.pure rfl) rfl ?_
 refine TL.op1 (OpR.pure rfl) rfl ?_
 refine TL.nil ?_
 show T X _ _ _
 refine T.ret ?_
 obtain rfl := Option.some.inj h0
 exact PostG.retP (ks := [0, 1]) (Gst.trans (Gst.only [2, 3] rfl) (Gst.pick [1, 0] rfl rfl)) (.tuple #[p3, v2]) (ResL.cons (ResV.tmp rfl) (ResL.cons (ResV.tmp rfl) ResL.nil)) rfl rfl rfl rfl
noncomputable def cell_Of (a0 : piece_Text) : Option cell_Cell :=
  some (⟨a0, (⟨0, 0⟩ : arena_Span), false⟩ : cell_Cell)
set_option maxHeartbeats 4000000 in
theorem cell_Of_c {a0 : piece_Text} {res : cell_Cell} (h0 : cell_Of a0 = some res) : CallF X 126 [.agg [.sl 2 (List.map e_arena_Span a0.fL), .val (.int .i64 a0.fN)]] [] (fun x => .agg [.sl 2 (List.map e_arena_Span res.fText.fL), .val (.int .i64 res.fText.fN), .val (.int .i64 res.fRaw.fAt), .val (.int .i64 res.fRaw.fN), .val (.bool res.fKept)]) (fun x => []) := by
 unfold cell_Of at h0
 refine CallF.mkG (X := X) Try.func126 rfl rfl Try.ntmps126 rfl rfl ?_
 refine T.seq ?_
 refine T.region ?_
 refine TL.op1 (OpR.boxImm rfl rfl) rfl ?_
 refine TL.op (OpR.alloc rfl rfl (fun _ => rfl)) rfl (fun p1 => ?_)
 refine TL.nil ?_
 show T X _ _ _
 refine T.seq ?_
 refine T.region ?_
 refine TL.op1 (OpR.pure rfl) rfl ?_
 refine TL.op1 (OpR.build rfl rfl rfl rfl rfl) rfl ?_
 refine TL.op0 (OpR.store 0 rfl rfl rfl rfl rfl rfl rfl rfl) ?_
 refine TL.nil ?_
 show T X _ _ _
 refine T.ret ?_
 obtain rfl := Option.some.inj h0
 exact PostG.retP (ks := []) (Gst.only [2] rfl) undef (ResL.cons (ResV.var 0 rfl rfl rfl rfl) ResL.nil) rfl rfl rfl rfl
noncomputable def cell_Put (a0 : List UInt8) (a1 : List UInt8) : Option (cell_Cell × Int × (List UInt8)) :=
  if (a0.length : Int) > 400 then
    some ((⟨(⟨[], 0⟩ : piece_Text), (⟨0, 0⟩ : arena_Span), false⟩ : cell_Cell), 7, a1)
  else
    bnd (arena_Arena_Keep a0 a1) fun x3 =>
    if x3.2.1 = 0 then
      bnd (piece_Of [x3.1]) fun x7 =>
      bnd (cell_Of x7) fun x8 =>
      some (x8, 0, x3.2.2)
    else
      some ((⟨(⟨[], 0⟩ : piece_Text), (⟨0, 0⟩ : arena_Span), false⟩ : cell_Cell), x3.2.1, x3.2.2)
set_option maxHeartbeats 4000000 in
theorem cell_Put_c {a0 : List UInt8} {a1 : List UInt8} {b0 : Nat} {v1 : Value} {res : cell_Cell × Int × (List UInt8)} (h0 : cell_Put a0 a1 = some res) : CallF X 73 [.val (.pointer (some ⟨b0, 0, none⟩)), .sl 1 (List.map byteD a0)] [.var b0 [.val v1] 142, .row v1 (List.map byteD a1) 1 5] (fun x => .tup [.agg [.sl 2 (List.map e_arena_Span res.1.fText.fL), .val (.int .i64 res.1.fText.fN), .val (.int .i64 res.1.fRaw.fAt), .val (.int .i64 res.1.fRaw.fN), .val (.bool res.1.fKept)], .val (.int .i64 res.2.1)]) (fun x => [.var b0 [.val (vn x 0)] 142, .row (vn x 0) (List.map byteD res.2.2) 1 5]) := by
 unfold cell_Put at h0
 refine CallF.mkG (X := X) Try.func73 rfl rfl Try.ntmps73 rfl rfl ?_
 refine T.seq ?_
 refine T.region ?_
 refine TL.op (OpR.alloc rfl rfl (fun _ => rfl)) rfl (fun p1 => ?_)
 refine TL.op1 (OpR.pure rfl) rfl ?_
 refine TL.nil ?_
 show T X _ _ _
 refine T.seq ?_
 refine T.seq ?_
 refine T.region ?_
 refine TL.op1 (OpR.pure rfl) rfl ?_
 refine TL.op1 (OpR.cast (OpR.pure rfl) (intE (lenM _ _))) rfl ?_
 refine TL.op1 (OpR.pure rfl) rfl ?_
 refine TL.nil ?_
 show T X _ _ _
 rcases ite_some h0 with ⟨c2, h0⟩ | ⟨c2, h0⟩
 · refine T.condT rfl (decide_eq_true c2) ?_
   refine T.seq ?_
   refine T.region ?_
   refine TL.op1 (OpR.build rfl rfl rfl rfl rfl) rfl ?_
   refine TL.op0 (OpR.store 2 rfl rfl rfl rfl rfl rfl rfl rfl) ?_
   refine TL.op1 (OpR.pure rfl) rfl ?_
   refine TL.nil ?_
   show T X _ _ _
   refine T.ret ?_
   obtain rfl := Option.some.inj h0
   exact PostG.retP (ks := [0, 1]) (Gst.trans (Gst.only [4, 5] rfl) (Gst.denil (ReS.cons Re.refl (ReS.cons Re.refl ReS.nil)) (ReO.var (ReL.cons Re.refl ReL.nil) (ReO.same (ReO.var (ReL.cons (Re.base .nil) (ReL.cons Re.refl (ReL.cons Re.refl (ReL.cons Re.refl (ReL.cons Re.refl ReL.nil))))) ReO.nil))))) (.tuple #[v1]) (ResL.cons (ResV.var 2 rfl rfl rfl rfl) (ResL.cons (ResV.tmp rfl) ResL.nil)) rfl rfl rfl rfl
 refine T.condF rfl (decide_eq_false c2) ?_
 refine T.skip ?_
 show T X _ _ _
 refine T.seq ?_
 refine T.region ?_
 refine TL.op1 (OpR.pure rfl) rfl ?_
 refine TL.op1 (OpR.pure rfl) rfl ?_
 obtain ⟨x3, hx3, h0⟩ := bnd_some h0
 refine TL.op (OpR.call [0, 1] fn83 (arena_Arena_Keep_c hx3) rfl rfl rfl (fun _ => rfl)) rfl (fun w4 => ?_)
 refine TL.op1 (OpR.pure rfl) rfl ?_
 refine TL.op1 (OpR.pure rfl) rfl ?_
 refine TL.op1 (OpR.pure rfl) rfl ?_
 refine TL.op (OpR.alloc rfl rfl (fun _ => rfl)) rfl (fun p5 => ?_)
 refine TL.op0 (OpR.store 3 rfl rfl rfl rfl rfl rfl rfl rfl) ?_
 refine TL.op1 (OpR.pure rfl) rfl ?_
 refine TL.nil ?_
 show T X _ _ _
 refine T.seq ?_
 refine T.seq ?_
 refine T.region ?_
 refine TL.op1 (OpR.pure rfl) rfl ?_
 refine TL.op1 (OpR.pure rfl) rfl ?_
 refine TL.nil ?_
 show T X _ _ _
 rcases ite_some h0 with ⟨c6, h0⟩ | ⟨c6, h0⟩
 · refine T.condF rfl (not_t (beq_iff_eq.2 c6)) ?_
   refine T.skip ?_
   show T X _ _ _
   refine T.seq ?_
   refine T.region ?_
   refine TL.op1 (OpR.loadPtr 3 rfl rfl rfl rfl) rfl ?_
   refine TL.op1 (OpR.lit rfl rfl rfl rfl rfl rfl rfl) rfl ?_
   obtain ⟨x7, hx7, h0⟩ := bnd_some h0
   refine TL.op1 (OpR.call0 fn42 (piece_Of_c hx7) rfl) rfl ?_
   obtain ⟨x8, hx8, h0⟩ := bnd_some h0
   refine TL.op1 (OpR.call0 fn126 (cell_Of_c hx8) rfl) rfl ?_
   refine TL.op0 (OpR.store 2 rfl rfl rfl rfl rfl rfl rfl rfl) ?_
   refine TL.op1 (OpR.pure rfl) rfl ?_
   refine TL.nil ?_
   show T X _ _ _
   refine T.ret ?_
   obtain rfl := Option.some.inj h0
   exact PostG.retP (ks := [0, 1]) (Gst.trans (Gst.only [4, 5] rfl) (Gst.pick [0, 1, 2] rfl rfl)) (.tuple #[(vn w4 0)]) (ResL.cons (ResV.var 2 rfl rfl rfl rfl) (ResL.cons (ResV.tmp rfl) ResL.nil)) rfl rfl rfl rfl
 refine T.condT rfl (not_f (beq_eq_false_iff_ne.2 c6)) ?_
 refine T.seq ?_
 refine T.region ?_
 refine TL.op1 (OpR.build rfl rfl rfl rfl rfl) rfl ?_
 refine TL.op1 (OpR.pure rfl) rfl ?_
 refine TL.op0 (OpR.store 2 rfl rfl rfl rfl rfl rfl rfl rfl) ?_
 refine TL.op1 (OpR.pure rfl) rfl ?_
 refine TL.nil ?_
 show T X _ _ _
 refine T.ret ?_
 obtain rfl := Option.some.inj h0
 exact PostG.retP (ks := [0, 1]) (Gst.trans (Gst.only [4, 5] rfl) (Gst.trans (Gst.denil (ReS.cons Re.refl (ReS.cons Re.refl ReS.nil)) (ReO.var (ReL.cons Re.refl ReL.nil) (ReO.same (ReO.var (ReL.cons (Re.base .nil) (ReL.cons Re.refl (ReL.cons Re.refl (ReL.cons Re.refl (ReL.cons Re.refl ReL.nil))))) (ReO.same ReO.nil))))) (Gst.pick [0, 1, 2] rfl rfl))) (.tuple #[(vn w4 0)]) (ResL.cons (ResV.var 2 rfl rfl rfl rfl) (ResL.cons (ResV.tmp rfl) ResL.nil)) rfl rfl rfl rfl
noncomputable def row_Fresh (a0 : Int) (a1 : Int) : Option row_Row :=
  bnd (some (if 40 < (if 1 > a0 then 1 else a0) then 40 else (if 1 > a0 then 1 else a0))) fun x2 =>
  bnd (mkz 56 x2 ((⟨(⟨[], 0⟩ : piece_Text), (⟨0, 0⟩ : arena_Span), false⟩ : cell_Cell) : cell_Cell)) fun x3 =>
  some (⟨x3, a1, false⟩ : row_Row)
set_option maxHeartbeats 4000000 in
theorem row_Fresh_c {a0 : Int} {a1 : Int} {res : row_Row} (h0 : row_Fresh a0 a1 = some res) : CallF X 36 [.val (.int .i64 a0), .val (.int .i64 a1)] [] (fun x => .agg [.sl 5 (List.map e_cell_Cell res.fCells), .val (.int .i64 res.fEnd), .val (.bool res.fHidden)]) (fun x => []) := by
 unfold row_Fresh at h0
 refine CallF.mkG (X := X) Try.func36 rfl rfl Try.ntmps36 rfl rfl ?_
 refine T.seq ?_
 refine T.region ?_
 refine TL.op (OpR.alloc rfl rfl (fun _ => rfl)) rfl (fun p1 => ?_)
 refine TL.nil ?_
 show T X _ _ _
 refine T.seq ?_
 refine T.region ?_
 refine TL.op1 (OpR.pure rfl) rfl ?_
 refine TL.op1 (OpR.pure rfl) rfl ?_
 obtain ⟨x2, hx2, h0⟩ := bnd_some h0
 refine TL.op1 (OpR.cast (OpR.pure rfl) (intE (Option.some.inj hx2))) rfl ?_
 refine TL.op1 (OpR.pure rfl) rfl ?_
 refine TL.nil ?_
 show T X _ _ _
 refine T.seq ?_
 refine T.region ?_
 refine TL.op1 (OpR.pure rfl) rfl ?_
 obtain ⟨x3, hx3, h0⟩ := bnd_some h0
 refine TL.op (OpR.makeN e_cell_Cell hx3 rfl rfl rfl rfl rfl rfl rfl rfl rfl rfl (ReL.cons (Re.base .nil) (ReL.cons Re.refl (ReL.cons Re.refl (ReL.cons Re.refl (ReL.cons Re.refl ReL.nil))))) rfl (fun _ => rfl)) rfl (fun v4 => ?_)
 refine TL.op1 (OpR.pure rfl) rfl ?_
 refine TL.op1 (OpR.build rfl rfl rfl rfl rfl) rfl ?_
 refine TL.op0 (OpR.store 0 rfl rfl rfl rfl rfl rfl rfl rfl) ?_
 refine TL.nil ?_
 show T X _ _ _
 refine T.ret ?_
 obtain rfl := Option.some.inj h0
 exact PostG.retP (ks := []) (Gst.trans (Gst.only [4] rfl) (Gst.trans (Gst.freezeRow 1 rfl rfl (ReS.cons Re.refl ReS.nil) (ReO.var (ReL.cons (Re.base .all) (ReL.cons Re.refl (ReL.cons Re.refl ReL.nil))) (ReO.same ReO.nil))) (Gst.pick [0] rfl rfl))) undef (ResL.cons (ResV.var 0 rfl rfl rfl rfl) ResL.nil) rfl rfl rfl rfl
noncomputable def slices_Clone_cell_Cell_cell_Cell (a0 : List cell_Cell) : Option (List cell_Cell) :=
  bnd (app 56 [] a0) fun x5 =>
  some x5
set_option maxHeartbeats 4000000 in
theorem slices_Clone_cell_Cell_cell_Cell_c {a0 : List cell_Cell} {res : (List cell_Cell)} (h0 : slices_Clone_cell_Cell_cell_Cell a0 = some res) : CallF X 76 [.sl 5 (List.map e_cell_Cell a0)] [] (fun x => .val (vn x 0)) (fun x => [.row (vn x 0) (List.map e_cell_Cell res) 5 108]) := by
 unfold slices_Clone_cell_Cell_cell_Cell at h0
 refine CallF.mkG (X := X) Try.func76 rfl rfl Try.ntmps76 rfl rfl ?_
 refine T.seq ?_
 refine T.region ?_
 refine TL.op1 (OpR.pure rfl) rfl ?_
 refine TL.nil ?_
 show T X _ _ _
 refine T.seq ?_
 refine T.seq ?_
 refine T.region ?_
 refine TL.op1 (OpR.pure rfl) rfl ?_
 refine TL.isNil rfl rfl rfl rfl (fun b1 e2 => ?_)
 refine TL.nil ?_
 show T X _ _ _
 rcases Bool.eq_false_or_eq_true b1 with c3 | c3
 · obtain rfl := map_nil_of (e2 c3)
   rw [app_nil] at h0
   refine T.condT rfl (c3) ?_
   refine T.seq ?_
   refine T.region ?_
   refine TL.op1 (OpR.pure rfl) rfl ?_
   refine TL.nil ?_
   show T X _ _ _
   refine T.ret ?_
   obtain rfl := Option.some.inj h0
   exact PostG.retP (ks := [0]) (Gst.trans (Gst.only [2] rfl) (Gst.nilRow (ow := []) 5 108 rfl)) (.tuple #[(.slice none 0 0)]) (ResL.cons (ResV.tmp rfl) ResL.nil) rfl rfl rfl rfl
 refine T.condF rfl (c3) ?_
 refine T.skip ?_
 show T X _ _ _
 refine T.seq ?_
 refine T.region ?_
 refine TL.op (OpR.litRow rfl rfl rfl rfl rfl rfl rfl rfl (fun _ => rfl)) rfl (fun v4 => ?_)
 refine TL.op1 (OpR.pure rfl) rfl ?_
 obtain ⟨x5, hx5, h0⟩ := bnd_some h0
 refine TL.op (OpR.appendM (m := a0) e_cell_Cell 0 hx5 rfl rfl rfl rfl rfl rfl rfl rfl rfl (fun _ => rfl)) rfl (fun v6 => ?_)
 refine TL.op1 (OpR.pure rfl) rfl ?_
 refine TL.nil ?_
 show T X _ _ _
 refine T.ret ?_
 obtain rfl := Option.some.inj h0
 exact PostG.retP (ks := [0]) (Gst.only [2] rfl) (.tuple #[v6]) (ResL.cons (ResV.tmp rfl) ResL.nil) rfl rfl rfl rfl
noncomputable def row_Row_with (a0 : row_Row) (a1 : List cell_Cell) : Option (Int × Bool) :=
  some (a0.fEnd, a0.fHidden)
set_option maxHeartbeats 4000000 in
theorem row_Row_with_c {a0 : row_Row} {a1 : List cell_Cell} {v0 : Value} {res : Int × Bool} (h0 : row_Row_with a0 a1 = some res) : CallF X 110 [.agg [.sl 5 (List.map e_cell_Cell a0.fCells), .val (.int .i64 a0.fEnd), .val (.bool a0.fHidden)], .val v0] [.row v0 (List.map e_cell_Cell a1) 5 108] (fun x => .agg [.val v0, .val (.int .i64 res.1), .val (.bool res.2)]) (fun x => [.row v0 (List.map e_cell_Cell a1) 5 108]) := by
 unfold row_Row_with at h0
 refine CallF.mkG (X := X) Try.func110 rfl rfl Try.ntmps110 rfl rfl ?_
 refine T.seq ?_
 refine T.region ?_
 refine TL.op (OpR.boxVar rfl rfl (fun _ => rfl)) rfl (fun p1 => ?_)
 refine TL.op (OpR.alloc rfl rfl (fun _ => rfl)) rfl (fun p2 => ?_)
 refine TL.nil ?_
 show T X _ _ _
 refine T.seq ?_
 refine T.region ?_
 refine TL.op1 (OpR.pure rfl) rfl ?_
 refine TL.op1 (OpR.pure rfl) rfl ?_
 refine TL.op0 (OpR.store 1 rfl rfl rfl rfl rfl rfl rfl rfl) ?_
 refine TL.nil ?_
 show T X _ _ _
 refine T.seq ?_
 refine T.region ?_
 refine TL.op1 (OpR.loadPtr 1 rfl rfl rfl rfl) rfl ?_
 refine TL.op0 (OpR.store 2 rfl rfl rfl rfl rfl rfl rfl rfl) ?_
 refine TL.nil ?_
 show T X _ _ _
 refine T.ret ?_
 obtain rfl := Option.some.inj h0
 exact PostG.retP (ks := [0]) (Gst.trans (Gst.only [4] rfl) (Gst.pick [0, 2] rfl rfl)) undef (ResL.cons (ResV.var 1 rfl rfl rfl rfl) ResL.nil) rfl rfl rfl rfl
noncomputable def row_Row_Pad.l1 (a1 : Int) (s7 : (List cell_Cell)) : Option (Lp (List cell_Cell) (List cell_Cell)) :=
  if (s7.length : Int) < (if 40 < a1 then 40 else a1) then
    bnd (app 56 s7 [(⟨(⟨[], 0⟩ : piece_Text), (⟨0, 0⟩ : arena_Span), false⟩ : cell_Cell)]) fun x16 =>
    some (Lp.next x16)
  else
    some (Lp.done s7)
noncomputable def row_Row_Pad (a0 : row_Row) (a1 : Int) : Option (Int × Bool × (List cell_Cell)) :=
  bnd (slices_Clone_cell_Cell_cell_Cell a0.fCells) fun x2 =>
  bnd (loop (row_Row_Pad.l1 a1) x2 : Option (List cell_Cell)) fun t4 =>
  bnd (row_Row_with a0 t4) fun x18 =>
  some (x18.1, x18.2, t4)
set_option maxHeartbeats 4000000 in
theorem row_Row_Pad_c {a0 : row_Row} {a1 : Int} {res : Int × Bool × (List cell_Cell)} (h0 : row_Row_Pad a0 a1 = some res) : CallF X 99 [.agg [.sl 5 (List.map e_cell_Cell a0.fCells), .val (.int .i64 a0.fEnd), .val (.bool a0.fHidden)], .val (.int .i64 a1)] [] (fun x => .agg [.val (vn x 0), .val (.int .i64 res.1), .val (.bool res.2.1)]) (fun x => [.row (vn x 0) (List.map e_cell_Cell res.2.2) 5 108]) := by
 unfold row_Row_Pad at h0
 refine CallF.mkG (X := X) Try.func99 rfl rfl Try.ntmps99 rfl rfl ?_
 refine T.seq ?_
 refine T.region ?_
 refine TL.op1 (OpR.boxImm rfl rfl) rfl ?_
 refine TL.op (OpR.alloc rfl rfl (fun _ => rfl)) rfl (fun p1 => ?_)
 refine TL.nil ?_
 show T X _ _ _
 refine T.seq ?_
 refine T.region ?_
 refine TL.op1 (OpR.pure rfl) rfl ?_
 refine TL.op1 (OpR.pure rfl) rfl ?_
 refine TL.op1 (OpR.pure rfl) rfl ?_
 refine TL.nil ?_
 show T X _ _ _
 refine T.seq ?_
 refine T.region ?_
 refine TL.op1 (OpR.pure rfl) rfl ?_
 refine TL.op1 (OpR.pure rfl) rfl ?_
 obtain ⟨x2, hx2, h0⟩ := bnd_some h0
 refine TL.op (OpR.call [] fn76 (slices_Clone_cell_Cell_cell_Cell_c hx2) rfl rfl rfl (fun _ => rfl)) rfl (fun w3 => ?_)
 refine TL.op1 (OpR.pure rfl) rfl ?_
 refine TL.nil ?_
 show T X _ _ _
 refine T.seq ?_
 obtain ⟨t4, ht4, h0⟩ := bnd_some h0
 refine T.cutC (fun S' => ∃ y5 : Value, S' = ⟨[(5, .val y5), (4, .val (.pointer (some ⟨(blk p1), 0, none⟩))), (2, .nod [.sl 5 (List.map e_cell_Cell a0.fCells), .val (.int .i64 a0.fEnd), .val (.bool a0.fHidden)])], [.var (blk p1) [.val (.slice none 0 0), .val (.int .i64 0), .val (.bool false)] 49, .row y5 (List.map e_cell_Cell t4) 5 108], 22⟩) (fun _ h => h) ?_ ?_
 rotate_left
 · rintro _ ⟨y5, rfl⟩
   show T X _ _ _
   refine T.seq ?_
   refine T.region ?_
   refine TL.op1 (OpR.pure rfl) rfl ?_
   refine TL.op1 (OpR.pure rfl) rfl ?_
   obtain ⟨x18, hx18, h0⟩ := bnd_some h0
   refine TL.op1 (OpR.call [1] fn110 (row_Row_with_c hx18) rfl rfl rfl (fun _ => rfl)) rfl ?_
   refine TL.op0 (OpR.store 0 rfl rfl rfl rfl rfl rfl rfl rfl) ?_
   refine TL.nil ?_
   show T X _ _ _
   refine T.ret ?_
   obtain rfl := Option.some.inj h0
   exact PostG.retP (ks := [1]) (Gst.only [4] rfl) (.tuple #[y5]) (ResL.cons (ResV.var 0 rfl rfl rfl rfl) ResL.nil) rfl rfl rfl rfl
 refine T.block ?_
 obtain ⟨n8, n13⟩ := loop_some ht4
 refine T.loop (fun n S' => ∃ S'', Gst S' S'' ∧ ∃ y6 : Value, ∃ s7 : (List cell_Cell), S'' = ⟨[(5, .val y6), (4, .val (.pointer (some ⟨(blk p1), 0, none⟩))), (2, .nod [.sl 5 (List.map e_cell_Cell a0.fCells), .val (.int .i64 a0.fEnd), .val (.bool a0.fHidden)]), (1, .val (.int .i64 (if 40 < a1 then 40 else a1)))], [.var (blk p1) [.val (.slice none 0 0), .val (.int .i64 0), .val (.bool false)] 49, .row y6 (List.map e_cell_Cell s7) 5 108], 22⟩ ∧ iter (row_Row_Pad.l1 a1) n s7 = some t4) n8 ?_ ?_
 · exact ⟨_, Gst.only [1, 2, 4, 5] rfl, (vn w3 0), x2, rfl, n13⟩
 rintro n8 _ ⟨_, g, y6, s7, rfl, i12⟩
 refine T.ghost g ?_
 obtain ⟨m9, q10, rfl, q11, i12⟩ := iter_succ i12
 unfold row_Row_Pad.l1 at q11
 refine T.seq ?_
 refine T.seq ?_
 refine T.region ?_
 refine TL.op1 (OpR.pure rfl) rfl ?_
 refine TL.op1 (OpR.rowLenM e_cell_Cell 1 rfl rfl rfl rfl) rfl ?_
 refine TL.op1 (OpR.pure rfl) rfl ?_
 refine TL.op1 (OpR.pure rfl) rfl ?_
 refine TL.nil ?_
 show T X _ _ _
 rcases ite_some q11 with ⟨c15, q11⟩ | ⟨c15, q11⟩
 rotate_left
 · refine T.condF rfl (decide_eq_false c15) ?_
   refine T.exit ?_
   obtain rfl := Option.some.inj q11
   obtain rfl : _ = _ := i12
   exact ⟨_, Gst.only [2, 4, 5] rfl, y6, rfl⟩
 refine T.condT rfl (decide_eq_true c15) ?_
 refine T.skip ?_
 show T X _ _ _
 refine T.block ?_
 refine T.region ?_
 refine TL.op1 (OpR.pure rfl) rfl ?_
 refine TL.op1 (OpR.wk (d' := fun _ => .agg [.sl 2 (List.map e_arena_Span []), .val (.int .i64 0), .val (.int .i64 0), .val (.int .i64 0), .val (.bool false)]) (OpR.build rfl rfl rfl rfl rfl) (fun _ => Re.agg (ReL.cons (Re.base .nil) (ReL.cons Re.refl (ReL.cons Re.refl (ReL.cons Re.refl (ReL.cons Re.refl ReL.nil))))) (fun _ _ h => by cases h; exact ⟨_, rfl⟩))) rfl ?_
 refine TL.op1 (OpR.lit rfl rfl rfl rfl rfl rfl rfl) rfl ?_
 obtain ⟨x16, hx16, q11⟩ := bnd_some q11
 refine TL.op (OpR.appendM (m := [(⟨(⟨[], 0⟩ : piece_Text), (⟨0, 0⟩ : arena_Span), false⟩ : cell_Cell)]) e_cell_Cell 1 hx16 rfl rfl rfl rfl rfl rfl rfl rfl rfl (fun _ => rfl)) rfl (fun v17 => ?_)
 refine TL.op1 (OpR.pure rfl) rfl ?_
 refine TL.nil ?_
 obtain rfl := Option.some.inj q11
 exact ⟨m9, Nat.lt_succ_self _, _, Gst.only [1, 2, 4, 5] rfl, v17, x16, rfl, i12⟩
noncomputable def row_Row_Set (a0 : row_Row) (a1 : Int) (a2 : cell_Cell) : Option (row_Row × Int) :=
  bnd (if a1 < 0 then
    some true
  else
    some (decide (a1 ≥ 40)) : Option Bool) fun t2 =>
  if t2 = true then
    some ((⟨[], 0, false⟩ : row_Row), 5)
  else
    bnd (row_Row_Pad a0 (w64 (a1 + 1))) fun x5 =>
    bnd (idx x5.2.2 a1) fun x8 =>
    some ((⟨(x5.2.2.set a1.toNat a2), x5.1, x5.2.1⟩ : row_Row), 0)
set_option maxHeartbeats 4000000 in
theorem row_Row_Set_c {a0 : row_Row} {a1 : Int} {a2 : cell_Cell} {res : row_Row × Int} (h0 : row_Row_Set a0 a1 a2 = some res) : CallF X 74 [.agg [.sl 5 (List.map e_cell_Cell a0.fCells), .val (.int .i64 a0.fEnd), .val (.bool a0.fHidden)], .val (.int .i64 a1), .agg [.sl 2 (List.map e_arena_Span a2.fText.fL), .val (.int .i64 a2.fText.fN), .val (.int .i64 a2.fRaw.fAt), .val (.int .i64 a2.fRaw.fN), .val (.bool a2.fKept)]] [] (fun x => .tup [.agg [.sl 5 (List.map e_cell_Cell res.1.fCells), .val (.int .i64 res.1.fEnd), .val (.bool res.1.fHidden)], .val (.int .i64 res.2)]) (fun x => []) := by
 unfold row_Row_Set at h0
 refine CallF.mkG (X := X) Try.func74 rfl rfl Try.ntmps74 rfl rfl ?_
 refine T.seq ?_
 refine T.region ?_
 refine TL.op1 (OpR.boxImm rfl rfl) rfl ?_
 refine TL.op1 (OpR.boxImm rfl rfl) rfl ?_
 refine TL.op (OpR.alloc rfl rfl (fun _ => rfl)) rfl (fun p1 => ?_)
 refine TL.op1 (OpR.pure rfl) rfl ?_
 refine TL.nil ?_
 show T X _ _ _
 refine T.seq ?_
 refine T.seq ?_
 obtain ⟨t2, ht2, h0⟩ := bnd_some h0
 refine T.cutC (fun S' => S' = ⟨[(14, .val (.bool t2)), (7, .val (.int .i64 0)), (6, .val (.pointer (some ⟨(blk p1), 0, none⟩))), (5, .nod [.sl 2 (List.map e_arena_Span a2.fText.fL), .val (.int .i64 a2.fText.fN), .val (.int .i64 a2.fRaw.fAt), .val (.int .i64 a2.fRaw.fN), .val (.bool a2.fKept)]), (3, .nod [.sl 5 (List.map e_cell_Cell a0.fCells), .val (.int .i64 a0.fEnd), .val (.bool a0.fHidden)]), (1, .val (.int .i64 a1))], [.var (blk p1) [.val (.slice none 0 0), .val (.int .i64 0), .val (.bool false)] 49], 26⟩) (fun _ h => h) ?_ ?_
 · refine T.region ?_
   refine TL.op1 (OpR.pure rfl) rfl ?_
   refine TL.op1 (OpR.pure rfl) rfl ?_
   refine TL.op1 (OpR.pure rfl) rfl ?_
   rcases ite_some ht2 with ⟨c3, ht2⟩ | ⟨c3, ht2⟩
   · refine TL.off rfl rfl rfl rfl (decide_eq_true c3) rfl rfl ?_
     refine TL.off rfl rfl rfl rfl (decide_eq_true c3) rfl rfl ?_
     refine TL.op1 (OpR.pickT rfl (decide_eq_true c3) rfl) rfl ?_
     refine TL.nil ?_
     obtain rfl := Option.some.inj ht2
     exact ⟨_, Gst.only [1, 3, 5, 6, 7, 14] rfl, rfl⟩
   refine TL.on rfl rfl rfl rfl (decide_eq_false c3) ?_
   refine TL.op1 (OpR.pure rfl) rfl ?_
   refine TL.on rfl rfl rfl rfl (decide_eq_false c3) ?_
   refine TL.op1 (OpR.pure rfl) rfl ?_
   refine TL.op1 (OpR.pickF rfl (decide_eq_false c3) rfl) rfl ?_
   refine TL.nil ?_
   obtain rfl := Option.some.inj ht2
   exact ⟨_, Gst.only [1, 3, 5, 6, 7, 14] rfl, rfl⟩
 rintro _ rfl
 show T X _ _ _
 rcases ite_some h0 with ⟨c4, h0⟩ | ⟨c4, h0⟩
 · refine T.condT rfl (c4) ?_
   refine T.seq ?_
   refine T.region ?_
   refine TL.op1 (OpR.build rfl rfl rfl rfl rfl) rfl ?_
   refine TL.op0 (OpR.store 0 rfl rfl rfl rfl rfl rfl rfl rfl) ?_
   refine TL.op1 (OpR.pure rfl) rfl ?_
   refine TL.nil ?_
   show T X _ _ _
   refine T.ret ?_
   obtain rfl := Option.some.inj h0
   exact PostG.retP (ks := []) (Gst.trans (Gst.only [6, 7] rfl) (Gst.denil (ReS.cons Re.refl (ReS.cons Re.refl ReS.nil)) (ReO.var (ReL.cons (Re.base .nil) (ReL.cons Re.refl (ReL.cons Re.refl ReL.nil))) ReO.nil))) undef (ResL.cons (ResV.var 0 rfl rfl rfl rfl) (ResL.cons (ResV.tmp rfl) ResL.nil)) rfl rfl rfl rfl
 refine T.condF rfl (eq_false_of_ne_true c4) ?_
 refine T.skip ?_
 show T X _ _ _
 refine T.seq ?_
 refine T.region ?_
 refine TL.op1 (OpR.pure rfl) rfl ?_
 refine TL.op1 (OpR.pure rfl) rfl ?_
 refine TL.op1 (OpR.pure rfl) rfl ?_
 obtain ⟨x5, hx5, h0⟩ := bnd_some h0
 refine TL.op (OpR.call [] fn99 (row_Row_Pad_c hx5) rfl rfl rfl (fun _ => rfl)) rfl (fun w6 => ?_)
 refine TL.op (OpR.alloc rfl rfl (fun _ => rfl)) rfl (fun p7 => ?_)
 refine TL.op0 (OpR.store 2 rfl rfl rfl rfl rfl rfl rfl rfl) ?_
 refine TL.nil ?_
 show T X _ _ _
 refine T.seq ?_
 refine T.region ?_
 refine TL.op1 (OpR.pure rfl) rfl ?_
 refine TL.op1 (OpR.loadPtr 2 rfl rfl rfl rfl) rfl ?_
 refine TL.op1 (OpR.pure rfl) rfl ?_
 refine TL.op1 (OpR.pure rfl) rfl ?_
 obtain ⟨x8, hx8, h0⟩ := bnd_some h0
 refine TL.op1 (OpR.rowIndexM e_cell_Cell 1 hx8 rfl rfl rfl rfl rfl rfl rfl) rfl ?_
 refine TL.op0 (OpR.rowStore0M (j := a1) e_cell_Cell a2 1 hx8 rfl rfl rfl rfl rfl rfl rfl rfl rfl) ?_
 refine TL.nil ?_
 show T X _ _ _
 refine T.seq ?_
 refine T.region ?_
 refine TL.op1 (OpR.loadPtr 2 rfl rfl rfl rfl) rfl ?_
 refine TL.op0 (OpR.store 0 rfl rfl rfl rfl rfl rfl rfl rfl) ?_
 refine TL.op1 (OpR.pure rfl) rfl ?_
 refine TL.nil ?_
 show T X _ _ _
 refine T.ret ?_
 obtain rfl := Option.some.inj h0
 exact PostG.retP (ks := []) (Gst.trans (Gst.only [6, 7] rfl) (Gst.trans (Gst.freezeRow 1 rfl rfl (ReS.cons Re.refl (ReS.cons Re.refl ReS.nil)) (ReO.var (ReL.cons (Re.base .all) (ReL.cons Re.refl (ReL.cons Re.refl ReL.nil))) (ReO.same (ReO.var (ReL.cons (Re.base .all) (ReL.cons Re.refl (ReL.cons Re.refl ReL.nil))) ReO.nil)))) (Gst.pick [0] rfl rfl))) undef (ResL.cons (ResV.var 0 rfl rfl rfl rfl) (ResL.cons (ResV.tmp rfl) ResL.nil)) rfl rfl rfl rfl
noncomputable def row_Row_has (a0 : row_Row) (a1 : Int) : Option Bool :=
  bnd (if a1 ≥ 0 then
    some (decide (a1 < (a0.fCells.length : Int)))
  else
    some false : Option Bool) fun t1 =>
  some t1
set_option maxHeartbeats 4000000 in
theorem row_Row_has_c {a0 : row_Row} {a1 : Int} {res : Bool} (h0 : row_Row_has a0 a1 = some res) : CallF X 101 [.agg [.sl 5 (List.map e_cell_Cell a0.fCells), .val (.int .i64 a0.fEnd), .val (.bool a0.fHidden)], .val (.int .i64 a1)] [] (fun x => .val (.bool res)) (fun x => []) := by
 unfold row_Row_has at h0
 refine CallF.mkG (X := X) Try.func101 rfl rfl Try.ntmps101 rfl rfl ?_
 refine T.seq ?_
 refine T.region ?_
 refine TL.op1 (OpR.boxImm rfl rfl) rfl ?_
 refine TL.op1 (OpR.pure rfl) rfl ?_
 refine TL.nil ?_
 show T X _ _ _
 refine T.seq ?_
 obtain ⟨t1, ht1, h0⟩ := bnd_some h0
 refine T.cutC (fun S' => S' = ⟨[(4, .val (.bool t1))], [], 14⟩) (fun _ h => h) ?_ ?_
 rotate_left
 · rintro _ rfl
   show T X _ _ _
   refine T.ret ?_
   obtain rfl := Option.some.inj h0
   exact PostG.retP (ks := []) (Gst.only [4] rfl) undef (ResL.cons (ResV.tmp rfl) ResL.nil) rfl rfl rfl rfl
 refine T.region ?_
 refine TL.op1 (OpR.pure rfl) rfl ?_
 refine TL.op1 (OpR.pure rfl) rfl ?_
 refine TL.op1 (OpR.pure rfl) rfl ?_
 rcases ite_some ht1 with ⟨c2, ht1⟩ | ⟨c2, ht1⟩
 rotate_left
 · refine TL.off rfl rfl rfl rfl (decide_eq_false c2) rfl rfl ?_
   refine TL.off rfl rfl rfl rfl (decide_eq_false c2) rfl rfl ?_
   refine TL.off rfl rfl rfl rfl (decide_eq_false c2) rfl rfl ?_
   refine TL.off rfl rfl rfl rfl (decide_eq_false c2) rfl rfl ?_
   refine TL.off rfl rfl rfl rfl (decide_eq_false c2) rfl rfl ?_
   refine TL.op1 (OpR.pickF rfl (decide_eq_false c2) rfl) rfl ?_
   refine TL.op1 (OpR.pure rfl) rfl ?_
   refine TL.nil ?_
   obtain rfl := Option.some.inj ht1
   exact ⟨_, Gst.only [4] rfl, rfl⟩
 refine TL.on rfl rfl rfl rfl (decide_eq_true c2) ?_
 refine TL.op1 (OpR.pure rfl) rfl ?_
 refine TL.on rfl rfl rfl rfl (decide_eq_true c2) ?_
 refine TL.op1 (OpR.pure rfl) rfl ?_
 refine TL.on rfl rfl rfl rfl (decide_eq_true c2) ?_
 refine TL.op1 (OpR.pure rfl) rfl ?_
 refine TL.on rfl rfl rfl rfl (decide_eq_true c2) ?_
 refine TL.op1 (OpR.cast (OpR.pure rfl) (intE (lenM _ _))) rfl ?_
 refine TL.on rfl rfl rfl rfl (decide_eq_true c2) ?_
 refine TL.op1 (OpR.pure rfl) rfl ?_
 refine TL.op1 (OpR.pickT rfl (decide_eq_true c2) rfl) rfl ?_
 refine TL.op1 (OpR.pure rfl) rfl ?_
 refine TL.nil ?_
 obtain rfl := Option.some.inj ht1
 exact ⟨_, Gst.only [4] rfl, rfl⟩
noncomputable def row_Row_At (a0 : row_Row) (a1 : Int) : Option (cell_Cell × Bool) :=
  bnd (row_Row_has a0 a1) fun x2 =>
  if x2 = true then
    bnd (idx a0.fCells a1) fun x4 =>
    some (x4, true)
  else
    some ((⟨(⟨[], 0⟩ : piece_Text), (⟨0, 0⟩ : arena_Span), false⟩ : cell_Cell), false)
set_option maxHeartbeats 4000000 in
theorem row_Row_At_c {a0 : row_Row} {a1 : Int} {res : cell_Cell × Bool} (h0 : row_Row_At a0 a1 = some res) : CallF X 53 [.agg [.sl 5 (List.map e_cell_Cell a0.fCells), .val (.int .i64 a0.fEnd), .val (.bool a0.fHidden)], .val (.int .i64 a1)] [] (fun x => .tup [.agg [.sl 2 (List.map e_arena_Span res.1.fText.fL), .val (.int .i64 res.1.fText.fN), .val (.int .i64 res.1.fRaw.fAt), .val (.int .i64 res.1.fRaw.fN), .val (.bool res.1.fKept)], .val (.bool res.2)]) (fun x => []) := by
 unfold row_Row_At at h0
 refine CallF.mkG (X := X) Try.func53 rfl rfl Try.ntmps53 rfl rfl ?_
 refine T.seq ?_
 refine T.region ?_
 refine TL.op1 (OpR.boxImm rfl rfl) rfl ?_
 refine TL.op (OpR.alloc rfl rfl (fun _ => rfl)) rfl (fun p1 => ?_)
 refine TL.op1 (OpR.pure rfl) rfl ?_
 refine TL.nil ?_
 show T X _ _ _
 refine T.seq ?_
 refine T.seq ?_
 refine T.region ?_
 refine TL.op1 (OpR.pure rfl) rfl ?_
 refine TL.op1 (OpR.pure rfl) rfl ?_
 obtain ⟨x2, hx2, h0⟩ := bnd_some h0
 refine TL.op1 (OpR.call0 fn101 (row_Row_has_c hx2) rfl) rfl ?_
 refine TL.op1 (OpR.pure rfl) rfl ?_
 refine TL.nil ?_
 show T X _ _ _
 rcases ite_some h0 with ⟨c3, h0⟩ | ⟨c3, h0⟩
 rotate_left
 · refine T.condT rfl (not_f (eq_false_of_ne_true c3)) ?_
   refine T.seq ?_
   refine T.region ?_
   refine TL.op1 (OpR.build rfl rfl rfl rfl rfl) rfl ?_
   refine TL.op0 (OpR.store 0 rfl rfl rfl rfl rfl rfl rfl rfl) ?_
   refine TL.op1 (OpR.pure rfl) rfl ?_
   refine TL.nil ?_
   show T X _ _ _
   refine T.ret ?_
   obtain rfl := Option.some.inj h0
   exact PostG.retP (ks := []) (Gst.trans (Gst.only [4, 5] rfl) (Gst.denil (ReS.cons Re.refl (ReS.cons Re.refl ReS.nil)) (ReO.var (ReL.cons (Re.base .nil) (ReL.cons Re.refl (ReL.cons Re.refl (ReL.cons Re.refl (ReL.cons Re.refl ReL.nil))))) ReO.nil))) undef (ResL.cons (ResV.var 0 rfl rfl rfl rfl) (ResL.cons (ResV.tmp rfl) ResL.nil)) rfl rfl rfl rfl
 refine T.condF rfl (not_t (c3)) ?_
 refine T.skip ?_
 show T X _ _ _
 refine T.seq ?_
 refine T.region ?_
 refine TL.op1 (OpR.pure rfl) rfl ?_
 refine TL.op1 (OpR.pure rfl) rfl ?_
 refine TL.op1 (OpR.pure rfl) rfl ?_
 obtain ⟨x4, hx4, h0⟩ := bnd_some h0
 refine TL.op1 (OpR.indexM e_cell_Cell hx4 rfl rfl rfl rfl rfl) rfl ?_
 refine TL.op1 (OpR.pure rfl) rfl ?_
 refine TL.op0 (OpR.store 0 rfl rfl rfl rfl rfl rfl rfl rfl) ?_
 refine TL.op1 (OpR.pure rfl) rfl ?_
 refine TL.nil ?_
 show T X _ _ _
 refine T.ret ?_
 obtain rfl := Option.some.inj h0
 exact PostG.retP (ks := []) (Gst.only [4, 5] rfl) undef (ResL.cons (ResV.var 0 rfl rfl rfl rfl) (ResL.cons (ResV.tmp rfl) ResL.nil)) rfl rfl rfl rfl
noncomputable def row_Row_Len (a0 : row_Row) : Option Int :=
  some (a0.fCells.length : Int)
set_option maxHeartbeats 4000000 in
theorem row_Row_Len_c {a0 : row_Row} {res : Int} (h0 : row_Row_Len a0 = some res) : CallF X 52 [.agg [.sl 5 (List.map e_cell_Cell a0.fCells), .val (.int .i64 a0.fEnd), .val (.bool a0.fHidden)]] [] (fun x => .val (.int .i64 res)) (fun x => []) := by
 unfold row_Row_Len at h0
 refine CallF.mkG (X := X) Try.func52 rfl rfl Try.ntmps52 rfl rfl ?_
 refine T.seq ?_
 refine T.region ?_
 refine TL.op1 (OpR.boxImm rfl rfl) rfl ?_
 refine TL.op1 (OpR.pure rfl) rfl ?_
 refine TL.nil ?_
 show T X _ _ _
 refine T.seq ?_
 refine T.region ?_
 refine TL.op1 (OpR.pure rfl) rfl ?_
 refine TL.op1 (OpR.pure rfl) rfl ?_
 refine TL.op1 (OpR.cast (OpR.pure rfl) (intE (lenM _ _))) rfl ?_
 refine TL.op1 (OpR.pure rfl) rfl ?_
 refine TL.nil ?_
 show T X _ _ _
 refine T.ret ?_
 obtain rfl := Option.some.inj h0
 exact PostG.retP (ks := []) (Gst.only [2] rfl) undef (ResL.cons (ResV.tmp rfl) ResL.nil) rfl rfl rfl rfl
noncomputable def cell_Cell_Empty (a0 : cell_Cell) : Option Bool :=
  bnd (piece_Text_Len a0.fText) fun x1 =>
  some (x1 == 0)
set_option maxHeartbeats 4000000 in
theorem cell_Cell_Empty_c {a0 : cell_Cell} {res : Bool} (h0 : cell_Cell_Empty a0 = some res) : CallF X 75 [.agg [.sl 2 (List.map e_arena_Span a0.fText.fL), .val (.int .i64 a0.fText.fN), .val (.int .i64 a0.fRaw.fAt), .val (.int .i64 a0.fRaw.fN), .val (.bool a0.fKept)]] [] (fun x => .val (.bool res)) (fun x => []) := by
 unfold cell_Cell_Empty at h0
 refine CallF.mkG (X := X) Try.func75 rfl rfl Try.ntmps75 rfl rfl ?_
 refine T.seq ?_
 refine T.region ?_
 refine TL.op1 (OpR.boxImm rfl rfl) rfl ?_
 refine TL.op1 (OpR.pure rfl) rfl ?_
 refine TL.nil ?_
 show T X _ _ _
 refine T.seq ?_
 refine T.region ?_
 refine TL.op1 (OpR.pure rfl) rfl ?_
 refine TL.op1 (OpR.pure rfl) rfl ?_
 obtain ⟨x1, hx1, h0⟩ := bnd_some h0
 refine TL.op1 (OpR.call0 fn68 (piece_Text_Len_c hx1) rfl) rfl ?_
 refine TL.op1 (OpR.pure rfl) rfl ?_
 refine TL.op1 (OpR.pure rfl) rfl ?_
 refine TL.nil ?_
 show T X _ _ _
 refine T.ret ?_
 obtain rfl := Option.some.inj h0
 exact PostG.retP (ks := []) (Gst.only [2] rfl) undef (ResL.cons (ResV.tmp rfl) ResL.nil) rfl rfl rfl rfl
noncomputable def cell_Cell_Bytes (a0 : cell_Cell) (a1 : List UInt8) : Option (List UInt8) :=
  bnd (piece_Text_Flat a0.fText a1) fun x1 =>
  some x1
set_option maxHeartbeats 4000000 in
theorem cell_Cell_Bytes_c {a0 : cell_Cell} {a1 : List UInt8} {b0 : Nat} {v1 : Value} {res : (List UInt8)} (h0 : cell_Cell_Bytes a0 a1 = some res) : CallF X 102 [.agg [.sl 2 (List.map e_arena_Span a0.fText.fL), .val (.int .i64 a0.fText.fN), .val (.int .i64 a0.fRaw.fAt), .val (.int .i64 a0.fRaw.fN), .val (.bool a0.fKept)], .val (.pointer (some ⟨b0, 0, none⟩))] [.var b0 [.val v1] 142, .row v1 (List.map byteD a1) 1 5] (fun x => .sl 1 (List.map byteD res)) (fun x => [.var b0 [.val v1] 142, .row v1 (List.map byteD a1) 1 5]) := by
 unfold cell_Cell_Bytes at h0
 refine CallF.mkG (X := X) Try.func102 rfl rfl Try.ntmps102 rfl rfl ?_
 refine T.seq ?_
 refine T.region ?_
 refine TL.op1 (OpR.boxImm rfl rfl) rfl ?_
 refine TL.op1 (OpR.pure rfl) rfl ?_
 refine TL.nil ?_
 show T X _ _ _
 refine T.seq ?_
 refine T.region ?_
 refine TL.op1 (OpR.pure rfl) rfl ?_
 refine TL.op1 (OpR.pure rfl) rfl ?_
 refine TL.op1 (OpR.pure rfl) rfl ?_
 obtain ⟨x1, hx1, h0⟩ := bnd_some h0
 refine TL.op1 (OpR.call [0, 1] fn46 (piece_Text_Flat_c hx1) rfl rfl rfl (fun _ => rfl)) rfl ?_
 refine TL.op1 (OpR.pure rfl) rfl ?_
 refine TL.nil ?_
 show T X _ _ _
 refine T.ret ?_
 obtain rfl := Option.some.inj h0
 exact PostG.retP (ks := [0, 1]) (Gst.only [4] rfl) undef (ResL.cons (ResV.tmp rfl) ResL.nil) rfl rfl rfl rfl
noncomputable def cell_Cell_Print (a0 : cell_Cell) (a1 : List UInt8) : Option (List UInt8) :=
  if a0.fKept = true then
    bnd (arena_Arena_Bytes a0.fRaw a1) fun x2 =>
    some x2
  else
    bnd (cell_Cell_Bytes a0 a1) fun x3 =>
    bnd (quote_Put x3) fun x4 =>
    some x4
set_option maxHeartbeats 4000000 in
theorem cell_Cell_Print_c {a0 : cell_Cell} {a1 : List UInt8} {b0 : Nat} {v1 : Value} {res : (List UInt8)} (h0 : cell_Cell_Print a0 a1 = some res) : CallF X 72 [.agg [.sl 2 (List.map e_arena_Span a0.fText.fL), .val (.int .i64 a0.fText.fN), .val (.int .i64 a0.fRaw.fAt), .val (.int .i64 a0.fRaw.fN), .val (.bool a0.fKept)], .val (.pointer (some ⟨b0, 0, none⟩))] [.var b0 [.val v1] 142, .row v1 (List.map byteD a1) 1 5] (fun x => .sl 1 (List.map byteD res)) (fun x => [.var b0 [.val v1] 142, .row v1 (List.map byteD a1) 1 5]) := by
 unfold cell_Cell_Print at h0
 refine CallF.mkG (X := X) Try.func72 rfl rfl Try.ntmps72 rfl rfl ?_
 refine T.seq ?_
 refine T.region ?_
 refine TL.op1 (OpR.boxImm rfl rfl) rfl ?_
 refine TL.op1 (OpR.pure rfl) rfl ?_
 refine TL.nil ?_
 show T X _ _ _
 refine T.seq ?_
 refine T.seq ?_
 refine T.region ?_
 refine TL.op1 (OpR.pure rfl) rfl ?_
 refine TL.op1 (OpR.pure rfl) rfl ?_
 refine TL.nil ?_
 show T X _ _ _
 rcases ite_some h0 with ⟨c1, h0⟩ | ⟨c1, h0⟩
 · refine T.condT rfl (c1) ?_
   refine T.seq ?_
   refine T.region ?_
   refine TL.op1 (OpR.pure rfl) rfl ?_
   refine TL.op1 (OpR.pure rfl) rfl ?_
   refine TL.op1 (OpR.pure rfl) rfl ?_
   obtain ⟨x2, hx2, h0⟩ := bnd_some h0
   refine TL.op1 (OpR.call [0, 1] fn91 (arena_Arena_Bytes_c hx2) rfl rfl rfl (fun _ => rfl)) rfl ?_
   refine TL.op1 (OpR.pure rfl) rfl ?_
   refine TL.nil ?_
   show T X _ _ _
   refine T.ret ?_
   obtain rfl := Option.some.inj h0
   exact PostG.retP (ks := [0, 1]) (Gst.only [4] rfl) undef (ResL.cons (ResV.tmp rfl) ResL.nil) rfl rfl rfl rfl
 refine T.condF rfl (eq_false_of_ne_true c1) ?_
 refine T.skip ?_
 show T X _ _ _
 refine T.seq ?_
 refine T.region ?_
 refine TL.op1 (OpR.pure rfl) rfl ?_
 refine TL.op1 (OpR.pure rfl) rfl ?_
 obtain ⟨x3, hx3, h0⟩ := bnd_some h0
 refine TL.op1 (OpR.call [0, 1] fn102 (cell_Cell_Bytes_c hx3) rfl rfl rfl (fun _ => rfl)) rfl ?_
 obtain ⟨x4, hx4, h0⟩ := bnd_some h0
 refine TL.op1 (OpR.call0 fn125 (quote_Put_c hx4) rfl) rfl ?_
 refine TL.op1 (OpR.pure rfl) rfl ?_
 refine TL.nil ?_
 show T X _ _ _
 refine T.ret ?_
 obtain rfl := Option.some.inj h0
 exact PostG.retP (ks := [0, 1]) (Gst.only [4] rfl) undef (ResL.cons (ResV.tmp rfl) ResL.nil) rfl rfl rfl rfl
noncomputable def row_Row_Print.l1 (a0 : row_Row) (a1 : List UInt8) (s4 : Int × (List UInt8)) : Option (Lp (Int × (List UInt8)) (List UInt8)) :=
  if s4.1 < (a0.fCells.length : Int) then
    bnd (idx a0.fCells s4.1) fun x13 =>
    bnd (if s4.1 > 0 then
      bnd (app 1 s4.2 [44]) fun x18 =>
      some x18
    else
      some s4.2 : Option (List UInt8)) fun t15 =>
    bnd (cell_Cell_Print x13 a1) fun x20 =>
    bnd (app 1 t15 x20) fun x21 =>
    some (Lp.next (w64 (s4.1 + 1), x21))
  else
    some (Lp.done s4.2)
noncomputable def row_Row_Print (a0 : row_Row) (a1 : List UInt8) : Option (List UInt8) :=
  bnd (loop (row_Row_Print.l1 a0 a1) (0, []) : Option (List UInt8)) fun t1 =>
  some t1
set_option maxHeartbeats 4000000 in
theorem row_Row_Print_c {a0 : row_Row} {a1 : List UInt8} {b0 : Nat} {v1 : Value} {res : (List UInt8)} (h0 : row_Row_Print a0 a1 = some res) : CallF X 33 [.agg [.sl 5 (List.map e_cell_Cell a0.fCells), .val (.int .i64 a0.fEnd), .val (.bool a0.fHidden)], .val (.pointer (some ⟨b0, 0, none⟩))] [.var b0 [.val v1] 142, .row v1 (List.map byteD a1) 1 5] (fun x => .sl 1 (List.map byteD res)) (fun x => [.var b0 [.val v1] 142, .row v1 (List.map byteD a1) 1 5]) := by
 unfold row_Row_Print at h0
 refine CallF.mkG (X := X) Try.func33 rfl rfl Try.ntmps33 rfl rfl ?_
 refine T.seq ?_
 refine T.region ?_
 refine TL.op1 (OpR.boxImm rfl rfl) rfl ?_
 refine TL.op1 (OpR.pure rfl) rfl ?_
 refine TL.nil ?_
 show T X _ _ _
 refine T.seq ?_
 refine T.region ?_
 refine TL.op1 (OpR.pure rfl) rfl ?_
 refine TL.nil ?_
 show T X _ _ _
 refine T.seq ?_
 refine T.seq ?_
 refine T.region ?_
 refine TL.op1 (OpR.pure rfl) rfl ?_
 refine TL.op1 (OpR.pure rfl) rfl ?_
 refine TL.op1 (OpR.cast (OpR.pure rfl) (intE (lenM _ _))) rfl ?_
 refine TL.op1 (OpR.pure rfl) rfl ?_
 refine TL.nil ?_
 show T X _ _ _
 obtain ⟨t1, ht1, h0⟩ := bnd_some h0
 refine T.cutC (fun S' => ∃ y2 : Value, S' = ⟨[(5, .val y2), (4, .val (.slice none 0 0))], [.var b0 [.val v1] 142, .row v1 (List.map byteD a1) 1 5, .row y2 (List.map byteD t1) 1 5], 28⟩) (fun _ h => h) ?_ ?_
 rotate_left
 · rintro _ ⟨y2, rfl⟩
   show T X _ _ _
   refine T.seq ?_
   refine T.region ?_
   refine TL.op1 (OpR.pure rfl) rfl ?_
   refine TL.op1 (OpR.pure rfl) rfl ?_
   refine TL.nil ?_
   show T X _ _ _
   refine T.ret ?_
   obtain rfl := Option.some.inj h0
   exact PostG.retP (ks := [0, 1]) (Gst.trans (Gst.only [4] rfl) (Gst.trans (Gst.freezeRow 2 rfl rfl (ReS.cons (Re.base .all) ReS.nil) (ReO.same (ReO.same (ReO.same ReO.nil)))) (Gst.pick [0, 1] rfl rfl))) undef (ResL.cons (ResV.tmp rfl) ResL.nil) rfl rfl rfl rfl
 refine T.block ?_
 obtain ⟨n5, n10⟩ := loop_some ht1
 refine T.loop (fun n S' => ∃ S'', Gst S' S'' ∧ ∃ y3 : Value, ∃ s4 : Int × (List UInt8), S'' = ⟨[(11, .val (.int .i64 s4.1)), (10, .val (.int .i64 (a0.fCells.length : Int))), (9, .sl 5 (List.map e_cell_Cell a0.fCells)), (5, .val y3), (4, .val (.slice none 0 0)), (1, .val (.pointer (some ⟨b0, 0, none⟩)))], [.var b0 [.val v1] 142, .row v1 (List.map byteD a1) 1 5, .row y3 (List.map byteD s4.2) 1 5], 28⟩ ∧ iter (row_Row_Print.l1 a0 a1) n s4 = some t1) n5 ?_ ?_
 · exact ⟨_, Gst.trans (Gst.only [1, 4, 5, 9, 10, 11] rfl) (Gst.nilRow (ow := [.var b0 [.val v1] 142, .row v1 (List.map byteD a1) 1 5]) 1 5 rfl), (.slice none 0 0), (0, []), rfl, n10⟩
 rintro n5 _ ⟨_, g, y3, s4, rfl, i9⟩
 refine T.ghost g ?_
 obtain ⟨m6, q7, rfl, q8, i9⟩ := iter_succ i9
 unfold row_Row_Print.l1 at q8
 refine T.seq ?_
 refine T.region ?_
 refine TL.op1 (OpR.pure rfl) rfl ?_
 refine TL.nil ?_
 show T X _ _ _
 refine T.seq ?_
 rcases ite_some q8 with ⟨c12, q8⟩ | ⟨c12, q8⟩
 rotate_left
 · refine T.condF rfl (decide_eq_false c12) ?_
   refine T.exit ?_
   obtain rfl := Option.some.inj q8
   obtain rfl : _ = _ := i9
   exact ⟨_, Gst.only [4, 5] rfl, y3, rfl⟩
 refine T.condT rfl (decide_eq_true c12) ?_
 refine T.skip ?_
 show T X _ _ _
 refine T.seq ?_
 refine T.block ?_
 refine T.seq ?_
 refine T.region ?_
 refine TL.op1 (OpR.pure rfl) rfl ?_
 obtain ⟨x13, hx13, q8⟩ := bnd_some q8
 refine TL.op1 (OpR.indexM e_cell_Cell hx13 rfl rfl rfl rfl rfl) rfl ?_
 refine TL.op1 (OpR.pure rfl) rfl ?_
 refine TL.op (OpR.alloc rfl rfl (fun _ => rfl)) rfl (fun p14 => ?_)
 refine TL.op1 (OpR.pure rfl) rfl ?_
 refine TL.op0 (OpR.store 3 rfl rfl rfl rfl rfl rfl rfl rfl) ?_
 refine TL.nil ?_
 show T X _ _ _
 refine T.seq ?_
 refine T.seq ?_
 refine T.region ?_
 refine TL.op1 (OpR.pure rfl) rfl ?_
 refine TL.op1 (OpR.pure rfl) rfl ?_
 refine TL.nil ?_
 show T X _ _ _
 obtain ⟨t15, ht15, q8⟩ := bnd_some q8
 refine T.cutC (fun S' => ∃ y16 : Value, S' = ⟨[(11, .val (.int .i64 s4.1)), (10, .val (.int .i64 (a0.fCells.length : Int))), (9, .sl 5 (List.map e_cell_Cell a0.fCells)), (7, .val (.pointer (some ⟨(blk p14), 0, none⟩))), (5, .val y16), (4, .val (.slice none 0 0)), (1, .val (.pointer (some ⟨b0, 0, none⟩)))], [.var b0 [.val v1] 142, .row v1 (List.map byteD a1) 1 5, .row y16 (List.map byteD t15) 1 5, .var (blk p14) [.sl 2 (List.map e_arena_Span x13.fText.fL), .val (.int .i64 x13.fText.fN), .val (.int .i64 x13.fRaw.fAt), .val (.int .i64 x13.fRaw.fN), .val (.bool x13.fKept)] 108], 28⟩) (fun _ h => h) ?_ ?_
 · rcases ite_some ht15 with ⟨c17, ht15⟩ | ⟨c17, ht15⟩
   rotate_left
   · refine T.condF rfl (decide_eq_false c17) ?_
     refine T.skip ?_
     obtain rfl := Option.some.inj ht15
     exact ⟨_, Gst.only [1, 4, 5, 7, 9, 10, 11] rfl, y3, rfl⟩
   refine T.condT rfl (decide_eq_true c17) ?_
   refine T.region ?_
   refine TL.op1 (OpR.pure rfl) rfl ?_
   refine TL.op1 (OpR.lit rfl rfl rfl rfl rfl rfl rfl) rfl ?_
   obtain ⟨x18, hx18, ht15⟩ := bnd_some ht15
   refine TL.op (OpR.appendM (m := [44]) byteD 2 hx18 rfl rfl rfl rfl rfl rfl rfl rfl rfl (fun _ => rfl)) rfl (fun v19 => ?_)
   refine TL.op1 (OpR.pure rfl) rfl ?_
   refine TL.nil ?_
   obtain rfl := Option.some.inj ht15
   exact ⟨_, Gst.only [1, 4, 5, 7, 9, 10, 11] rfl, v19, rfl⟩
 rintro _ ⟨y16, rfl⟩
 show T X _ _ _
 refine T.region ?_
 refine TL.op1 (OpR.pure rfl) rfl ?_
 refine TL.op1 (OpR.loadPtr 3 rfl rfl rfl rfl) rfl ?_
 refine TL.op1 (OpR.pure rfl) rfl ?_
 obtain ⟨x20, hx20, q8⟩ := bnd_some q8
 refine TL.op1 (OpR.call [0, 1] fn72 (cell_Cell_Print_c hx20) rfl rfl rfl (fun _ => rfl)) rfl ?_
 obtain ⟨x21, hx21, q8⟩ := bnd_some q8
 refine TL.op (OpR.appendM (m := x20) byteD 2 hx21 rfl rfl rfl rfl rfl rfl rfl rfl rfl (fun _ => rfl)) rfl (fun v22 => ?_)
 refine TL.op1 (OpR.pure rfl) rfl ?_
 refine TL.nil ?_
 show T X _ _ _
 refine T.region ?_
 refine TL.op1 (OpR.pure rfl) rfl ?_
 refine TL.op1 (OpR.pure rfl) rfl ?_
 refine TL.nil ?_
 obtain rfl := Option.some.inj q8
 exact ⟨m6, Nat.lt_succ_self _, _, Gst.trans (Gst.only [1, 4, 5, 9, 10, 11] rfl) (Gst.pick [0, 1, 2] rfl rfl), v22, (w64 (s4.1 + 1), x21), rfl, i9⟩
noncomputable def law08_awake : Option Bool :=
  bnd (arena_New_2) fun x1 =>
  bnd (cell_Put [120] x1.2) fun x4 =>
  bnd (row_Fresh 1 0) fun x8 =>
  bnd (row_Row_Set x8 2 x4.1) fun x9 =>
  bnd (row_Row_At x9.1 1) fun x10 =>
  bnd (if x9.2 = 0 then
    bnd (row_Row_Len x9.1) fun x14 =>
    if x14 = 3 then
      if x10.2 = true then
        bnd (cell_Cell_Empty x10.1) fun x17 =>
        if x17 = true then
          bnd (row_Row_Print x9.1 x4.2.2) fun x19 =>
          some (x19 == [44, 44, 120])
        else
          some false
      else
        some false
    else
      some false
  else
    some false : Option Bool) fun t12 =>
  some t12
set_option maxHeartbeats 4000000 in
theorem law08_awake_c {res : Bool} (h0 : law08_awake = some res) : CallF X 35 [] [] (fun x => .val (.bool res)) (fun x => []) := by
 unfold law08_awake at h0
 refine CallF.mkG (X := X) Try.func35 rfl rfl Try.ntmps35 rfl rfl ?_
 refine T.seq ?_
 refine T.region ?_
 refine TL.op1 (OpR.pure rfl) rfl ?_
 refine TL.nil ?_
 show T X _ _ _
 refine T.seq ?_
 refine T.region ?_
 obtain ⟨x1, hx1, h0⟩ := bnd_some h0
 refine TL.op (OpR.call [] fn25 (arena_New_2_c hx1) rfl rfl rfl (fun _ => rfl)) rfl (fun w2 => ?_)
 refine TL.op1 (OpR.pure rfl) rfl ?_
 refine TL.op1 (OpR.pure rfl) rfl ?_
 refine TL.op1 (OpR.pure rfl) rfl ?_
 refine TL.op1 (OpR.pure rfl) rfl ?_
 refine TL.op1 (OpR.pure rfl) rfl ?_
 refine TL.nil ?_
 show T X _ _ _
 refine T.seq ?_
 refine T.region ?_
 refine TL.op1 (OpR.pure rfl) rfl ?_
 refine TL.op (OpR.litRow rfl rfl rfl rfl rfl rfl rfl rfl (fun _ => rfl)) rfl (fun v3 => ?_)
 refine TL.op1 (OpR.markRow 2 rfl rfl rfl rfl rfl rfl rfl rfl) rfl ?_
 obtain ⟨x4, hx4, h0⟩ := bnd_some h0
 refine TL.op (OpR.call [0, 1] fn73 (cell_Put_c hx4) rfl rfl rfl (fun _ => rfl)) rfl (fun w5 => ?_)
 refine TL.op1 (OpR.pure rfl) rfl ?_
 refine TL.op1 (OpR.pure rfl) rfl ?_
 refine TL.op1 (OpR.pure rfl) rfl ?_
 refine TL.op (OpR.alloc rfl rfl (fun _ => rfl)) rfl (fun p6 => ?_)
 refine TL.op0 (OpR.store 3 rfl rfl rfl rfl rfl rfl rfl rfl) ?_
 refine TL.op1 (OpR.pure rfl) rfl ?_
 refine TL.nil ?_
 show T X _ _ _
 refine T.seq ?_
 obtain ⟨x8, hx8, h0⟩ := bnd_some h0
 obtain ⟨x9, hx9, h0⟩ := bnd_some h0
 refine T.drawS drawsX (fun env7 => [.agg [.sl 5 (List.map e_cell_Cell x8.fCells), .val (.int .i64 x8.fEnd), .val (.bool x8.fHidden)], .agg [.sl 2 (List.map e_arena_Span x4.1.fText.fL), .val (.int .i64 x4.1.fText.fN), .val (.int .i64 x4.1.fRaw.fAt), .val (.int .i64 x4.1.fRaw.fN), .val (.bool x4.1.fKept)], .tup [.agg [.sl 5 (List.map e_cell_Cell x9.1.fCells), .val (.int .i64 x9.1.fEnd), .val (.bool x9.1.fHidden)], .val (.int .i64 x9.2)], .tup [.agg [.sl 5 (List.map e_cell_Cell x9.1.fCells), .val (.int .i64 x9.1.fEnd), .val (.bool x9.1.fHidden)], .val (.int .i64 x9.2)], .agg [.sl 5 (List.map e_cell_Cell x9.1.fCells), .val (.int .i64 x9.1.fEnd), .val (.bool x9.1.fHidden)], .val (.int .i64 x9.2), .val (.pointer (some ⟨(blk (env7 6)), 0, none⟩)), .dead, .val (.int .i64 x9.2)]) (fun D env7 => [.var (blk (vn w2 0)) [.val (vn w5 0)] 142, .row (vn w5 0) (List.map byteD x4.2.2) 1 5, .gone, .var (blk p6) [.sl 2 (List.map e_arena_Span x4.1.fText.fL), .val (.int .i64 x4.1.fText.fN), .val (.int .i64 x4.1.fRaw.fAt), .val (.int .i64 x4.1.fRaw.fN), .val (.bool x4.1.fKept)] 108] ++ (bif D 6 then [(bif D 7 then .var (blk (env7 6)) [.sl 5 (List.map e_cell_Cell x9.1.fCells), .val (.int .i64 x9.1.fEnd), .val (.bool x9.1.fHidden)] 49 else .var (blk (env7 6)) [.val (.slice none 0 0), .val (.int .i64 0), .val (.bool false)] 49)] else [])) [0, 0, 3, 7, 15, 15, 0, 95, 255] [0, 1, 2, 3, 4, 5, 6, 9, 10, 11, 12, 13, 14, 15, 16, 17, 18, 19, 20, 21, 22, 23, 24, 25] (fun env7 => [.var (blk (vn w2 0)) [.val (vn w5 0)] 142, .row (vn w5 0) (List.map byteD x4.2.2) 1 5, .gone, .var (blk p6) [.sl 2 (List.map e_arena_Span x4.1.fText.fL), .val (.int .i64 x4.1.fText.fN), .val (.int .i64 x4.1.fRaw.fAt), .val (.int .i64 x4.1.fRaw.fN), .val (.bool x4.1.fKept)] 108, .var (blk (env7 6)) [.sl 5 (List.map e_cell_Cell x9.1.fCells), .val (.int .i64 x9.1.fEnd), .val (.bool x9.1.fHidden)] 49]) (by decide +kernel) (by decide +kernel) (fun _ => rfl) (fun _ => rfl) ?_ (fun _ => rfl) (fun _ => rfl) ?_
 · refine oS (d := .agg [.sl 5 (List.map e_cell_Cell x8.fCells), .val (.int .i64 x8.fEnd), .val (.bool x8.fHidden)]) (fun _ => Want.plain rfl) (fun _ => rfl) (fun _ _ _ => rfl) (fun _ _ => OpR.call0 fn36 (row_Fresh_c hx8) rfl) (fun _ _ _ _ _ _ _ => rfl) ?_
   refine oS (d := .agg [.sl 2 (List.map e_arena_Span x4.1.fText.fL), .val (.int .i64 x4.1.fText.fN), .val (.int .i64 x4.1.fRaw.fAt), .val (.int .i64 x4.1.fRaw.fN), .val (.bool x4.1.fKept)]) (fun _ => Want.plain rfl) (fun _ => rfl) (fun _ _ _ => rfl) (fun _ _ => OpR.loadPtr 3 rfl rfl rfl rfl) (fun _ _ _ _ _ _ _ => rfl) ?_
   refine oS (d := .tup [.agg [.sl 5 (List.map e_cell_Cell x9.1.fCells), .val (.int .i64 x9.1.fEnd), .val (.bool x9.1.fHidden)], .val (.int .i64 x9.2)]) (fun _ => Want.plain rfl) (fun _ => rfl) (fun _ _ _ => rfl) (fun _ _ => OpR.call0 fn74 (row_Row_Set_c hx9) rfl) (fun _ _ _ _ _ _ _ => rfl) ?_
   refine oS (d := .tup [.agg [.sl 5 (List.map e_cell_Cell x9.1.fCells), .val (.int .i64 x9.1.fEnd), .val (.bool x9.1.fHidden)], .val (.int .i64 x9.2)]) (fun _ => Want.plain rfl) (fun _ => rfl) (fun _ _ _ => rfl) (fun _ _ => OpR.pure rfl) (fun _ _ _ _ _ _ _ => rfl) ?_
   refine oS (d := .agg [.sl 5 (List.map e_cell_Cell x9.1.fCells), .val (.int .i64 x9.1.fEnd), .val (.bool x9.1.fHidden)]) (fun _ => Want.plain rfl) (fun _ => rfl) (fun _ _ _ => rfl) (fun _ _ => OpR.pure rfl) (fun _ _ _ _ _ _ _ => rfl) ?_
   refine oS (d := .val (.int .i64 x9.2)) (fun _ => Want.plain rfl) (fun _ => rfl) (fun _ _ _ => rfl) (fun _ _ => OpR.pure rfl) (fun _ _ _ _ _ _ _ => rfl) ?_
   refine OpsS.cons' true ?_ (fun D hA env7 x j hj hD => match j, hj, hD with | 0, _, _ => rfl | 1, _, _ => rfl | 2, _, _ => rfl | 3, _, _ => rfl | 4, _, _ => rfl | 5, _, _ => rfl | 6, hj, _ => absurd rfl hj | 7, _, _ => rfl | 8, _, _ => rfl | _ + 9, _, _ => rfl) ?_
   · intro D env7 hA
     have e7 : D 7 = false := hA.no 7 _ rfl rfl
     exact OpS.yes (o0 := [.var (blk (vn w2 0)) [.val (vn w5 0)] 142, .row (vn w5 0) (List.map byteD x4.2.2) 1 5, .gone, .var (blk p6) [.sl 2 (List.map e_arena_Span x4.1.fText.fL), .val (.int .i64 x4.1.fText.fN), .val (.int .i64 x4.1.fRaw.fAt), .val (.int .i64 x4.1.fRaw.fN), .val (.bool x4.1.fKept)] 108]) (o1 := fun x => [.var (blk (vn w2 0)) [.val (vn w5 0)] 142, .row (vn w5 0) (List.map byteD x4.2.2) 1 5, .gone, .var (blk p6) [.sl 2 (List.map e_arena_Span x4.1.fText.fL), .val (.int .i64 x4.1.fText.fN), .val (.int .i64 x4.1.fRaw.fAt), .val (.int .i64 x4.1.fRaw.fN), .val (.bool x4.1.fKept)] 108, .var (blk x) [.val (.slice none 0 0), .val (.int .i64 0), .val (.bool false)] 49]) (d := fun x => .val (.pointer (some ⟨(blk x), 0, none⟩))) (Want.plain rfl) (by first | rfl | simp only [e7, hA.me, cond_true, cond_false, List.cons_append, List.nil_append, List.append_nil]) (fun x => by first | rfl | simp only [ins_self, ins_ne D (show 6 ≠ 7 by decide), upd_self, e7, hA.me, cond_true, cond_false, List.cons_append, List.nil_append, List.append_nil]) (fun x => rfl) (OpR.alloc rfl rfl (fun _ => rfl))
   refine OpsS.cons' true ?_ (fun _ _ _ _ _ _ _ => rfl) ?_
   · intro D env7 hA
     have e6 : D 6 = true := hA.yes 6 _ rfl rfl
     exact OpS.yes (o0 := [.var (blk (vn w2 0)) [.val (vn w5 0)] 142, .row (vn w5 0) (List.map byteD x4.2.2) 1 5, .gone, .var (blk p6) [.sl 2 (List.map e_arena_Span x4.1.fText.fL), .val (.int .i64 x4.1.fText.fN), .val (.int .i64 x4.1.fRaw.fAt), .val (.int .i64 x4.1.fRaw.fN), .val (.bool x4.1.fKept)] 108, .var (blk (env7 6)) [.val (.slice none 0 0), .val (.int .i64 0), .val (.bool false)] 49]) (o1 := fun x => [.var (blk (vn w2 0)) [.val (vn w5 0)] 142, .row (vn w5 0) (List.map byteD x4.2.2) 1 5, .gone, .var (blk p6) [.sl 2 (List.map e_arena_Span x4.1.fText.fL), .val (.int .i64 x4.1.fText.fN), .val (.int .i64 x4.1.fRaw.fAt), .val (.int .i64 x4.1.fRaw.fN), .val (.bool x4.1.fKept)] 108, .var (blk (env7 6)) [.sl 5 (List.map e_cell_Cell x9.1.fCells), .val (.int .i64 x9.1.fEnd), .val (.bool x9.1.fHidden)] 49]) (d := fun x => .dead) (Want.plain rfl) (by first | rfl | simp only [e6, hA.me, cond_true, cond_false, List.cons_append, List.nil_append, List.append_nil]) (fun x => by first | rfl | simp only [ins_self, ins_ne D (show 7 ≠ 6 by decide), upd_self, upd_ne env7 x (show 7 ≠ 6 by decide), e6, hA.me, cond_true, cond_false, List.cons_append, List.nil_append, List.append_nil]) (fun x => rfl) (OpR.store 4 rfl rfl rfl rfl rfl rfl rfl rfl)
   refine oS (d := .val (.int .i64 x9.2)) (fun _ => Want.plain rfl) (fun _ => rfl) (fun _ _ _ => rfl) (fun _ _ => OpR.pure rfl) (fun _ _ _ _ _ _ _ => rfl) ?_
   exact trivial
 intro env7
 show T X _ _ _
 refine T.seq ?_
 refine T.region ?_
 refine TL.op1 (OpR.loadPtr 4 rfl rfl rfl rfl) rfl ?_
 obtain ⟨x10, hx10, h0⟩ := bnd_some h0
 refine TL.op1 (OpR.call0 fn53 (row_Row_At_c hx10) rfl) rfl ?_
 refine TL.op1 (OpR.pure rfl) rfl ?_
 refine TL.op1 (OpR.pure rfl) rfl ?_
 refine TL.op1 (OpR.pure rfl) rfl ?_
 refine TL.op (OpR.alloc rfl rfl (fun _ => rfl)) rfl (fun p11 => ?_)
 refine TL.op0 (OpR.store 5 rfl rfl rfl rfl rfl rfl rfl rfl) ?_
 refine TL.op1 (OpR.pure rfl) rfl ?_
 refine TL.nil ?_
 show T X _ _ _
 refine T.seq ?_
 obtain ⟨t12, ht12, h0⟩ := bnd_some h0
 refine T.cutC (fun S' => S' = ⟨[(0, .val (.bool t12))], [], 52⟩) (fun _ h => h) ?_ ?_
 rotate_left
 · rintro _ rfl
   show T X _ _ _
   refine T.ret ?_
   obtain rfl := Option.some.inj h0
   exact PostG.retP (ks := []) (Gst.only [0] rfl) undef (ResL.cons (ResV.tmp rfl) ResL.nil) rfl rfl rfl rfl
 refine T.region ?_
 refine TL.op1 (OpR.pure rfl) rfl ?_
 refine TL.op1 (OpR.pure rfl) rfl ?_
 refine TL.op1 (OpR.pure rfl) rfl ?_
 rcases ite_some ht12 with ⟨c13, ht12⟩ | ⟨c13, ht12⟩
 rotate_left
 · refine TL.off rfl rfl rfl rfl (beq_eq_false_iff_ne.2 c13) rfl rfl ?_
   refine TL.off rfl rfl rfl rfl (beq_eq_false_iff_ne.2 c13) rfl rfl ?_
   refine TL.off rfl rfl rfl rfl (beq_eq_false_iff_ne.2 c13) rfl rfl ?_
   refine TL.op1 (OpR.pickF rfl (beq_eq_false_iff_ne.2 c13) rfl) rfl ?_
   refine TL.op1 (OpR.pure rfl) rfl ?_
   refine TL.off rfl rfl rfl rfl rfl rfl rfl ?_
   refine TL.op1 (OpR.pickF rfl rfl rfl) rfl ?_
   refine TL.op1 (OpR.pure rfl) rfl ?_
   refine TL.off rfl rfl rfl rfl rfl rfl rfl ?_
   refine TL.off rfl rfl rfl rfl rfl rfl rfl ?_
   refine TL.op1 (OpR.pickF rfl rfl rfl) rfl ?_
   refine TL.op1 (OpR.pure rfl) rfl ?_
   refine TL.off rfl rfl rfl rfl rfl rfl rfl ?_
   refine TL.off rfl rfl rfl rfl rfl rfl rfl ?_
   refine TL.off rfl rfl rfl rfl rfl rfl rfl ?_
   refine TL.off rfl rfl rfl rfl rfl rfl rfl ?_
   refine TL.off rfl rfl rfl rfl rfl rfl rfl ?_
   refine TL.op1 (OpR.pickF rfl rfl rfl) rfl ?_
   refine TL.op1 (OpR.pure rfl) rfl ?_
   refine TL.nil ?_
   obtain rfl := Option.some.inj ht12
   exact ⟨_, Gst.trans (Gst.only [0] rfl) (Gst.pick [] rfl rfl), rfl⟩
 refine TL.on rfl rfl rfl rfl (beq_iff_eq.2 c13) ?_
 refine TL.op1 (OpR.loadPtr 4 rfl rfl rfl rfl) rfl ?_
 refine TL.on rfl rfl rfl rfl (beq_iff_eq.2 c13) ?_
 obtain ⟨x14, hx14, ht12⟩ := bnd_some ht12
 refine TL.op1 (OpR.call0 fn52 (row_Row_Len_c hx14) rfl) rfl ?_
 refine TL.on rfl rfl rfl rfl (beq_iff_eq.2 c13) ?_
 refine TL.op1 (OpR.pure rfl) rfl ?_
 refine TL.op1 (OpR.pickT rfl (beq_iff_eq.2 c13) rfl) rfl ?_
 refine TL.op1 (OpR.pure rfl) rfl ?_
 rcases ite_some ht12 with ⟨c15, ht12⟩ | ⟨c15, ht12⟩
 rotate_left
 · refine TL.off rfl rfl rfl rfl (beq_eq_false_iff_ne.2 c15) rfl rfl ?_
   refine TL.op1 (OpR.pickF rfl (beq_eq_false_iff_ne.2 c15) rfl) rfl ?_
   refine TL.op1 (OpR.pure rfl) rfl ?_
   refine TL.off rfl rfl rfl rfl rfl rfl rfl ?_
   refine TL.off rfl rfl rfl rfl rfl rfl rfl ?_
   refine TL.op1 (OpR.pickF rfl rfl rfl) rfl ?_
   refine TL.op1 (OpR.pure rfl) rfl ?_
   refine TL.off rfl rfl rfl rfl rfl rfl rfl ?_
   refine TL.off rfl rfl rfl rfl rfl rfl rfl ?_
   refine TL.off rfl rfl rfl rfl rfl rfl rfl ?_
   refine TL.off rfl rfl rfl rfl rfl rfl rfl ?_
   refine TL.off rfl rfl rfl rfl rfl rfl rfl ?_
   refine TL.op1 (OpR.pickF rfl rfl rfl) rfl ?_
   refine TL.op1 (OpR.pure rfl) rfl ?_
   refine TL.nil ?_
   obtain rfl := Option.some.inj ht12
   exact ⟨_, Gst.trans (Gst.only [0] rfl) (Gst.pick [] rfl rfl), rfl⟩
 refine TL.on rfl rfl rfl rfl (beq_iff_eq.2 c15) ?_
 refine TL.op1 (OpR.pure rfl) rfl ?_
 refine TL.op1 (OpR.pickT rfl (beq_iff_eq.2 c15) rfl) rfl ?_
 refine TL.op1 (OpR.pure rfl) rfl ?_
 rcases ite_some ht12 with ⟨c16, ht12⟩ | ⟨c16, ht12⟩
 rotate_left
 · refine TL.off rfl rfl rfl rfl (eq_false_of_ne_true c16) rfl rfl ?_
   refine TL.off rfl rfl rfl rfl (eq_false_of_ne_true c16) rfl rfl ?_
   refine TL.op1 (OpR.pickF rfl (eq_false_of_ne_true c16) rfl) rfl ?_
   refine TL.op1 (OpR.pure rfl) rfl ?_
   refine TL.off rfl rfl rfl rfl rfl rfl rfl ?_
   refine TL.off rfl rfl rfl rfl rfl rfl rfl ?_
   refine TL.off rfl rfl rfl rfl rfl rfl rfl ?_
   refine TL.off rfl rfl rfl rfl rfl rfl rfl ?_
   refine TL.off rfl rfl rfl rfl rfl rfl rfl ?_
   refine TL.op1 (OpR.pickF rfl rfl rfl) rfl ?_
   refine TL.op1 (OpR.pure rfl) rfl ?_
   refine TL.nil ?_
   obtain rfl := Option.some.inj ht12
   exact ⟨_, Gst.trans (Gst.only [0] rfl) (Gst.pick [] rfl rfl), rfl⟩
 refine TL.on rfl rfl rfl rfl (c16) ?_
 refine TL.op1 (OpR.loadPtr 5 rfl rfl rfl rfl) rfl ?_
 refine TL.on rfl rfl rfl rfl (c16) ?_
 obtain ⟨x17, hx17, ht12⟩ := bnd_some ht12
 refine TL.op1 (OpR.call0 fn75 (cell_Cell_Empty_c hx17) rfl) rfl ?_
 refine TL.op1 (OpR.pickT rfl (c16) rfl) rfl ?_
 refine TL.op1 (OpR.pure rfl) rfl ?_
 rcases ite_some ht12 with ⟨c18, ht12⟩ | ⟨c18, ht12⟩
 rotate_left
 · refine TL.off rfl rfl rfl rfl (eq_false_of_ne_true c18) rfl rfl ?_
   refine TL.off rfl rfl rfl rfl (eq_false_of_ne_true c18) rfl rfl ?_
   refine TL.off rfl rfl rfl rfl (eq_false_of_ne_true c18) rfl rfl ?_
   refine TL.off rfl rfl rfl rfl (eq_false_of_ne_true c18) rfl rfl ?_
   refine TL.off rfl rfl rfl rfl (eq_false_of_ne_true c18) rfl rfl ?_
   refine TL.op1 (OpR.pickF rfl (eq_false_of_ne_true c18) rfl) rfl ?_
   refine TL.op1 (OpR.pure rfl) rfl ?_
   refine TL.nil ?_
   obtain rfl := Option.some.inj ht12
   exact ⟨_, Gst.trans (Gst.only [0] rfl) (Gst.pick [] rfl rfl), rfl⟩
 refine TL.on rfl rfl rfl rfl (c18) ?_
 refine TL.op1 (OpR.loadPtr 4 rfl rfl rfl rfl) rfl ?_
 refine TL.on rfl rfl rfl rfl (c18) ?_
 refine TL.op1 (OpR.pure rfl) rfl ?_
 refine TL.on rfl rfl rfl rfl (c18) ?_
 obtain ⟨x19, hx19, ht12⟩ := bnd_some ht12
 refine TL.op1 (OpR.call [0, 1] fn33 (row_Row_Print_c hx19) rfl rfl rfl (fun _ => rfl)) rfl ?_
 refine TL.on rfl rfl rfl rfl (c18) ?_
 refine TL.op1 (OpR.toStr (bs := x19) rfl rfl rfl rfl rfl rfl rfl) rfl ?_
 refine TL.on rfl rfl rfl rfl (c18) ?_
 refine TL.op1 (OpR.cast (OpR.pure rfl) (boolE (strEq _ _))) rfl ?_
 refine TL.op1 (OpR.pickT rfl (c18) rfl) rfl ?_
 refine TL.op1 (OpR.pure rfl) rfl ?_
 refine TL.nil ?_
 obtain rfl := Option.some.inj ht12
 exact ⟨_, Gst.trans (Gst.only [0] rfl) (Gst.pick [] rfl rfl), rfl⟩
noncomputable def law07_Plain (a0 : cell_Cell) (a1 : List UInt8) : Option ref07_Cell :=
  bnd (cell_Cell_Bytes a0 a1) fun x3 =>
  bnd (if a0.fKept = true then
    bnd (arena_Arena_Bytes a0.fRaw a1) fun x6 =>
    some x6
  else
    some [] : Option (List UInt8)) fun t4 =>
  some (⟨x3, t4, a0.fKept⟩ : ref07_Cell)
set_option maxHeartbeats 4000000 in
theorem law07_Plain_c {a0 : cell_Cell} {a1 : List UInt8} {b0 : Nat} {v1 : Value} {res : ref07_Cell} (h0 : law07_Plain a0 a1 = some res) : CallF X 54 [.val (.pointer (some ⟨b0, 0, none⟩)), .agg [.sl 2 (List.map e_arena_Span a0.fText.fL), .val (.int .i64 a0.fText.fN), .val (.int .i64 a0.fRaw.fAt), .val (.int .i64 a0.fRaw.fN), .val (.bool a0.fKept)]] [.var b0 [.val v1] 142, .row v1 (List.map byteD a1) 1 5] (fun x => .agg [.val (.string (bs res.fS)), .val (.string (bs res.fRaw)), .val (.bool res.fKept)]) (fun x => [.var b0 [.val v1] 142, .row v1 (List.map byteD a1) 1 5]) := by
 unfold law07_Plain at h0
 refine CallF.mkG (X := X) Try.func54 rfl rfl Try.ntmps54 rfl rfl ?_
 refine T.seq ?_
 refine T.region ?_
 refine TL.op1 (OpR.boxImm rfl rfl) rfl ?_
 refine TL.op (OpR.alloc rfl rfl (fun _ => rfl)) rfl (fun p1 => ?_)
 refine TL.nil ?_
 show T X _ _ _
 refine T.seq ?_
 obtain ⟨x3, hx3, h0⟩ := bnd_some h0
 refine T.drawS drawsX (fun env2 => [.agg [.sl 2 (List.map e_arena_Span a0.fText.fL), .val (.int .i64 a0.fText.fN), .val (.int .i64 a0.fRaw.fAt), .val (.int .i64 a0.fRaw.fN), .val (.bool a0.fKept)], .val (.pointer (some ⟨b0, 0, none⟩)), .sl 1 (List.map byteD x3), .val (.string (bs x3)), .nod [.val (.bool a0.fKept)], .val (.bool a0.fKept), .agg [.val (.string (bs x3)), .val (.string (bs [])), .val (.bool a0.fKept)], .val (.pointer (some ⟨(blk (env2 7)), 0, none⟩)), .dead]) (fun D env2 => [.var b0 [.val v1] 142, .row v1 (List.map byteD a1) 1 5, .var (blk p1) [.val (.string (bs [])), .val (.string (bs [])), .val (.bool false)] 112] ++ (bif D 7 then [(bif D 8 then .var (blk (env2 7)) [.val (.string (bs x3)), .val (.string (bs [])), .val (.bool a0.fKept)] 112 else .var (blk (env2 7)) [.val (.string (bs [])), .val (.string (bs [])), .val (.bool false)] 112)] else [])) [0, 0, 3, 7, 0, 16, 63, 0, 255] [0, 1, 3, 4, 5, 6, 7, 8, 9, 10, 11, 12] (fun env2 => [.var b0 [.val v1] 142, .row v1 (List.map byteD a1) 1 5, .var (blk p1) [.val (.string (bs [])), .val (.string (bs [])), .val (.bool false)] 112, .var (blk (env2 7)) [.val (.string (bs x3)), .val (.string (bs [])), .val (.bool a0.fKept)] 112]) (by decide +kernel) (by decide +kernel) (fun _ => rfl) (fun _ => rfl) ?_ (fun _ => rfl) (fun _ => rfl) ?_
 rotate_left
 · intro env2
   show T X _ _ _
   refine T.seq ?_
   refine T.seq ?_
   refine T.region ?_
   refine TL.op1 (OpR.pure rfl) rfl ?_
   refine TL.op1 (OpR.pure rfl) rfl ?_
   refine TL.nil ?_
   show T X _ _ _
   obtain ⟨t4, ht4, h0⟩ := bnd_some h0
   refine T.cutC (fun S' => S' = ⟨[(5, .val (.pointer (some ⟨(blk (env2 7)), 0, none⟩))), (4, .val (.pointer (some ⟨(blk p1), 0, none⟩)))], [.var b0 [.val v1] 142, .row v1 (List.map byteD a1) 1 5, .var (blk p1) [.val (.string (bs [])), .val (.string (bs [])), .val (.bool false)] 112, .var (blk (env2 7)) [.val (.string (bs x3)), .val (.string (bs t4)), .val (.bool a0.fKept)] 112], 22⟩) (fun _ h => h) ?_ ?_
   rotate_left
   · rintro _ rfl
     show T X _ _ _
     refine T.seq ?_
     refine T.region ?_
     refine TL.op1 (OpR.loadPtr 3 rfl rfl rfl rfl) rfl ?_
     refine TL.op0 (OpR.store 2 rfl rfl rfl rfl rfl rfl rfl rfl) ?_
     refine TL.nil ?_
     show T X _ _ _
     refine T.ret ?_
     obtain rfl := Option.some.inj h0
     exact PostG.retP (ks := [0, 1]) (Gst.trans (Gst.only [4] rfl) (Gst.pick [0, 1, 2] rfl rfl)) undef (ResL.cons (ResV.var 2 rfl rfl rfl rfl) ResL.nil) rfl rfl rfl rfl
   rcases ite_some ht4 with ⟨c5, ht4⟩ | ⟨c5, ht4⟩
   rotate_left
   · refine T.condF rfl (eq_false_of_ne_true c5) ?_
     refine T.skip ?_
     obtain rfl := Option.some.inj ht4
     exact ⟨_, Gst.only [4, 5] rfl, rfl⟩
   refine T.condT rfl (c5) ?_
   refine T.region ?_
   refine TL.op1 (OpR.pure rfl) rfl ?_
   refine TL.op1 (OpR.pure rfl) rfl ?_
   refine TL.op1 (OpR.pure rfl) rfl ?_
   obtain ⟨x6, hx6, ht4⟩ := bnd_some ht4
   refine TL.op1 (OpR.call [0, 1] fn91 (arena_Arena_Bytes_c hx6) rfl rfl rfl (fun _ => rfl)) rfl ?_
   refine TL.op1 (OpR.toStr (bs := x6) rfl rfl rfl rfl rfl rfl rfl) rfl ?_
   refine TL.op1 (OpR.pure rfl) rfl ?_
   refine TL.op0 (OpR.store 3 rfl rfl rfl rfl rfl rfl rfl rfl) ?_
   refine TL.nil ?_
   obtain rfl := Option.some.inj ht4
   exact ⟨_, Gst.only [4, 5] rfl, rfl⟩
 refine oS (d := .agg [.sl 2 (List.map e_arena_Span a0.fText.fL), .val (.int .i64 a0.fText.fN), .val (.int .i64 a0.fRaw.fAt), .val (.int .i64 a0.fRaw.fN), .val (.bool a0.fKept)]) (fun _ => Want.plain rfl) (fun _ => rfl) (fun _ _ _ => rfl) (fun _ _ => OpR.pure rfl) (fun _ _ _ _ _ _ _ => rfl) ?_
 refine oS (d := .val (.pointer (some ⟨b0, 0, none⟩))) (fun _ => Want.plain rfl) (fun _ => rfl) (fun _ _ _ => rfl) (fun _ _ => OpR.pure rfl) (fun _ _ _ _ _ _ _ => rfl) ?_
 refine OpsS.cons' true ?_ (fun _ _ _ _ _ _ _ => rfl) ?_
 · intro D env2 hA
   have e8 : D 8 = false := hA.no 8 _ rfl rfl
   rcases Bool.eq_false_or_eq_true (D 7) with e7 | e7
   rotate_left
   · exact OpS.yes (o0 := [.var b0 [.val v1] 142, .row v1 (List.map byteD a1) 1 5, .var (blk p1) [.val (.string (bs [])), .val (.string (bs [])), .val (.bool false)] 112]) (o1 := fun x => [.var b0 [.val v1] 142, .row v1 (List.map byteD a1) 1 5, .var (blk p1) [.val (.string (bs [])), .val (.string (bs [])), .val (.bool false)] 112]) (d := fun x => .sl 1 (List.map byteD x3)) (Want.plain rfl) (by first | rfl | simp only [e8, e7, cond_true, cond_false, List.cons_append, List.nil_append, List.append_nil]) (fun x => by first | rfl | simp only [ins_self, ins_ne D (show 2 ≠ 7 by decide), ins_ne D (show 2 ≠ 8 by decide), upd_self, upd_ne env2 x (show 2 ≠ 7 by decide), e8, e7, cond_true, cond_false, List.cons_append, List.nil_append, List.append_nil]) (fun x => rfl) (OpR.call [0, 1] fn102 (cell_Cell_Bytes_c hx3) rfl rfl rfl (fun _ => rfl))
   exact OpS.yes (o0 := [.var b0 [.val v1] 142, .row v1 (List.map byteD a1) 1 5, .var (blk p1) [.val (.string (bs [])), .val (.string (bs [])), .val (.bool false)] 112, .var (blk (env2 7)) [.val (.string (bs [])), .val (.string (bs [])), .val (.bool false)] 112]) (o1 := fun x => [.var b0 [.val v1] 142, .row v1 (List.map byteD a1) 1 5, .var (blk p1) [.val (.string (bs [])), .val (.string (bs [])), .val (.bool false)] 112, .var (blk (env2 7)) [.val (.string (bs [])), .val (.string (bs [])), .val (.bool false)] 112]) (d := fun x => .sl 1 (List.map byteD x3)) (Want.plain rfl) (by first | rfl | simp only [e8, e7, cond_true, cond_false, List.cons_append, List.nil_append, List.append_nil]) (fun x => by first | rfl | simp only [ins_self, ins_ne D (show 2 ≠ 7 by decide), ins_ne D (show 2 ≠ 8 by decide), upd_self, upd_ne env2 x (show 2 ≠ 7 by decide), e8, e7, cond_true, cond_false, List.cons_append, List.nil_append, List.append_nil]) (fun x => rfl) (OpR.call [0, 1] fn102 (cell_Cell_Bytes_c hx3) rfl rfl rfl (fun _ => rfl))
 refine oS (d := .val (.string (bs x3))) (fun _ => Want.plain rfl) (fun _ => rfl) (fun _ _ _ => rfl) (fun _ _ => OpR.toStr (bs := x3) rfl rfl rfl rfl rfl rfl rfl) (fun _ _ _ _ _ _ _ => rfl) ?_
 refine oS (d := .nod [.val (.bool a0.fKept)]) (fun _ => Want.plain rfl) (fun _ => rfl) (fun _ _ _ => rfl) (fun _ _ => OpR.pure rfl) (fun _ _ _ _ _ _ _ => rfl) ?_
 refine oS (d := .val (.bool a0.fKept)) (fun _ => Want.plain rfl) (fun _ => rfl) (fun _ _ _ => rfl) (fun _ _ => OpR.pure rfl) (fun _ _ _ _ _ _ _ => rfl) ?_
 refine oS (d := .agg [.val (.string (bs x3)), .val (.string (bs [])), .val (.bool a0.fKept)]) (fun _ => Want.plain rfl) (fun _ => rfl) (fun _ _ _ => rfl) (fun _ _ => OpR.build rfl rfl rfl rfl rfl) (fun _ _ _ _ _ _ _ => rfl) ?_
 refine OpsS.cons' true ?_ (fun D hA env2 x j hj hD => match j, hj, hD with | 0, _, _ => rfl | 1, _, _ => rfl | 2, _, _ => rfl | 3, _, _ => rfl | 4, _, _ => rfl | 5, _, _ => rfl | 6, _, _ => rfl | 7, hj, _ => absurd rfl hj | 8, _, _ => rfl | _ + 9, _, _ => rfl) ?_
 · intro D env2 hA
   have e8 : D 8 = false := hA.no 8 _ rfl rfl
   exact OpS.yes (o0 := [.var b0 [.val v1] 142, .row v1 (List.map byteD a1) 1 5, .var (blk p1) [.val (.string (bs [])), .val (.string (bs [])), .val (.bool false)] 112]) (o1 := fun x => [.var b0 [.val v1] 142, .row v1 (List.map byteD a1) 1 5, .var (blk p1) [.val (.string (bs [])), .val (.string (bs [])), .val (.bool false)] 112, .var (blk x) [.val (.string (bs [])), .val (.string (bs [])), .val (.bool false)] 112]) (d := fun x => .val (.pointer (some ⟨(blk x), 0, none⟩))) (Want.plain rfl) (by first | rfl | simp only [e8, hA.me, cond_true, cond_false, List.cons_append, List.nil_append, List.append_nil]) (fun x => by first | rfl | simp only [ins_self, ins_ne D (show 7 ≠ 8 by decide), upd_self, e8, hA.me, cond_true, cond_false, List.cons_append, List.nil_append, List.append_nil]) (fun x => rfl) (OpR.alloc rfl rfl (fun _ => rfl))
 refine OpsS.cons' true ?_ (fun _ _ _ _ _ _ _ => rfl) ?_
 · intro D env2 hA
   have e7 : D 7 = true := hA.yes 7 _ rfl rfl
   exact OpS.yes (o0 := [.var b0 [.val v1] 142, .row v1 (List.map byteD a1) 1 5, .var (blk p1) [.val (.string (bs [])), .val (.string (bs [])), .val (.bool false)] 112, .var (blk (env2 7)) [.val (.string (bs [])), .val (.string (bs [])), .val (.bool false)] 112]) (o1 := fun x => [.var b0 [.val v1] 142, .row v1 (List.map byteD a1) 1 5, .var (blk p1) [.val (.string (bs [])), .val (.string (bs [])), .val (.bool false)] 112, .var (blk (env2 7)) [.val (.string (bs x3)), .val (.string (bs [])), .val (.bool a0.fKept)] 112]) (d := fun x => .dead) (Want.plain rfl) (by first | rfl | simp only [e7, hA.me, cond_true, cond_false, List.cons_append, List.nil_append, List.append_nil]) (fun x => by first | rfl | simp only [ins_self, ins_ne D (show 8 ≠ 7 by decide), upd_self, upd_ne env2 x (show 8 ≠ 7 by decide), e7, hA.me, cond_true, cond_false, List.cons_append, List.nil_append, List.append_nil]) (fun x => rfl) (OpR.store 3 rfl rfl rfl rfl rfl rfl rfl rfl)
 exact trivial
noncomputable def law08_Plain.l1 (a0 : row_Row) (a1 : List UInt8) (s6 : Int × (List ref07_Cell)) : Option (Lp (Int × (List ref07_Cell)) (List ref07_Cell)) :=
  if s6.1 < (a0.fCells.length : Int) then
    bnd (idx a0.fCells s6.1) fun x15 =>
    bnd (law07_Plain x15 a1) fun x18 =>
    bnd (app 40 s6.2 [x18]) fun x19 =>
    some (Lp.next (w64 (s6.1 + 1), x19))
  else
    some (Lp.done s6.2)
noncomputable def law08_Plain (a0 : row_Row) (a1 : List UInt8) : Option ref08_Row :=
  bnd (loop (law08_Plain.l1 a0 a1) (0, []) : Option (List ref07_Cell)) fun t3 =>
  some (⟨t3, a0.fEnd, a0.fHidden⟩ : ref08_Row)
set_option maxHeartbeats 4000000 in
theorem law08_Plain_c {a0 : row_Row} {a1 : List UInt8} {b0 : Nat} {v1 : Value} {res : ref08_Row} (h0 : law08_Plain a0 a1 = some res) : CallF X 31 [.val (.pointer (some ⟨b0, 0, none⟩)), .agg [.sl 5 (List.map e_cell_Cell a0.fCells), .val (.int .i64 a0.fEnd), .val (.bool a0.fHidden)]] [.var b0 [.val v1] 142, .row v1 (List.map byteD a1) 1 5] (fun x => .agg [.sl 3 (List.map e_ref07_Cell res.fCells), .val (.int .i64 res.fEnd), .val (.bool res.fHidden)]) (fun x => [.var b0 [.val v1] 142, .row v1 (List.map byteD a1) 1 5]) := by
 unfold law08_Plain at h0
 refine CallF.mkG (X := X) Try.func31 rfl rfl Try.ntmps31 rfl rfl ?_
 refine T.seq ?_
 refine T.region ?_
 refine TL.op1 (OpR.boxImm rfl rfl) rfl ?_
 refine TL.op (OpR.alloc rfl rfl (fun _ => rfl)) rfl (fun p1 => ?_)
 refine TL.nil ?_
 show T X _ _ _
 refine T.seq ?_
 refine T.region ?_
 refine TL.op1 (OpR.pure rfl) rfl ?_
 refine TL.op1 (OpR.pure rfl) rfl ?_
 refine TL.op1 (OpR.pure rfl) rfl ?_
 refine TL.op1 (OpR.pure rfl) rfl ?_
 refine TL.op1 (OpR.build rfl rfl rfl rfl rfl) rfl ?_
 refine TL.op (OpR.alloc rfl rfl (fun _ => rfl)) rfl (fun p2 => ?_)
 refine TL.op0 (OpR.store 3 rfl rfl rfl rfl rfl rfl rfl rfl) ?_
 refine TL.nil ?_
 show T X _ _ _
 refine T.seq ?_
 refine T.seq ?_
 refine T.region ?_
 refine TL.op1 (OpR.pure rfl) rfl ?_
 refine TL.op1 (OpR.pure rfl) rfl ?_
 refine TL.op1 (OpR.cast (OpR.pure rfl) (intE (lenM _ _))) rfl ?_
 refine TL.op1 (OpR.pure rfl) rfl ?_
 refine TL.nil ?_
 show T X _ _ _
 obtain ⟨t3, ht3, h0⟩ := bnd_some h0
 refine T.cutC (fun S' => ∃ y4 : Value, S' = ⟨[(5, .val (.pointer (some ⟨(blk p2), 0, none⟩))), (4, .val (.pointer (some ⟨(blk p1), 0, none⟩)))], [.var b0 [.val v1] 142, .row v1 (List.map byteD a1) 1 5, .var (blk p1) [.val (.slice none 0 0), .val (.int .i64 0), .val (.bool false)] 57, .var (blk p2) [.val y4, .val (.int .i64 a0.fEnd), .val (.bool a0.fHidden)] 57, .row y4 (List.map e_ref07_Cell t3) 3 112], 30⟩) (fun _ h => h) ?_ ?_
 rotate_left
 · rintro _ ⟨y4, rfl⟩
   show T X _ _ _
   refine T.seq ?_
   refine T.region ?_
   refine TL.op1 (OpR.loadPtr 3 rfl rfl rfl rfl) rfl ?_
   refine TL.op0 (OpR.store 2 rfl rfl rfl rfl rfl rfl rfl rfl) ?_
   refine TL.nil ?_
   show T X _ _ _
   refine T.ret ?_
   obtain rfl := Option.some.inj h0
   exact PostG.retP (ks := [0, 1]) (Gst.trans (Gst.only [4] rfl) (Gst.trans (Gst.freezeRow 4 rfl rfl (ReS.cons Re.refl ReS.nil) (ReO.same (ReO.same (ReO.var (ReL.cons (Re.base .all) (ReL.cons Re.refl (ReL.cons Re.refl ReL.nil))) (ReO.var (ReL.cons (Re.base .all) (ReL.cons Re.refl (ReL.cons Re.refl ReL.nil))) (ReO.same ReO.nil)))))) (Gst.pick [0, 1, 2] rfl rfl))) undef (ResL.cons (ResV.var 2 rfl rfl rfl rfl) ResL.nil) rfl rfl rfl rfl
 refine T.block ?_
 obtain ⟨n7, n12⟩ := loop_some ht3
 refine T.loop (fun n S' => ∃ S'', Gst S' S'' ∧ ∃ y5 : Value, ∃ s6 : Int × (List ref07_Cell), S'' = ⟨[(16, .val (.int .i64 s6.1)), (15, .val (.int .i64 (a0.fCells.length : Int))), (14, .sl 5 (List.map e_cell_Cell a0.fCells)), (5, .val (.pointer (some ⟨(blk p2), 0, none⟩))), (4, .val (.pointer (some ⟨(blk p1), 0, none⟩))), (0, .val (.pointer (some ⟨b0, 0, none⟩)))], [.var b0 [.val v1] 142, .row v1 (List.map byteD a1) 1 5, .var (blk p1) [.val (.slice none 0 0), .val (.int .i64 0), .val (.bool false)] 57, .var (blk p2) [.val y5, .val (.int .i64 a0.fEnd), .val (.bool a0.fHidden)] 57, .row y5 (List.map e_ref07_Cell s6.2) 3 112], 30⟩ ∧ iter (law08_Plain.l1 a0 a1) n s6 = some t3) n7 ?_ ?_
 · exact ⟨_, Gst.trans (Gst.only [0, 4, 5, 14, 15, 16] rfl) (Gst.nilRow (ow := [.var b0 [.val v1] 142, .row v1 (List.map byteD a1) 1 5, .var (blk p1) [.val (.slice none 0 0), .val (.int .i64 0), .val (.bool false)] 57, .var (blk p2) [.val (.slice none 0 0), .val (.int .i64 a0.fEnd), .val (.bool a0.fHidden)] 57]) 3 112 rfl), (.slice none 0 0), (0, []), rfl, n12⟩
 rintro n7 _ ⟨_, g, y5, s6, rfl, i11⟩
 refine T.ghost g ?_
 obtain ⟨m8, q9, rfl, q10, i11⟩ := iter_succ i11
 unfold law08_Plain.l1 at q10
 refine T.seq ?_
 refine T.region ?_
 refine TL.op1 (OpR.pure rfl) rfl ?_
 refine TL.nil ?_
 show T X _ _ _
 refine T.seq ?_
 rcases ite_some q10 with ⟨c14, q10⟩ | ⟨c14, q10⟩
 rotate_left
 · refine T.condF rfl (decide_eq_false c14) ?_
   refine T.exit ?_
   obtain rfl := Option.some.inj q10
   obtain rfl : _ = _ := i11
   exact ⟨_, Gst.only [4, 5] rfl, y5, rfl⟩
 refine T.condT rfl (decide_eq_true c14) ?_
 refine T.skip ?_
 show T X _ _ _
 refine T.seq ?_
 refine T.block ?_
 refine T.seq ?_
 refine T.region ?_
 obtain ⟨x15, hx15, q10⟩ := bnd_some q10
 refine TL.op1 (OpR.indexM e_cell_Cell hx15 rfl rfl rfl rfl rfl) rfl ?_
 refine TL.op1 (OpR.pure rfl) rfl ?_
 refine TL.op (OpR.alloc rfl rfl (fun _ => rfl)) rfl (fun p16 => ?_)
 refine TL.op0 (OpR.store 5 rfl rfl rfl rfl rfl rfl rfl rfl) ?_
 refine TL.nil ?_
 show T X _ _ _
 obtain ⟨x18, hx18, q10⟩ := bnd_some q10
 obtain ⟨x19, hx19, q10⟩ := bnd_some q10
 refine T.drawS drawsX (fun env17 => [.val (.pointer (some ⟨(blk p2), 0, none⟩)), .val y5, .val (.pointer (some ⟨b0, 0, none⟩)), .agg [.sl 2 (List.map e_arena_Span x15.fText.fL), .val (.int .i64 x15.fText.fN), .val (.int .i64 x15.fRaw.fAt), .val (.int .i64 x15.fRaw.fN), .val (.bool x15.fKept)], .agg [.val (.string (bs x18.fS)), .val (.string (bs x18.fRaw)), .val (.bool x18.fKept)], .sl 3 (List.map e_ref07_Cell [x18]), .val (env17 6), .val (.pointer (some ⟨(blk p2), 0, none⟩)), .dead]) (fun D env17 => [.var b0 [.val v1] 142, .row v1 (List.map byteD a1) 1 5, .var (blk p1) [.val (.slice none 0 0), .val (.int .i64 0), .val (.bool false)] 57, (bif D 8 then .var (blk p2) [.val (env17 6), .val (.int .i64 a0.fEnd), .val (.bool a0.fHidden)] 57 else .var (blk p2) [.val y5, .val (.int .i64 a0.fEnd), .val (.bool a0.fHidden)] 57), (bif D 6 then .row (env17 6) (List.map e_ref07_Cell x19) 3 112 else .row y5 (List.map e_ref07_Cell s6.2) 3 112), .var (blk p16) [.sl 2 (List.map e_arena_Span x15.fText.fL), .val (.int .i64 x15.fText.fN), .val (.int .i64 x15.fRaw.fAt), .val (.int .i64 x15.fRaw.fN), .val (.bool x15.fKept)] 108]) [0, 1, 0, 0, 12, 28, 63, 127, 255] [0, 4, 5, 7, 14, 15, 16, 17, 18, 19, 20, 21, 22, 23, 24, 25, 26, 27] (fun env17 => [.var b0 [.val v1] 142, .row v1 (List.map byteD a1) 1 5, .var (blk p1) [.val (.slice none 0 0), .val (.int .i64 0), .val (.bool false)] 57, .var (blk p2) [.val (env17 6), .val (.int .i64 a0.fEnd), .val (.bool a0.fHidden)] 57, .row (env17 6) (List.map e_ref07_Cell x19) 3 112, .var (blk p16) [.sl 2 (List.map e_arena_Span x15.fText.fL), .val (.int .i64 x15.fText.fN), .val (.int .i64 x15.fRaw.fAt), .val (.int .i64 x15.fRaw.fN), .val (.bool x15.fKept)] 108]) (by decide +kernel) (by decide +kernel) (fun _ => rfl) (fun _ => rfl) ?_ (fun _ => rfl) (fun _ => rfl) ?_
 rotate_left
 · intro env17
   show T X _ _ _
   refine T.region ?_
   refine TL.op1 (OpR.pure rfl) rfl ?_
   refine TL.op1 (OpR.pure rfl) rfl ?_
   refine TL.nil ?_
   obtain rfl := Option.some.inj q10
   exact ⟨m8, Nat.lt_succ_self _, _, Gst.trans (Gst.only [0, 4, 5, 14, 15, 16] rfl) (Gst.pick [0, 1, 2, 3, 4] rfl rfl), (env17 6), (w64 (s6.1 + 1), x19), rfl, i11⟩
 refine oS (d := .val (.pointer (some ⟨(blk p2), 0, none⟩))) (fun _ => Want.plain rfl) (fun _ => rfl) (fun _ _ _ => rfl) (fun _ _ => OpR.pure rfl) (fun _ _ _ _ _ _ _ => rfl) ?_
 refine OpsS.cons' true ?_ (fun _ _ _ _ _ _ _ => rfl) ?_
 · intro D env17 hA
   have e6 : D 6 = false := hA.no 6 _ rfl rfl
   have e8 : D 8 = false := hA.no 8 _ rfl rfl
   exact OpS.yes (o0 := [.var b0 [.val v1] 142, .row v1 (List.map byteD a1) 1 5, .var (blk p1) [.val (.slice none 0 0), .val (.int .i64 0), .val (.bool false)] 57, .var (blk p2) [.val y5, .val (.int .i64 a0.fEnd), .val (.bool a0.fHidden)] 57, .row y5 (List.map e_ref07_Cell s6.2) 3 112, .var (blk p16) [.sl 2 (List.map e_arena_Span x15.fText.fL), .val (.int .i64 x15.fText.fN), .val (.int .i64 x15.fRaw.fAt), .val (.int .i64 x15.fRaw.fN), .val (.bool x15.fKept)] 108]) (o1 := fun x => [.var b0 [.val v1] 142, .row v1 (List.map byteD a1) 1 5, .var (blk p1) [.val (.slice none 0 0), .val (.int .i64 0), .val (.bool false)] 57, .var (blk p2) [.val y5, .val (.int .i64 a0.fEnd), .val (.bool a0.fHidden)] 57, .row y5 (List.map e_ref07_Cell s6.2) 3 112, .var (blk p16) [.sl 2 (List.map e_arena_Span x15.fText.fL), .val (.int .i64 x15.fText.fN), .val (.int .i64 x15.fRaw.fAt), .val (.int .i64 x15.fRaw.fN), .val (.bool x15.fKept)] 108]) (d := fun x => .val y5) (Want.plain rfl) (by first | rfl | simp only [e6, e8, cond_true, cond_false, List.cons_append, List.nil_append, List.append_nil]) (fun x => by first | rfl | simp only [ins_self, ins_ne D (show 1 ≠ 6 by decide), ins_ne D (show 1 ≠ 8 by decide), upd_self, upd_ne env17 x (show 1 ≠ 6 by decide), e6, e8, cond_true, cond_false, List.cons_append, List.nil_append, List.append_nil]) (fun x => rfl) (OpR.loadPtr 3 rfl rfl rfl rfl)
 refine oS (d := .val (.pointer (some ⟨b0, 0, none⟩))) (fun _ => Want.plain rfl) (fun _ => rfl) (fun _ _ _ => rfl) (fun _ _ => OpR.pure rfl) (fun _ _ _ _ _ _ _ => rfl) ?_
 refine oS (d := .agg [.sl 2 (List.map e_arena_Span x15.fText.fL), .val (.int .i64 x15.fText.fN), .val (.int .i64 x15.fRaw.fAt), .val (.int .i64 x15.fRaw.fN), .val (.bool x15.fKept)]) (fun _ => Want.plain rfl) (fun _ => rfl) (fun _ _ _ => rfl) (fun _ _ => OpR.loadPtr 5 rfl rfl rfl rfl) (fun _ _ _ _ _ _ _ => rfl) ?_
 refine OpsS.cons' true ?_ (fun _ _ _ _ _ _ _ => rfl) ?_
 · intro D env17 hA
   have e6 : D 6 = false := hA.no 6 _ rfl rfl
   have e8 : D 8 = false := hA.no 8 _ rfl rfl
   exact OpS.yes (o0 := [.var b0 [.val v1] 142, .row v1 (List.map byteD a1) 1 5, .var (blk p1) [.val (.slice none 0 0), .val (.int .i64 0), .val (.bool false)] 57, .var (blk p2) [.val y5, .val (.int .i64 a0.fEnd), .val (.bool a0.fHidden)] 57, .row y5 (List.map e_ref07_Cell s6.2) 3 112, .var (blk p16) [.sl 2 (List.map e_arena_Span x15.fText.fL), .val (.int .i64 x15.fText.fN), .val (.int .i64 x15.fRaw.fAt), .val (.int .i64 x15.fRaw.fN), .val (.bool x15.fKept)] 108]) (o1 := fun x => [.var b0 [.val v1] 142, .row v1 (List.map byteD a1) 1 5, .var (blk p1) [.val (.slice none 0 0), .val (.int .i64 0), .val (.bool false)] 57, .var (blk p2) [.val y5, .val (.int .i64 a0.fEnd), .val (.bool a0.fHidden)] 57, .row y5 (List.map e_ref07_Cell s6.2) 3 112, .var (blk p16) [.sl 2 (List.map e_arena_Span x15.fText.fL), .val (.int .i64 x15.fText.fN), .val (.int .i64 x15.fRaw.fAt), .val (.int .i64 x15.fRaw.fN), .val (.bool x15.fKept)] 108]) (d := fun x => .agg [.val (.string (bs x18.fS)), .val (.string (bs x18.fRaw)), .val (.bool x18.fKept)]) (Want.plain rfl) (by first | rfl | simp only [e6, e8, cond_true, cond_false, List.cons_append, List.nil_append, List.append_nil]) (fun x => by first | rfl | simp only [ins_self, ins_ne D (show 4 ≠ 6 by decide), ins_ne D (show 4 ≠ 8 by decide), upd_self, upd_ne env17 x (show 4 ≠ 6 by decide), e6, e8, cond_true, cond_false, List.cons_append, List.nil_append, List.append_nil]) (fun x => rfl) (OpR.call [0, 1] fn54 (law07_Plain_c hx18) rfl rfl rfl (fun _ => rfl))
 refine oS (d := .sl 3 (List.map e_ref07_Cell [x18])) (fun _ => Want.plain rfl) (fun _ => rfl) (fun _ _ _ => rfl) (fun _ _ => OpR.lit rfl rfl rfl rfl rfl rfl rfl) (fun _ _ _ _ _ _ _ => rfl) ?_
 refine OpsS.cons' true ?_ (fun D hA env17 x j hj hD => match j, hj, hD with | 0, _, _ => rfl | 1, _, _ => rfl | 2, _, _ => rfl | 3, _, _ => rfl | 4, _, _ => rfl | 5, _, _ => rfl | 6, hj, _ => absurd rfl hj | 7, _, _ => rfl | 8, _, _ => rfl | _ + 9, _, _ => rfl) ?_
 · intro D env17 hA
   have e8 : D 8 = false := hA.no 8 _ rfl rfl
   exact OpS.yes (o0 := [.var b0 [.val v1] 142, .row v1 (List.map byteD a1) 1 5, .var (blk p1) [.val (.slice none 0 0), .val (.int .i64 0), .val (.bool false)] 57, .var (blk p2) [.val y5, .val (.int .i64 a0.fEnd), .val (.bool a0.fHidden)] 57, .row y5 (List.map e_ref07_Cell s6.2) 3 112, .var (blk p16) [.sl 2 (List.map e_arena_Span x15.fText.fL), .val (.int .i64 x15.fText.fN), .val (.int .i64 x15.fRaw.fAt), .val (.int .i64 x15.fRaw.fN), .val (.bool x15.fKept)] 108]) (o1 := fun x => [.var b0 [.val v1] 142, .row v1 (List.map byteD a1) 1 5, .var (blk p1) [.val (.slice none 0 0), .val (.int .i64 0), .val (.bool false)] 57, .var (blk p2) [.val y5, .val (.int .i64 a0.fEnd), .val (.bool a0.fHidden)] 57, .row x (List.map e_ref07_Cell x19) 3 112, .var (blk p16) [.sl 2 (List.map e_arena_Span x15.fText.fL), .val (.int .i64 x15.fText.fN), .val (.int .i64 x15.fRaw.fAt), .val (.int .i64 x15.fRaw.fN), .val (.bool x15.fKept)] 108]) (d := fun x => .val x) (Want.plain rfl) (by first | rfl | simp only [e8, hA.me, cond_true, cond_false, List.cons_append, List.nil_append, List.append_nil]) (fun x => by first | rfl | simp only [ins_self, ins_ne D (show 6 ≠ 8 by decide), upd_self, e8, hA.me, cond_true, cond_false, List.cons_append, List.nil_append, List.append_nil]) (fun x => rfl) (OpR.appendM (m := [x18]) e_ref07_Cell 4 hx19 rfl rfl rfl rfl rfl rfl rfl rfl rfl (fun _ => rfl))
 refine oS (d := .val (.pointer (some ⟨(blk p2), 0, none⟩))) (fun _ => Want.plain rfl) (fun _ => rfl) (fun _ _ _ => rfl) (fun _ _ => OpR.pure rfl) (fun _ _ _ _ _ _ _ => rfl) ?_
 refine OpsS.cons' true ?_ (fun _ _ _ _ _ _ _ => rfl) ?_
 · intro D env17 hA
   have e6 : D 6 = true := hA.yes 6 _ rfl rfl
   exact OpS.yes (o0 := [.var b0 [.val v1] 142, .row v1 (List.map byteD a1) 1 5, .var (blk p1) [.val (.slice none 0 0), .val (.int .i64 0), .val (.bool false)] 57, .var (blk p2) [.val y5, .val (.int .i64 a0.fEnd), .val (.bool a0.fHidden)] 57, .row (env17 6) (List.map e_ref07_Cell x19) 3 112, .var (blk p16) [.sl 2 (List.map e_arena_Span x15.fText.fL), .val (.int .i64 x15.fText.fN), .val (.int .i64 x15.fRaw.fAt), .val (.int .i64 x15.fRaw.fN), .val (.bool x15.fKept)] 108]) (o1 := fun x => [.var b0 [.val v1] 142, .row v1 (List.map byteD a1) 1 5, .var (blk p1) [.val (.slice none 0 0), .val (.int .i64 0), .val (.bool false)] 57, .var (blk p2) [.val (env17 6), .val (.int .i64 a0.fEnd), .val (.bool a0.fHidden)] 57, .row (env17 6) (List.map e_ref07_Cell x19) 3 112, .var (blk p16) [.sl 2 (List.map e_arena_Span x15.fText.fL), .val (.int .i64 x15.fText.fN), .val (.int .i64 x15.fRaw.fAt), .val (.int .i64 x15.fRaw.fN), .val (.bool x15.fKept)] 108]) (d := fun x => .dead) (Want.plain rfl) (by first | rfl | simp only [e6, hA.me, cond_true, cond_false, List.cons_append, List.nil_append, List.append_nil]) (fun x => by first | rfl | simp only [ins_self, ins_ne D (show 8 ≠ 6 by decide), upd_self, upd_ne env17 x (show 8 ≠ 6 by decide), e6, hA.me, cond_true, cond_false, List.cons_append, List.nil_append, List.append_nil]) (fun x => rfl) (OpR.store 3 rfl rfl rfl rfl rfl rfl rfl rfl)
 exact trivial
end Go.Proofs.Ytbcbggdgkdfciaa.S
