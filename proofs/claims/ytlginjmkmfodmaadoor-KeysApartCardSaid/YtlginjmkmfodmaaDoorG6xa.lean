/- Printed by a program of this session's own (gen.py): Lean functions for Go functions, and the proofs that the Go code comes to their answers. -/
import Derived.Test.YtlginjmkmfodmaaDoorG1xa
set_option maxHeartbeats 4000000
set_option linter.unusedVariables false
set_option linter.unusedSimpArgs false
set_option maxRecDepth 20000
namespace Go.Proofs.YtlginjmkmfodmaaDoor.S
open Go Go.Sm
attribute [local irreducible] T TL OpR CallT iter loop
noncomputable def keys_Parse_2.l1 (a0 : List UInt8) (s6 : Int × (List Int) × Int) : Option (Lp (Int × (List Int) × Int) (Ex (List Int) (Int × (List Int)))) :=
  if s6.2.2.toNat < a0.length then
    if (s6.2.2.toNat : Int) < s6.1 then
      some (Lp.next (s6.1, s6.2.1, (sNext a0 s6.2.2)))
    else
      bnd (if (sRune a0 s6.2.2) = 60 then
        bnd (cut a0 (s6.2.2.toNat : Int) (a0.length : Int)) fun x18 =>
        bnd (keys_named x18) fun x19 =>
        some (x19.1, x19.2)
      else
        bnd (bnd (utf_Rune a0 (s6.2.2.toNat : Int)) fun x21 =>
        if x21 = (w64 (sRune a0 s6.2.2)) then
          bnd (keys_Types (w64 (sRune a0 s6.2.2))) fun x23 =>
          some (!x23)
        else
          some true : Option Bool) fun t20 =>
        if t20 = true then
          some (0, 0)
        else
          some (w64 (sRune a0 s6.2.2), 0) : Option (Int × Int)) fun t16 =>
      if t16.1 = 0 then
        some (Lp.done (Ex.ret (3, [])))
      else
        bnd (app 8 s6.2.1 [t16.1]) fun x26 =>
        some (Lp.next (w64 ((s6.2.2.toNat : Int) + t16.2), x26, (sNext a0 s6.2.2)))
  else
    some (Lp.done (Ex.brk s6.2.1))
noncomputable def keys_Parse_2 (a0 : List UInt8) : Option (Int × (List Int)) :=
  bnd (loop (keys_Parse_2.l1 a0) (0, [], 0) : Option (Ex (List Int) (Int × (List Int)))) fun t2 => match t2 with
    | .brk u3 =>
      some (0, u3)
    | .ret u3 => some u3
theorem keys_Parse_2_c {a0 : List UInt8} {res : Int × (List Int)} (h0 : keys_Parse_2 a0 = some res) : CallF X 8 [.val (.string (bs a0))] [] (fun x => .tup [.val (vn x 0), dN res.1]) (fun x => [.row (vn x 0) (List.map (eI .i64) res.2) 1 3]) := by
 unfold keys_Parse_2 at h0
 refine CallF.mkG (X := X) rfl Tryd.func8 rfl rfl Tryd.ntmps8 rfl rfl ?_
 refine aS ?_
 iterate 2 refine aA rfl rfl ?_
 refine aN rfl ?_
 refine aS ?_
 refine aA rfl rfl ?_
 refine aN rfl ?_
 refine aS ?_
 refine aA rfl rfl ?_
 refine TL.op1 (OpR.toBytesM rfl rfl rfl rfl rfl rfl rfl) rfl ?_
 iterate 2 refine aA rfl rfl ?_
 refine aN rfl ?_
 refine T.seq ?_
 refine aS ?_
 refine aA rfl rfl ?_
 refine TL.op (OpR.rangeStr (s := a0) rfl rfl rfl (fun _ => rfl)) rfl (fun p1 => ?_)
 refine aN rfl ?_
 obtain ⟨t2, ht2, h0⟩ := bS h0
 refine T.cutC (fun S' => ∃ u3, t2 = Ex.brk u3 ∧ ∃ y4 : Value, S' = ⟨[(4, .val y4), (3, (dN 0)), (2, .val (.slice none 0 0))], [.row y4 (List.map (eI .i64) u3) 1 3], 53⟩) (fun _ h => h) ?_ ?_
 rotate_left
 · rintro _ ⟨u3, rfl, y4, rfl⟩
   show T X _ _ _
   refine aS ?_
   iterate 3 refine aA rfl rfl ?_
   refine aN rfl ?_
   refine T.ret ?_
   obtain rfl := Option.some.inj h0
   exact rO [0] [2, 3] rfl (.tuple #[y4]) (cT rfl (cT rfl ResL.nil)) rfl rfl rfl rfl
 refine T.block ?_
 obtain ⟨n7, n12⟩ := loop_some ht2
 refine T.loop (fun n S' => ∃ S'', Gst S' S'' ∧ ∃ y5 : Value, ∃ s6 : Int × (List Int) × Int, S'' = ⟨[(14, (dP (blk p1))), (6, (dN s6.1)), (5, .sl 1 (lB a0)), (4, .val y5), (3, (dN 0)), (2, .val (.slice none 0 0)), (0, .val (.string (bs a0)))], [.row y5 (List.map (eI .i64) s6.2.1) 1 3, .sit (blk p1) a0 s6.2.2], 53⟩ ∧ iter (keys_Parse_2.l1 a0) n s6 = some t2) n7 ?_ ?_
 · exact ⟨_, Gst.trans (Gst.only [0, 2, 3, 4, 5, 6, 14] rfl) (Gst.trans (Gst.nilRow (ow := [.sit (blk p1) a0 0]) 1 3 rfl) (Gst.pick [1, 0] rfl rfl)), (.slice none 0 0), (0, [], 0), rfl, n12⟩
 rintro n7 _ ⟨_, g, y5, s6, rfl, i11⟩
 refine T.ghost g ?_
 obtain ⟨m8, q9, rfl, q10, i11⟩ := iter_succ i11
 unfold keys_Parse_2.l1 at q10
 refine aS ?_
 rcases ite_some q10 with ⟨c14, q10⟩ | ⟨c14, q10⟩
 rotate_left
 · refine TL.op1 (OpR.nextF (s := a0) (i := s6.2.2) 1 rfl rfl c14) rfl ?_
   refine aA rfl rfl ?_
   refine aN rfl ?_
   refine T.seq ?_
   refine T.condF rfl rfl ?_
   refine T.exit ?_
   obtain rfl := Option.some.inj q10
   obtain rfl : _ = _ := i11
   exact ⟨_, gP [2, 3, 4] [0] rfl rfl rfl, _, rfl, y5, rfl⟩
 refine TL.op1 (OpR.nextT (s := a0) (i := s6.2.2) 1 rfl rfl c14 rfl) rfl ?_
 refine aA rfl rfl ?_
 refine aN rfl ?_
 refine T.seq ?_
 refine T.condT rfl rfl ?_
 refine aK rfl ?_
 refine T.block ?_
 refine aS ?_
 iterate 4 refine aA rfl rfl ?_
 refine aN rfl ?_
 refine T.seq ?_
 refine aS ?_
 iterate 3 refine aA rfl rfl ?_
 refine aN rfl ?_
 rcases ite_some q10 with ⟨c15, q10⟩ | ⟨c15, q10⟩
 · refine T.condT rfl (decide_eq_true c15) ?_
   refine T.exit ?_
   obtain rfl := Option.some.inj q10
   exact ⟨m8, Nat.lt_succ_self _, _, Gst.only [0, 2, 3, 4, 5, 6, 14] rfl, y5, (s6.1, s6.2.1, (sNext a0 s6.2.2)), rfl, i11⟩
 refine T.condF rfl (decide_eq_false c15) ?_
 refine aK rfl ?_
 refine aS ?_
 iterate 4 refine aA rfl rfl ?_
 refine aN rfl ?_
 refine T.seq ?_
 refine aS ?_
 iterate 2 refine aA rfl rfl ?_
 refine aN rfl ?_
 obtain ⟨t16, ht16, q10⟩ := bS q10
 refine T.cutC (fun S' => S' = ⟨[(14, (dP (blk p1))), (10, (dN t16.2)), (9, (dN t16.1)), (7, (dN (s6.2.2.toNat : Int))), (6, (dN s6.1)), (5, .sl 1 (lB a0)), (4, .val y5), (3, (dN 0)), (2, .val (.slice none 0 0)), (0, .val (.string (bs a0)))], [.row y5 (List.map (eI .i64) s6.2.1) 1 3, .sit (blk p1) a0 (sNext a0 s6.2.2)], 53⟩) (fun _ h => h) ?_ ?_
 rotate_left
 · rintro _ rfl
   show T X _ _ _
   refine T.seq ?_
   refine aS ?_
   iterate 2 refine aA rfl rfl ?_
   refine aN rfl ?_
   rcases ite_some q10 with ⟨c25, q10⟩ | ⟨c25, q10⟩
   · refine T.condT rfl (beq_iff_eq.2 c25) ?_
     refine aS ?_
     iterate 2 refine aA rfl rfl ?_
     refine aN rfl ?_
     refine T.ret ?_
     obtain rfl := Option.some.inj q10
     obtain rfl : _ = _ := i11
     obtain rfl := Option.some.inj h0
     exact PostG.retP (ks := [0]) (Gst.trans (Gst.only [2, 3] rfl) (Gst.trans (Gst.nilRow (ow := [.row y5 (List.map (eI .i64) s6.2.1) 1 3, .sit (blk p1) a0 (sNext a0 s6.2.2)]) 1 3 rfl) (Gst.pick [2] rfl rfl))) (.tuple #[(.slice none 0 0)]) (cT rfl (cT rfl ResL.nil)) rfl rfl rfl rfl
   refine T.condF rfl (beq_eq_false_iff_ne.2 c25) ?_
   refine aK rfl ?_
   refine aS ?_
   iterate 2 refine aA rfl rfl ?_
   refine TL.op1 (OpR.lit rfl rfl rfl rfl rfl rfl rfl) rfl ?_
   obtain ⟨x26, hx26, q10⟩ := bS q10
   refine TL.op (OpR.appendM (m := [t16.1]) (eI .i64) 0 hx26 rfl rfl rfl rfl rfl rfl rfl rfl rfl (fun _ => rfl)) rfl (fun v27 => ?_)
   refine aA rfl rfl ?_
   refine aN rfl ?_
   refine T.region ?_
   iterate 4 refine aA rfl rfl ?_
   refine TL.nil ?_
   obtain rfl := Option.some.inj q10
   exact ⟨m8, Nat.lt_succ_self _, _, Gst.only [0, 2, 3, 4, 5, 6, 14] rfl, v27, (w64 ((s6.2.2.toNat : Int) + t16.2), x26, (sNext a0 s6.2.2)), rfl, i11⟩
 rcases ite_some ht16 with ⟨c17, ht16⟩ | ⟨c17, ht16⟩
 · refine T.condT rfl (beq_iff_eq.2 c17) ?_
   refine T.region ?_
   iterate 2 refine aA rfl rfl ?_
   obtain ⟨x18, hx18, ht16⟩ := bS ht16
   refine TL.op1 (OpR.sliceS hx18 rfl rfl rfl (BdM.some rfl) BdM.none) rfl ?_
   obtain ⟨x19, hx19, ht16⟩ := bS ht16
   refine TL.op1 (OpR.call0 fn22 (keys_named_c hx19) rfl) rfl ?_
   iterate 5 refine aA rfl rfl ?_
   refine TL.nil ?_
   obtain rfl := Option.some.inj ht16
   exact ⟨_, Gst.only [0, 2, 3, 4, 5, 6, 7, 9, 10, 14] rfl, rfl⟩
 refine T.condF rfl (beq_eq_false_iff_ne.2 c17) ?_
 refine T.seq ?_
 obtain ⟨t20, ht20, ht16⟩ := bS ht16
 refine T.cutC (fun S' => S' = ⟨[(42, (dT t20)), (14, (dP (blk p1))), (10, (dN 0)), (9, (dN (w64 (sRune a0 s6.2.2)))), (7, (dN (s6.2.2.toNat : Int))), (6, (dN s6.1)), (5, .sl 1 (lB a0)), (4, .val y5), (3, (dN 0)), (2, .val (.slice none 0 0)), (0, .val (.string (bs a0)))], [.row y5 (List.map (eI .i64) s6.2.1) 1 3, .sit (blk p1) a0 (sNext a0 s6.2.2)], 53⟩) (fun _ h => h) ?_ ?_
 rotate_left
 · rintro _ rfl
   show T X _ _ _
   rcases ite_some ht16 with ⟨c24, ht16⟩ | ⟨c24, ht16⟩
   rotate_left
   · refine T.condF rfl (eq_false_of_ne_true c24) ?_
     refine T.skip ?_
     obtain rfl := Option.some.inj ht16
     exact ⟨_, Gst.only [0, 2, 3, 4, 5, 6, 7, 9, 10, 14] rfl, rfl⟩
   refine T.condT rfl (c24) ?_
   refine T.region ?_
   refine aA rfl rfl ?_
   refine TL.nil ?_
   obtain rfl := Option.some.inj ht16
   exact ⟨_, Gst.only [0, 2, 3, 4, 5, 6, 7, 9, 10, 14] rfl, rfl⟩
 refine T.region ?_
 iterate 2 refine aA rfl rfl ?_
 obtain ⟨x21, hx21, ht20⟩ := bS ht20
 refine TL.op1 (OpR.call0 fn23 (utf_Rune_c hx21) rfl) rfl ?_
 iterate 3 refine aA rfl rfl ?_
 rcases ite_some ht20 with ⟨c22, ht20⟩ | ⟨c22, ht20⟩
 rotate_left
 · refine TL.off rfl rfl rfl rfl (not_f (beq_eq_false_iff_ne.2 c22)) rfl rfl ?_
   refine TL.off rfl rfl rfl rfl (not_f (beq_eq_false_iff_ne.2 c22)) rfl rfl ?_
   refine TL.off rfl rfl rfl rfl (not_f (beq_eq_false_iff_ne.2 c22)) rfl rfl ?_
   refine TL.op1 (OpR.pickT rfl (not_f (beq_eq_false_iff_ne.2 c22)) rfl) rfl ?_
   refine TL.nil ?_
   obtain rfl := Option.some.inj ht20
   exact ⟨_, Gst.only [0, 2, 3, 4, 5, 6, 7, 9, 10, 14, 42] rfl, rfl⟩
 refine TL.on rfl rfl rfl rfl (not_t (beq_iff_eq.2 c22)) ?_
 refine aA rfl rfl ?_
 refine TL.on rfl rfl rfl rfl (not_t (beq_iff_eq.2 c22)) ?_
 obtain ⟨x23, hx23, ht20⟩ := bS ht20
 refine TL.op1 (OpR.call0 fn16 (keys_Types_c hx23) rfl) rfl ?_
 refine TL.on rfl rfl rfl rfl (not_t (beq_iff_eq.2 c22)) ?_
 refine aA rfl rfl ?_
 refine TL.op1 (OpR.pickF rfl (not_t (beq_iff_eq.2 c22)) rfl) rfl ?_
 refine TL.nil ?_
 obtain rfl := Option.some.inj ht20
 exact ⟨_, Gst.only [0, 2, 3, 4, 5, 6, 7, 9, 10, 14, 42] rfl, rfl⟩
theorem ref09_Same_c_3 {a0 : List Int} {a1 : List Int} {v0 : Value} {v1 : Value} {res : Bool} (h0 : ref09_Same a0 a1 = some res) : CallF X 10 [.val v0, .val v1] [.row v0 (List.map (eI .i64) a0) 1 3, .row v1 (List.map (eI .i64) a1) 1 3] (fun x => (dT res)) (fun x => [.row v0 (List.map (eI .i64) a0) 1 3, .row v1 (List.map (eI .i64) a1) 1 3]) := by
 unfold ref09_Same at h0
 refine CallF.mkG (X := X) rfl Tryd.func10 rfl rfl Tryd.ntmps10 rfl rfl ?_
 refine aS ?_
 refine aA rfl rfl ?_
 refine aN rfl ?_
 refine T.seq ?_
 refine aS ?_
 refine aA rfl rfl ?_
 refine TL.op1 (OpR.rowLenM (eI .i64) 0 rfl rfl rfl rfl) rfl ?_
 refine aA rfl rfl ?_
 refine TL.op1 (OpR.rowLenM (eI .i64) 1 rfl rfl rfl rfl) rfl ?_
 refine aA rfl rfl ?_
 refine aN rfl ?_
 rcases ite_some h0 with ⟨c1, h0⟩ | ⟨c1, h0⟩
 rotate_left
 · refine T.condT rfl (not_f (beq_eq_false_iff_ne.2 c1)) ?_
   refine aS ?_
   refine aA rfl rfl ?_
   refine aN rfl ?_
   refine T.ret ?_
   obtain rfl := Option.some.inj h0
   exact rO [0, 1] [4] rfl undef (cT rfl ResL.nil) rfl rfl rfl rfl
 refine T.condF rfl (not_t (beq_iff_eq.2 c1)) ?_
 refine aK rfl ?_
 refine T.seq ?_
 refine aS ?_
 refine aA rfl rfl ?_
 refine TL.op1 (OpR.rowLenM (eI .i64) 0 rfl rfl rfl rfl) rfl ?_
 refine aA rfl rfl ?_
 refine aN rfl ?_
 obtain ⟨t2, ht2, h0⟩ := bS h0
 refine T.cutC (fun S' => ∃ u3, t2 = Ex.brk u3 ∧ S' = ⟨[(4, (dT false))], [.row v0 (List.map (eI .i64) a0) 1 3, .row v1 (List.map (eI .i64) a1) 1 3], 26⟩) (fun _ h => h) ?_ ?_
 rotate_left
 · rintro _ ⟨u3, rfl, rfl⟩
   show T X _ _ _
   refine aS ?_
   refine aA rfl rfl ?_
   refine aN rfl ?_
   refine T.ret ?_
   obtain rfl := Option.some.inj h0
   exact rO [0, 1] [4] rfl undef (cT rfl ResL.nil) rfl rfl rfl rfl
 refine T.block ?_
 obtain ⟨n5, n10⟩ := loop_some ht2
 refine T.loop (fun n S' => ∃ S'', Gst S' S'' ∧ ∃ s4 : Int, S'' = ⟨[(13, (dN s4)), (12, (dN (a0.length : Int))), (4, (dT false)), (1, .val v1), (0, .val v0)], [.row v0 (List.map (eI .i64) a0) 1 3, .row v1 (List.map (eI .i64) a1) 1 3], 26⟩ ∧ iter (ref09_Same.l1 a0 a1) n s4 = some t2) n5 ?_ ?_
 · exact ⟨_, Gst.only [0, 1, 4, 12, 13] rfl, 0, rfl, n10⟩
 rintro n5 _ ⟨_, g, s4, rfl, i9⟩
 refine T.ghost g ?_
 obtain ⟨m6, q7, rfl, q8, i9⟩ := iter_succ i9
 unfold ref09_Same.l1 at q8
 refine aS ?_
 refine aA rfl rfl ?_
 refine aN rfl ?_
 refine T.seq ?_
 rcases ite_some q8 with ⟨c12, q8⟩ | ⟨c12, q8⟩
 rotate_left
 · refine T.condF rfl (decide_eq_false c12) ?_
   refine T.exit ?_
   obtain rfl := Option.some.inj q8
   obtain rfl : _ = _ := i9
   exact ⟨_, Gst.only [4] rfl, _, rfl, rfl⟩
 refine T.condT rfl (decide_eq_true c12) ?_
 refine aK rfl ?_
 refine T.seq ?_
 refine T.block ?_
 refine aS ?_
 iterate 2 refine aA rfl rfl ?_
 refine aN rfl ?_
 refine T.seq ?_
 obtain ⟨x14, hx14, q8⟩ := bS q8
 obtain ⟨x15, hx15, q8⟩ := bS q8
 refine T.drawQ drawsX [.val v0, dN s4, .val (.pointer (some ⟨blk v0, s4.toNat * 1, none⟩)), dN x14, .val v1, dN s4, .val (.pointer (some ⟨blk v1, s4.toNat * 1, none⟩)), dN x15, dT (!(x14 == x15))] [0, 1, 4, 12, 13, 24] (by decide +kernel) rfl ?_ rfl ?_
 · iterate 2 refine aB rfl rfl rfl ?_
   refine OpsQ.yes (Want.plain rfl) rfl (OpR.rowIndexM (eI .i64) 0 hx14 rfl rfl rfl rfl rfl rfl rfl) ?_
   refine OpsQ.yes (Want.plain rfl) rfl (OpR.rowLoad0M (j := s4) (eI .i64) 0 hx14 rfl rfl rfl rfl) ?_
   iterate 2 refine aB rfl rfl rfl ?_
   refine OpsQ.yes (Want.plain rfl) rfl (OpR.rowIndexM (eI .i64) 1 hx15 rfl rfl rfl rfl rfl rfl rfl) ?_
   refine OpsQ.yes (Want.plain rfl) rfl (OpR.rowLoad0M (j := s4) (eI .i64) 1 hx15 rfl rfl rfl rfl) ?_
   refine aB rfl rfl rfl ?_
   exact OpsQ.nil
 show T X _ _ _
 rcases ite_some q8 with ⟨c16, q8⟩ | ⟨c16, q8⟩
 · refine T.condF rfl (not_t (beq_iff_eq.2 c16)) ?_
   refine aK rfl ?_
   refine T.region ?_
   iterate 2 refine aA rfl rfl ?_
   refine TL.nil ?_
   obtain rfl := Option.some.inj q8
   exact ⟨m6, Nat.lt_succ_self _, _, Gst.only [0, 1, 4, 12, 13] rfl, w64 (s4 + 1), rfl, i9⟩
 refine T.condT rfl (not_f (beq_eq_false_iff_ne.2 c16)) ?_
 refine aS ?_
 refine aA rfl rfl ?_
 refine aN rfl ?_
 refine T.ret ?_
 obtain rfl := Option.some.inj q8
 obtain rfl : _ = _ := i9
 obtain rfl := Option.some.inj h0
 exact rO [0, 1] [4] rfl undef (cT rfl ResL.nil) rfl rfl rfl rfl
noncomputable def law22_KeysApart.l1 (x9 : Int × (List Int)) (s19 : Int × (List Int)) : Option (Lp (Int × (List Int)) (List Int)) :=
  if s19.1 < (x9.2.length : Int) then
    bnd (idx x9.2 s19.1) fun x28 =>
    bnd (app 8 s19.2 [x28]) fun x29 =>
    some (Lp.next (w64 (s19.1 + 1), x29))
  else
    some (Lp.done s19.2)
noncomputable def law22_KeysApart (a0 : List Int) (a1 : List Int) : Option Bool :=
  bnd (if (a0.length : Int) > 100 then
    some true
  else
    some (decide ((a1.length : Int) > 100)) : Option Bool) fun t1 =>
  if t1 = true then
    bnd (law22_awake) fun x4 =>
    some x4
  else
    bnd (keys_Print a0) fun x5 =>
    bnd (keys_Parse_2 x5) fun x6 =>
    bnd (keys_Print a1) fun x8 =>
    bnd (keys_Parse_2 x8) fun x9 =>
    bnd (keys_Print a0) fun x11 =>
    bnd (keys_Print a1) fun x12 =>
    bnd (catS x11 x12) fun x13 =>
    bnd (keys_Parse_2 x13) fun x14 =>
    bnd (loop (law22_KeysApart.l1 x9) (0, x6.2) : Option (List Int)) fun t16 =>
    bnd (if x6.1 = 0 then
      if x9.1 = 0 then
        if x14.1 = 0 then
          bnd (ref09_Same x14.2 t16) fun x35 =>
          if x35 = true then
            bnd (law22_awake) fun x37 =>
            some x37
          else
            some false
        else
          some false
      else
        some false
    else
      some false : Option Bool) fun t31 =>
    some t31
theorem law22_KeysApart_c {a0 : List Int} {a1 : List Int} {res : Bool} (h0 : law22_KeysApart a0 a1 = some res) : CallF X 5 [.sl 1 (List.map (eI .i64) a0), .sl 1 (List.map (eI .i64) a1)] [] (fun x => (dT res)) (fun x => []) := by
 unfold law22_KeysApart at h0
 refine CallF.mkG (X := X) rfl Tryd.func5 rfl rfl Tryd.ntmps5 rfl rfl ?_
 refine aS ?_
 refine aA rfl rfl ?_
 refine aN rfl ?_
 refine T.seq ?_
 refine T.seq ?_
 obtain ⟨t1, ht1, h0⟩ := bS h0
 refine T.cutC (fun S' => S' = ⟨[(20, (dT t1)), (4, (dT false)), (1, .sl 1 (List.map (eI .i64) a1)), (0, .sl 1 (List.map (eI .i64) a0))], [], 72⟩) (fun _ h => h) ?_ ?_
 · refine T.region ?_
   refine aA rfl rfl ?_
   refine TL.op1 (OpR.cast (OpR.pure rfl) (intE (lenM _ _))) rfl ?_
   iterate 2 refine aA rfl rfl ?_
   rcases ite_some ht1 with ⟨c2, ht1⟩ | ⟨c2, ht1⟩
   · refine TL.off rfl rfl rfl rfl (decide_eq_true c2) rfl rfl ?_
     refine TL.off rfl rfl rfl rfl (decide_eq_true c2) rfl rfl ?_
     refine TL.off rfl rfl rfl rfl (decide_eq_true c2) rfl rfl ?_
     refine TL.op1 (OpR.pickT rfl (decide_eq_true c2) rfl) rfl ?_
     refine TL.nil ?_
     obtain rfl := Option.some.inj ht1
     exact ⟨_, Gst.only [0, 1, 4, 20] rfl, rfl⟩
   refine TL.on rfl rfl rfl rfl (decide_eq_false c2) ?_
   refine aA rfl rfl ?_
   refine TL.on rfl rfl rfl rfl (decide_eq_false c2) ?_
   refine TL.op1 (OpR.cast (OpR.pure rfl) (intE (lenM _ _))) rfl ?_
   refine TL.on rfl rfl rfl rfl (decide_eq_false c2) ?_
   refine aA rfl rfl ?_
   refine TL.op1 (OpR.pickF rfl (decide_eq_false c2) rfl) rfl ?_
   refine TL.nil ?_
   obtain rfl := Option.some.inj ht1
   exact ⟨_, Gst.only [0, 1, 4, 20] rfl, rfl⟩
 rintro _ rfl
 show T X _ _ _
 rcases ite_some h0 with ⟨c3, h0⟩ | ⟨c3, h0⟩
 · refine T.condT rfl (c3) ?_
   refine aS ?_
   obtain ⟨x4, hx4, h0⟩ := bS h0
   refine TL.op1 (OpR.call0 fn12 (law22_awake_c hx4) rfl) rfl ?_
   refine aA rfl rfl ?_
   refine aN rfl ?_
   refine T.ret ?_
   obtain rfl := Option.some.inj h0
   exact rO [] [4] rfl undef (cT rfl ResL.nil) rfl rfl rfl rfl
 refine T.condF rfl (eq_false_of_ne_true c3) ?_
 refine aK rfl ?_
 refine aS ?_
 refine aA rfl rfl ?_
 obtain ⟨x5, hx5, h0⟩ := bS h0
 refine TL.op1 (OpR.call0 fn11 (keys_Print_c hx5) rfl) rfl ?_
 obtain ⟨x6, hx6, h0⟩ := bS h0
 refine TL.op (OpR.call [] fn8 (keys_Parse_2_c hx6) rfl rfl rfl (fun _ => rfl)) rfl (fun w7 => ?_)
 iterate 5 refine aA rfl rfl ?_
 refine aN rfl ?_
 refine aS ?_
 refine aA rfl rfl ?_
 obtain ⟨x8, hx8, h0⟩ := bS h0
 refine TL.op1 (OpR.call0 fn11 (keys_Print_c hx8) rfl) rfl ?_
 obtain ⟨x9, hx9, h0⟩ := bS h0
 refine TL.op (OpR.call [] fn8 (keys_Parse_2_c hx9) rfl rfl rfl (fun _ => rfl)) rfl (fun w10 => ?_)
 iterate 5 refine aA rfl rfl ?_
 refine aN rfl ?_
 refine aS ?_
 refine aA rfl rfl ?_
 obtain ⟨x11, hx11, h0⟩ := bS h0
 refine TL.op1 (OpR.call0 fn11 (keys_Print_c hx11) rfl) rfl ?_
 refine aA rfl rfl ?_
 obtain ⟨x12, hx12, h0⟩ := bS h0
 refine TL.op1 (OpR.call0 fn11 (keys_Print_c hx12) rfl) rfl ?_
 obtain ⟨x13, hx13, h0⟩ := bS h0
 refine TL.op1 (OpR.concatM hx13 rfl rfl) rfl ?_
 obtain ⟨x14, hx14, h0⟩ := bS h0
 refine TL.op (OpR.call [] fn8 (keys_Parse_2_c hx14) rfl rfl rfl (fun _ => rfl)) rfl (fun w15 => ?_)
 iterate 5 refine aA rfl rfl ?_
 refine aN rfl ?_
 refine T.seq ?_
 refine aS ?_
 refine aA rfl rfl ?_
 refine TL.op1 (OpR.rowLenM (eI .i64) 1 rfl rfl rfl rfl) rfl ?_
 refine aA rfl rfl ?_
 refine aN rfl ?_
 obtain ⟨t16, ht16, h0⟩ := bS h0
 refine T.cutC (fun S' => ∃ y17 : Value, S' = ⟨[(10, (dN x14.1)), (9, .val (vn w15 0)), (8, (dN x9.1)), (6, (dN x6.1)), (5, .val y17), (4, (dT false))], [.row y17 (List.map (eI .i64) t16) 1 3, .row (vn w15 0) (List.map (eI .i64) x14.2) 1 3], 72⟩) (fun _ h => h) ?_ ?_
 · refine T.block ?_
   obtain ⟨n20, n25⟩ := loop_some ht16
   refine T.loop (fun n S' => ∃ S'', Gst S' S'' ∧ ∃ y18 : Value, ∃ s19 : Int × (List Int), S'' = ⟨[(45, (dN s19.1)), (44, (dN (x9.2.length : Int))), (43, .val (vn w10 0)), (10, (dN x14.1)), (9, .val (vn w15 0)), (8, (dN x9.1)), (6, (dN x6.1)), (5, .val y18), (4, (dT false))], [.row y18 (List.map (eI .i64) s19.2) 1 3, .row (vn w15 0) (List.map (eI .i64) x14.2) 1 3, .row (vn w10 0) (List.map (eI .i64) x9.2) 1 3], 72⟩ ∧ iter (law22_KeysApart.l1 x9) n s19 = some t16) n20 ?_ ?_
   · exact ⟨_, gP [4, 5, 6, 8, 9, 10, 43, 44, 45] [0, 2, 1] rfl rfl rfl, (vn w7 0), (0, x6.2), rfl, n25⟩
   rintro n20 _ ⟨_, g, y18, s19, rfl, i24⟩
   refine T.ghost g ?_
   obtain ⟨m21, q22, rfl, q23, i24⟩ := iter_succ i24
   unfold law22_KeysApart.l1 at q23
   refine aS ?_
   refine aA rfl rfl ?_
   refine aN rfl ?_
   refine T.seq ?_
   rcases ite_some q23 with ⟨c27, q23⟩ | ⟨c27, q23⟩
   rotate_left
   · refine T.condF rfl (decide_eq_false c27) ?_
     refine T.exit ?_
     obtain rfl := Option.some.inj q23
     obtain rfl : _ = _ := i24
     exact ⟨_, gP [4, 5, 6, 8, 9, 10] [0, 1] rfl rfl rfl, y18, rfl⟩
   refine T.condT rfl (decide_eq_true c27) ?_
   refine aK rfl ?_
   refine T.seq ?_
   refine T.block ?_
   refine aS ?_
   obtain ⟨x28, hx28, q23⟩ := bS q23
   refine TL.op1 (OpR.rowIndexM (eI .i64) 2 hx28 rfl rfl rfl rfl rfl rfl rfl) rfl ?_
   refine TL.op1 (OpR.rowLoad0M (j := s19.1) (eI .i64) 2 hx28 rfl rfl rfl rfl) rfl ?_
   refine aA rfl rfl ?_
   refine aN rfl ?_
   refine T.region ?_
   iterate 2 refine aA rfl rfl ?_
   refine TL.op1 (OpR.lit rfl rfl rfl rfl rfl rfl rfl) rfl ?_
   obtain ⟨x29, hx29, q23⟩ := bS q23
   refine TL.op (OpR.appendM (m := [x28]) (eI .i64) 0 hx29 rfl rfl rfl rfl rfl rfl rfl rfl rfl (fun _ => rfl)) rfl (fun v30 => ?_)
   refine aA rfl rfl ?_
   refine aN rfl ?_
   refine T.region ?_
   iterate 2 refine aA rfl rfl ?_
   refine TL.nil ?_
   obtain rfl := Option.some.inj q23
   exact ⟨m21, Nat.lt_succ_self _, _, Gst.only [4, 5, 6, 8, 9, 10, 43, 44, 45] rfl, v30, (w64 (s19.1 + 1), x29), rfl, i24⟩
 rintro _ ⟨y17, rfl⟩
 show T X _ _ _
 refine T.seq ?_
 obtain ⟨t31, ht31, h0⟩ := bS h0
 refine T.cutC (fun S' => S' = ⟨[(4, (dT t31))], [], 72⟩) (fun _ h => h) ?_ ?_
 rotate_left
 · rintro _ rfl
   show T X _ _ _
   refine T.ret ?_
   obtain rfl := Option.some.inj h0
   exact rO [] [4] rfl undef (cT rfl ResL.nil) rfl rfl rfl rfl
 refine T.region ?_
 iterate 3 refine aA rfl rfl ?_
 rcases ite_some ht31 with ⟨c32, ht31⟩ | ⟨c32, ht31⟩
 rotate_left
 · refine TL.off rfl rfl rfl rfl (beq_eq_false_iff_ne.2 c32) rfl rfl ?_
   refine TL.off rfl rfl rfl rfl (beq_eq_false_iff_ne.2 c32) rfl rfl ?_
   refine TL.op1 (OpR.pickF rfl (beq_eq_false_iff_ne.2 c32) rfl) rfl ?_
   refine aA rfl rfl ?_
   refine TL.off rfl rfl rfl rfl rfl rfl rfl ?_
   refine TL.off rfl rfl rfl rfl rfl rfl rfl ?_
   refine TL.op1 (OpR.pickF rfl rfl rfl) rfl ?_
   refine aA rfl rfl ?_
   refine TL.off rfl rfl rfl rfl rfl rfl rfl ?_
   refine TL.off rfl rfl rfl rfl rfl rfl rfl ?_
   refine TL.off rfl rfl rfl rfl rfl rfl rfl ?_
   refine TL.op1 (OpR.pickF rfl rfl rfl) rfl ?_
   refine aA rfl rfl ?_
   refine TL.off rfl rfl rfl rfl rfl rfl rfl ?_
   refine TL.op1 (OpR.pickF rfl rfl rfl) rfl ?_
   refine aA rfl rfl ?_
   refine TL.nil ?_
   obtain rfl := Option.some.inj ht31
   exact ⟨_, gP [4] [] rfl rfl rfl, rfl⟩
 refine TL.on rfl rfl rfl rfl (beq_iff_eq.2 c32) ?_
 refine aA rfl rfl ?_
 refine TL.on rfl rfl rfl rfl (beq_iff_eq.2 c32) ?_
 refine aA rfl rfl ?_
 refine TL.op1 (OpR.pickT rfl (beq_iff_eq.2 c32) rfl) rfl ?_
 refine aA rfl rfl ?_
 rcases ite_some ht31 with ⟨c33, ht31⟩ | ⟨c33, ht31⟩
 rotate_left
 · refine TL.off rfl rfl rfl rfl (beq_eq_false_iff_ne.2 c33) rfl rfl ?_
   refine TL.off rfl rfl rfl rfl (beq_eq_false_iff_ne.2 c33) rfl rfl ?_
   refine TL.op1 (OpR.pickF rfl (beq_eq_false_iff_ne.2 c33) rfl) rfl ?_
   refine aA rfl rfl ?_
   refine TL.off rfl rfl rfl rfl rfl rfl rfl ?_
   refine TL.off rfl rfl rfl rfl rfl rfl rfl ?_
   refine TL.off rfl rfl rfl rfl rfl rfl rfl ?_
   refine TL.op1 (OpR.pickF rfl rfl rfl) rfl ?_
   refine aA rfl rfl ?_
   refine TL.off rfl rfl rfl rfl rfl rfl rfl ?_
   refine TL.op1 (OpR.pickF rfl rfl rfl) rfl ?_
   refine aA rfl rfl ?_
   refine TL.nil ?_
   obtain rfl := Option.some.inj ht31
   exact ⟨_, gP [4] [] rfl rfl rfl, rfl⟩
 refine TL.on rfl rfl rfl rfl (beq_iff_eq.2 c33) ?_
 refine aA rfl rfl ?_
 refine TL.on rfl rfl rfl rfl (beq_iff_eq.2 c33) ?_
 refine aA rfl rfl ?_
 refine TL.op1 (OpR.pickT rfl (beq_iff_eq.2 c33) rfl) rfl ?_
 refine aA rfl rfl ?_
 rcases ite_some ht31 with ⟨c34, ht31⟩ | ⟨c34, ht31⟩
 rotate_left
 · refine TL.off rfl rfl rfl rfl (beq_eq_false_iff_ne.2 c34) rfl rfl ?_
   refine TL.off rfl rfl rfl rfl (beq_eq_false_iff_ne.2 c34) rfl rfl ?_
   refine TL.off rfl rfl rfl rfl (beq_eq_false_iff_ne.2 c34) rfl rfl ?_
   refine TL.op1 (OpR.pickF rfl (beq_eq_false_iff_ne.2 c34) rfl) rfl ?_
   refine aA rfl rfl ?_
   refine TL.off rfl rfl rfl rfl rfl rfl rfl ?_
   refine TL.op1 (OpR.pickF rfl rfl rfl) rfl ?_
   refine aA rfl rfl ?_
   refine TL.nil ?_
   obtain rfl := Option.some.inj ht31
   exact ⟨_, gP [4] [] rfl rfl rfl, rfl⟩
 refine TL.on rfl rfl rfl rfl (beq_iff_eq.2 c34) ?_
 refine aA rfl rfl ?_
 refine TL.on rfl rfl rfl rfl (beq_iff_eq.2 c34) ?_
 refine aA rfl rfl ?_
 refine TL.on rfl rfl rfl rfl (beq_iff_eq.2 c34) ?_
 obtain ⟨x35, hx35, ht31⟩ := bS ht31
 refine TL.op1 (OpR.call [1, 0] fn10 (ref09_Same_c_3 hx35) rfl rfl rfl (fun _ => rfl)) rfl ?_
 refine TL.op1 (OpR.pickT rfl (beq_iff_eq.2 c34) rfl) rfl ?_
 refine aA rfl rfl ?_
 rcases ite_some ht31 with ⟨c36, ht31⟩ | ⟨c36, ht31⟩
 rotate_left
 · refine TL.off rfl rfl rfl rfl (eq_false_of_ne_true c36) rfl rfl ?_
   refine TL.op1 (OpR.pickF rfl (eq_false_of_ne_true c36) rfl) rfl ?_
   refine aA rfl rfl ?_
   refine TL.nil ?_
   obtain rfl := Option.some.inj ht31
   exact ⟨_, gP [4] [] rfl rfl rfl, rfl⟩
 refine TL.on rfl rfl rfl rfl (c36) ?_
 obtain ⟨x37, hx37, ht31⟩ := bS ht31
 refine TL.op1 (OpR.call0 fn12 (law22_awake_c hx37) rfl) rfl ?_
 refine TL.op1 (OpR.pickT rfl (c36) rfl) rfl ?_
 refine aA rfl rfl ?_
 refine TL.nil ?_
 obtain rfl := Option.some.inj ht31
 exact ⟨_, gP [4] [] rfl rfl rfl, rfl⟩
end Go.Proofs.YtlginjmkmfodmaaDoor.S
