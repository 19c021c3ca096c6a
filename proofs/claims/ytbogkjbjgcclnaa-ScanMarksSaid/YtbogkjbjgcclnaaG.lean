/- Printed by a program of this session's own (gen.py): Lean functions for Go functions, and the proofs that the Go code comes to their answers. -/
import Derived.Test.YtbogkjbjgcclnaaGc
set_option linter.unusedVariables false
set_option linter.unusedSimpArgs false
namespace Go.Proofs.Ytbogkjbjgcclnaa.S
open Go Go.Sm
attribute [local irreducible] T TL OpR CallT iter loop
noncomputable def ref05_One.l1 (a0 : List UInt8) (s9 : Int × (List ref05_Field)) : Option (Lp (Int × (List ref05_Field)) (Int × (List ref05_Field))) :=
  bnd (ref05_field a0 s9.1) fun x17 =>
  bnd (app 48 s9.2 [x17]) fun x19 =>
  bnd (if (w64 (x17.fRaw.fAt + x17.fRaw.fN)) ≥ (a0.length : Int) then
    some true
  else
    bnd (idx a0 (w64 (x17.fRaw.fAt + x17.fRaw.fN))) fun x23 =>
    some (!((x23.toNat : Int) == 44)) : Option Bool) fun t21 =>
  if t21 = true then
    some (Lp.done (w64 (x17.fRaw.fAt + x17.fRaw.fN), x19))
  else
    some (Lp.next (w64 ((w64 (x17.fRaw.fAt + x17.fRaw.fN)) + 1), x19))
noncomputable def ref05_One (a0 : List UInt8) (a1 : Int) : Option (ref05_Row × Int) :=
  bnd (if a1 < 0 then
    some true
  else
    some (decide (a1 ≥ (a0.length : Int))) : Option Bool) fun t3 =>
  if t3 = true then
    some ((⟨[], 0⟩ : ref05_Row), a1)
  else
    bnd (loop (ref05_One.l1 a0) (a1, []) : Option (Int × (List ref05_Field))) fun t6 =>
    bnd (if t6.1 < (a0.length : Int) then
      bnd (idx a0 t6.1) fun x27 =>
      some ((x27.toNat : Int) == 10)
    else
      some false : Option Bool) fun t25 =>
    if t25 = true then
      some ((⟨t6.2, 1⟩ : ref05_Row), w64 (t6.1 + 1))
    else
      bnd (if (w64 (t6.1 + 1)) < (a0.length : Int) then
        bnd (idx a0 t6.1) fun x31 =>
        if (x31.toNat : Int) = 13 then
          bnd (idx a0 (w64 (t6.1 + 1))) fun x33 =>
          some ((x33.toNat : Int) == 10)
        else
          some false
      else
        some false : Option Bool) fun t29 =>
      if t29 = true then
        some ((⟨t6.2, 2⟩ : ref05_Row), w64 (t6.1 + 2))
      else
        if t6.1 < (a0.length : Int) then
          some ((⟨t6.2, 3⟩ : ref05_Row), w64 (t6.1 + 1))
        else
          some ((⟨t6.2, 0⟩ : ref05_Row), t6.1)
set_option maxHeartbeats 4000000 in
theorem ref05_One_c {a0 : List UInt8} {a1 : Int} {res : ref05_Row × Int} (h0 : ref05_One a0 a1 = some res) : CallF X 77 [.val (.string (bs a0)), .val (.int .i64 a1)] [] (fun x => .tup [.agg [.sl 4 (List.map e_ref05_Field res.1.fFields), .val (.int .i64 res.1.fEnd)], .val (.int .i64 res.2)]) (fun x => []) := by
  unfold ref05_One at h0
  refine CallF.mkG (X := X) Try.func77 rfl rfl Try.ntmps77 rfl rfl ?_
  refine T.seq ?_
  refine T.region ?_
  refine TL.op (OpR.alloc rfl rfl (fun _ => rfl)) rfl (fun p1 => ?_)
  refine TL.op1 (OpR.pure rfl) rfl ?_
  refine TL.nil ?_
  show T X _ _ _
  refine T.seq ?_
  refine T.region ?_
  refine TL.op1 (OpR.build rfl rfl rfl rfl rfl) rfl ?_
  refine TL.op (OpR.alloc rfl rfl (fun _ => rfl)) rfl (fun p2 => ?_)
  refine TL.op0 (OpR.store 1 rfl rfl rfl rfl rfl rfl rfl rfl) ?_
  refine TL.nil ?_
  show T X _ _ _
  refine T.seq ?_
  refine T.seq ?_
  obtain ⟨t3, ht3, h0⟩ := bnd_some h0
  refine T.cutC (fun S' => S' = ⟨[(16, .val (.bool t3)), (6, .val (.pointer (some ⟨(blk p2), 0, none⟩))), (5, .val (.int .i64 0)), (4, .val (.pointer (some ⟨(blk p1), 0, none⟩))), (1, .val (.int .i64 a1)), (0, .val (.string (bs a0)))], [.var (blk p1) [.val (.slice none 0 0), .val (.int .i64 0)] 73, .var (blk p2) [.val (.slice none 0 0), .val (.int .i64 0)] 73], 93⟩) (fun _ h => h) ?_ ?_
  · refine T.region ?_
    refine TL.op1 (OpR.pure rfl) rfl ?_
    refine TL.op1 (OpR.pure rfl) rfl ?_
    refine TL.op1 (OpR.pure rfl) rfl ?_
    rcases ite_some ht3 with ⟨c4, ht3⟩ | ⟨c4, ht3⟩
    · refine TL.off rfl rfl rfl rfl (decide_eq_true c4) rfl rfl ?_
      refine TL.off rfl rfl rfl rfl (decide_eq_true c4) rfl rfl ?_
      refine TL.off rfl rfl rfl rfl (decide_eq_true c4) rfl rfl ?_
      refine TL.off rfl rfl rfl rfl (decide_eq_true c4) rfl rfl ?_
      refine TL.op1 (OpR.pickT rfl (decide_eq_true c4) rfl) rfl ?_
      refine TL.nil ?_
      obtain rfl := Option.some.inj ht3
      exact ⟨_, Gst.only [0, 1, 4, 5, 6, 16] rfl, rfl⟩
    · refine TL.on rfl rfl rfl rfl (decide_eq_false c4) ?_
      refine TL.op1 (OpR.pure rfl) rfl ?_
      refine TL.on rfl rfl rfl rfl (decide_eq_false c4) ?_
      refine TL.op1 (OpR.pure rfl) rfl ?_
      refine TL.on rfl rfl rfl rfl (decide_eq_false c4) ?_
      refine TL.op1 (OpR.cast (OpR.pure rfl) (intE (lenS _))) rfl ?_
      refine TL.on rfl rfl rfl rfl (decide_eq_false c4) ?_
      refine TL.op1 (OpR.pure rfl) rfl ?_
      refine TL.op1 (OpR.pickF rfl (decide_eq_false c4) rfl) rfl ?_
      refine TL.nil ?_
      obtain rfl := Option.some.inj ht3
      exact ⟨_, Gst.only [0, 1, 4, 5, 6, 16] rfl, rfl⟩
  · rintro _ rfl
    show T X _ _ _
    rcases ite_some h0 with ⟨c5, h0⟩ | ⟨c5, h0⟩
    · refine T.condT rfl (c5) ?_
      refine T.seq ?_
      refine T.region ?_
      refine TL.op1 (OpR.loadPtr 1 rfl rfl rfl rfl) rfl ?_
      refine TL.op1 (OpR.pure rfl) rfl ?_
      refine TL.op0 (OpR.store 0 rfl rfl rfl rfl rfl rfl rfl rfl) ?_
      refine TL.op1 (OpR.pure rfl) rfl ?_
      refine TL.nil ?_
      show T X _ _ _
      refine T.ret ?_
      obtain rfl := Option.some.inj h0
      exact PostG.retP (ks := []) (Gst.trans (Gst.only [4, 5] rfl) (Gst.trans (Gst.denil (ReS.cons Re.refl (ReS.cons Re.refl ReS.nil)) (ReO.var (ReL.cons (Re.base .nil) (ReL.cons Re.refl ReL.nil)) (ReO.same ReO.nil))) (Gst.pick [0] rfl rfl))) undef (ResL.cons (ResV.var 0 rfl rfl rfl rfl) (ResL.cons (ResV.tmp rfl) ResL.nil)) rfl rfl rfl rfl
    · refine T.condF rfl (eq_false_of_ne_true c5) ?_
      refine T.skip ?_
      show T X _ _ _
      refine T.seq ?_
      obtain ⟨t6, ht6, h0⟩ := bnd_some h0
      refine T.cutC (fun S' => ∃ y7 : Value, S' = ⟨[(6, .val (.pointer (some ⟨(blk p2), 0, none⟩))), (5, .val (.int .i64 0)), (4, .val (.pointer (some ⟨(blk p1), 0, none⟩))), (1, .val (.int .i64 t6.1)), (0, .val (.string (bs a0)))], [.var (blk p1) [.val (.slice none 0 0), .val (.int .i64 0)] 73, .var (blk p2) [.val y7, .val (.int .i64 0)] 73, .row y7 (List.map e_ref05_Field t6.2) 4 82], 93⟩) (fun _ h => h) ?_ ?_
      · refine T.block ?_
        obtain ⟨n10, n15⟩ := loop_some ht6
        refine T.loop (fun n S' => ∃ S'', Gst S' S'' ∧ ∃ y8 : Value, ∃ s9 : Int × (List ref05_Field), S'' = ⟨[(6, .val (.pointer (some ⟨(blk p2), 0, none⟩))), (5, .val (.int .i64 0)), (4, .val (.pointer (some ⟨(blk p1), 0, none⟩))), (1, .val (.int .i64 s9.1)), (0, .val (.string (bs a0)))], [.var (blk p1) [.val (.slice none 0 0), .val (.int .i64 0)] 73, .var (blk p2) [.val y8, .val (.int .i64 0)] 73, .row y8 (List.map e_ref05_Field s9.2) 4 82], 93⟩ ∧ iter (ref05_One.l1 a0) n s9 = some t6) n10 ?_ ?_
        · exact ⟨_, Gst.trans (Gst.only [0, 1, 4, 5, 6] rfl) (Gst.nilRow (ow := [.var (blk p1) [.val (.slice none 0 0), .val (.int .i64 0)] 73, .var (blk p2) [.val (.slice none 0 0), .val (.int .i64 0)] 73]) 4 82 rfl), (.slice none 0 0), (a1, []), rfl, n15⟩
        rintro n10 _ ⟨_, g, y8, s9, rfl, i14⟩
        refine T.ghost g ?_
        obtain ⟨m11, q12, rfl, q13, i14⟩ := iter_succ i14
        unfold ref05_One.l1 at q13
        refine T.block ?_
        refine T.seq ?_
        refine T.region ?_
        refine TL.op1 (OpR.pure rfl) rfl ?_
        refine TL.op1 (OpR.pure rfl) rfl ?_
        obtain ⟨x17, hx17, q13⟩ := bnd_some q13
        refine TL.op1 (OpR.call0 fn85 (ref05_field_c hx17) rfl) rfl ?_
        refine TL.op (OpR.alloc rfl rfl (fun _ => rfl)) rfl (fun p18 => ?_)
        refine TL.op0 (OpR.store 3 rfl rfl rfl rfl rfl rfl rfl rfl) ?_
        refine TL.nil ?_
        show T X _ _ _
        refine T.seq ?_
        refine T.region ?_
        refine TL.op1 (OpR.pure rfl) rfl ?_
        refine TL.op1 (OpR.loadPtr 1 rfl rfl rfl rfl) rfl ?_
        refine TL.op1 (OpR.loadPtr 3 rfl rfl rfl rfl) rfl ?_
        refine TL.op1 (OpR.lit rfl rfl rfl rfl rfl rfl rfl) rfl ?_
        obtain ⟨x19, hx19, q13⟩ := bnd_some q13
        refine TL.op (OpR.appendM (m := [x17]) e_ref05_Field 2 hx19 rfl rfl rfl rfl rfl rfl rfl rfl rfl (fun _ => rfl)) rfl (fun v20 => ?_)
        refine TL.op1 (OpR.pure rfl) rfl ?_
        refine TL.op0 (OpR.store 1 rfl rfl rfl rfl rfl rfl rfl rfl) ?_
        refine TL.nil ?_
        show T X _ _ _
        refine T.seq ?_
        refine T.region ?_
        refine TL.op1 (OpR.pure rfl) rfl ?_
        refine TL.op1 (OpR.pure rfl) rfl ?_
        refine TL.op1 (OpR.loadPtr 3 rfl rfl rfl rfl) rfl ?_
        refine TL.op1 (OpR.pure rfl) rfl ?_
        refine TL.op1 (OpR.pure rfl) rfl ?_
        refine TL.op1 (OpR.loadPtr 3 rfl rfl rfl rfl) rfl ?_
        refine TL.op1 (OpR.pure rfl) rfl ?_
        refine TL.op1 (OpR.pure rfl) rfl ?_
        refine TL.nil ?_
        show T X _ _ _
        refine T.seq ?_
        refine T.seq ?_
        obtain ⟨t21, ht21, q13⟩ := bnd_some q13
        refine T.cutC (fun S' => S' = ⟨[(44, .val (.bool t21)), (6, .val (.pointer (some ⟨(blk p2), 0, none⟩))), (5, .val (.int .i64 0)), (4, .val (.pointer (some ⟨(blk p1), 0, none⟩))), (1, .val (.int .i64 (w64 (x17.fRaw.fAt + x17.fRaw.fN)))), (0, .val (.string (bs a0)))], [.var (blk p1) [.val (.slice none 0 0), .val (.int .i64 0)] 73, .var (blk p2) [.val v20, .val (.int .i64 0)] 73, .row v20 (List.map e_ref05_Field x19) 4 82], 93⟩) (fun _ h => h) ?_ ?_
        · refine T.region ?_
          refine TL.op1 (OpR.pure rfl) rfl ?_
          refine TL.op1 (OpR.pure rfl) rfl ?_
          refine TL.op1 (OpR.cast (OpR.pure rfl) (intE (lenS _))) rfl ?_
          refine TL.op1 (OpR.pure rfl) rfl ?_
          refine TL.op1 (OpR.pure rfl) rfl ?_
          rcases ite_some ht21 with ⟨c22, ht21⟩ | ⟨c22, ht21⟩
          · refine TL.off rfl rfl rfl rfl (decide_eq_true c22) rfl rfl ?_
            refine TL.off rfl rfl rfl rfl (decide_eq_true c22) rfl rfl ?_
            refine TL.off rfl rfl rfl rfl (decide_eq_true c22) rfl rfl ?_
            refine TL.off rfl rfl rfl rfl (decide_eq_true c22) rfl rfl ?_
            refine TL.op1 (OpR.pickT rfl (decide_eq_true c22) rfl) rfl ?_
            refine TL.nil ?_
            obtain rfl := Option.some.inj ht21
            exact ⟨_, Gst.trans (Gst.only [0, 1, 4, 5, 6, 44] rfl) (Gst.pick [0, 1, 2] rfl rfl), rfl⟩
          · refine TL.on rfl rfl rfl rfl (decide_eq_false c22) ?_
            refine TL.op1 (OpR.pure rfl) rfl ?_
            refine TL.on rfl rfl rfl rfl (decide_eq_false c22) ?_
            refine TL.op1 (OpR.pure rfl) rfl ?_
            refine TL.on rfl rfl rfl rfl (decide_eq_false c22) ?_
            obtain ⟨x23, hx23, ht21⟩ := bnd_some ht21
            refine TL.op1 (OpR.indexS hx23 rfl rfl rfl rfl) rfl ?_
            refine TL.on rfl rfl rfl rfl (decide_eq_false c22) ?_
            refine TL.op1 (OpR.pure rfl) rfl ?_
            refine TL.op1 (OpR.pickF rfl (decide_eq_false c22) rfl) rfl ?_
            refine TL.nil ?_
            obtain rfl := Option.some.inj ht21
            exact ⟨_, Gst.trans (Gst.only [0, 1, 4, 5, 6, 44] rfl) (Gst.pick [0, 1, 2] rfl rfl), rfl⟩
        · rintro _ rfl
          show T X _ _ _
          rcases ite_some q13 with ⟨c24, q13⟩ | ⟨c24, q13⟩
          · refine T.condT rfl (c24) ?_
            refine T.exit ?_
            obtain rfl := Option.some.inj q13
            obtain rfl : _ = _ := i14
            exact ⟨_, Gst.only [0, 1, 4, 5, 6] rfl, v20, rfl⟩
          · refine T.condF rfl (eq_false_of_ne_true c24) ?_
            refine T.skip ?_
            show T X _ _ _
            refine T.region ?_
            refine TL.op1 (OpR.pure rfl) rfl ?_
            refine TL.op1 (OpR.pure rfl) rfl ?_
            refine TL.op1 (OpR.pure rfl) rfl ?_
            refine TL.nil ?_
            obtain rfl := Option.some.inj q13
            exact ⟨m11, Nat.lt_succ_self _, _, Gst.only [0, 1, 4, 5, 6] rfl, v20, (w64 ((w64 (x17.fRaw.fAt + x17.fRaw.fN)) + 1), x19), rfl, i14⟩
      · rintro _ ⟨y7, rfl⟩
        show T X _ _ _
        refine T.seq ?_
        refine T.seq ?_
        obtain ⟨t25, ht25, h0⟩ := bnd_some h0
        refine T.cutC (fun S' => S' = ⟨[(56, .val (.bool t25)), (6, .val (.pointer (some ⟨(blk p2), 0, none⟩))), (5, .val (.int .i64 0)), (4, .val (.pointer (some ⟨(blk p1), 0, none⟩))), (1, .val (.int .i64 t6.1)), (0, .val (.string (bs a0)))], [.var (blk p1) [.val (.slice none 0 0), .val (.int .i64 0)] 73, .var (blk p2) [.val y7, .val (.int .i64 0)] 73, .row y7 (List.map e_ref05_Field t6.2) 4 82], 93⟩) (fun _ h => h) ?_ ?_
        · refine T.region ?_
          refine TL.op1 (OpR.pure rfl) rfl ?_
          refine TL.op1 (OpR.pure rfl) rfl ?_
          refine TL.op1 (OpR.cast (OpR.pure rfl) (intE (lenS _))) rfl ?_
          refine TL.op1 (OpR.pure rfl) rfl ?_
          refine TL.op1 (OpR.pure rfl) rfl ?_
          rcases ite_some ht25 with ⟨c26, ht25⟩ | ⟨c26, ht25⟩
          · refine TL.on rfl rfl rfl rfl (decide_eq_true c26) ?_
            refine TL.op1 (OpR.pure rfl) rfl ?_
            refine TL.on rfl rfl rfl rfl (decide_eq_true c26) ?_
            refine TL.op1 (OpR.pure rfl) rfl ?_
            refine TL.on rfl rfl rfl rfl (decide_eq_true c26) ?_
            obtain ⟨x27, hx27, ht25⟩ := bnd_some ht25
            refine TL.op1 (OpR.indexS hx27 rfl rfl rfl rfl) rfl ?_
            refine TL.on rfl rfl rfl rfl (decide_eq_true c26) ?_
            refine TL.op1 (OpR.pure rfl) rfl ?_
            refine TL.op1 (OpR.pickT rfl (decide_eq_true c26) rfl) rfl ?_
            refine TL.nil ?_
            obtain rfl := Option.some.inj ht25
            exact ⟨_, Gst.only [0, 1, 4, 5, 6, 56] rfl, rfl⟩
          · refine TL.off rfl rfl rfl rfl (decide_eq_false c26) rfl rfl ?_
            refine TL.off rfl rfl rfl rfl (decide_eq_false c26) rfl rfl ?_
            refine TL.off rfl rfl rfl rfl (decide_eq_false c26) rfl rfl ?_
            refine TL.off rfl rfl rfl rfl (decide_eq_false c26) rfl rfl ?_
            refine TL.op1 (OpR.pickF rfl (decide_eq_false c26) rfl) rfl ?_
            refine TL.nil ?_
            obtain rfl := Option.some.inj ht25
            exact ⟨_, Gst.only [0, 1, 4, 5, 6, 56] rfl, rfl⟩
        · rintro _ rfl
          show T X _ _ _
          rcases ite_some h0 with ⟨c28, h0⟩ | ⟨c28, h0⟩
          · refine T.condT rfl (c28) ?_
            refine T.seq ?_
            refine T.region ?_
            refine TL.op1 (OpR.pure rfl) rfl ?_
            refine TL.op0 (OpR.store 1 rfl rfl rfl rfl rfl rfl rfl rfl) ?_
            refine TL.nil ?_
            show T X _ _ _
            refine T.seq ?_
            refine T.region ?_
            refine TL.op1 (OpR.loadPtr 1 rfl rfl rfl rfl) rfl ?_
            refine TL.op1 (OpR.pure rfl) rfl ?_
            refine TL.op1 (OpR.pure rfl) rfl ?_
            refine TL.op0 (OpR.store 0 rfl rfl rfl rfl rfl rfl rfl rfl) ?_
            refine TL.op1 (OpR.pure rfl) rfl ?_
            refine TL.nil ?_
            show T X _ _ _
            refine T.ret ?_
            obtain rfl := Option.some.inj h0
            exact PostG.retP (ks := []) (Gst.trans (Gst.only [4, 5] rfl) (Gst.trans (Gst.freezeRow 2 rfl rfl (ReS.cons Re.refl (ReS.cons Re.refl ReS.nil)) (ReO.var (ReL.cons (Re.base .all) (ReL.cons Re.refl ReL.nil)) (ReO.var (ReL.cons (Re.base .all) (ReL.cons Re.refl ReL.nil)) (ReO.same ReO.nil)))) (Gst.pick [0] rfl rfl))) undef (ResL.cons (ResV.var 0 rfl rfl rfl rfl) (ResL.cons (ResV.tmp rfl) ResL.nil)) rfl rfl rfl rfl
          · refine T.condF rfl (eq_false_of_ne_true c28) ?_
            refine T.skip ?_
            show T X _ _ _
            refine T.seq ?_
            refine T.seq ?_
            obtain ⟨t29, ht29, h0⟩ := bnd_some h0
            refine T.cutC (fun S' => S' = ⟨[(78, .val (.bool t29)), (6, .val (.pointer (some ⟨(blk p2), 0, none⟩))), (5, .val (.int .i64 0)), (4, .val (.pointer (some ⟨(blk p1), 0, none⟩))), (1, .val (.int .i64 t6.1)), (0, .val (.string (bs a0)))], [.var (blk p1) [.val (.slice none 0 0), .val (.int .i64 0)] 73, .var (blk p2) [.val y7, .val (.int .i64 0)] 73, .row y7 (List.map e_ref05_Field t6.2) 4 82], 93⟩) (fun _ h => h) ?_ ?_
            · refine T.region ?_
              refine TL.op1 (OpR.pure rfl) rfl ?_
              refine TL.op1 (OpR.pure rfl) rfl ?_
              refine TL.op1 (OpR.pure rfl) rfl ?_
              refine TL.op1 (OpR.cast (OpR.pure rfl) (intE (lenS _))) rfl ?_
              refine TL.op1 (OpR.pure rfl) rfl ?_
              refine TL.op1 (OpR.pure rfl) rfl ?_
              rcases ite_some ht29 with ⟨c30, ht29⟩ | ⟨c30, ht29⟩
              · refine TL.on rfl rfl rfl rfl (decide_eq_true c30) ?_
                refine TL.op1 (OpR.pure rfl) rfl ?_
                refine TL.on rfl rfl rfl rfl (decide_eq_true c30) ?_
                refine TL.op1 (OpR.pure rfl) rfl ?_
                refine TL.on rfl rfl rfl rfl (decide_eq_true c30) ?_
                obtain ⟨x31, hx31, ht29⟩ := bnd_some ht29
                refine TL.op1 (OpR.indexS hx31 rfl rfl rfl rfl) rfl ?_
                refine TL.on rfl rfl rfl rfl (decide_eq_true c30) ?_
                refine TL.op1 (OpR.pure rfl) rfl ?_
                refine TL.op1 (OpR.pickT rfl (decide_eq_true c30) rfl) rfl ?_
                refine TL.op1 (OpR.pure rfl) rfl ?_
                rcases ite_some ht29 with ⟨c32, ht29⟩ | ⟨c32, ht29⟩
                · refine TL.on rfl rfl rfl rfl (beq_iff_eq.2 c32) ?_
                  refine TL.op1 (OpR.pure rfl) rfl ?_
                  refine TL.on rfl rfl rfl rfl (beq_iff_eq.2 c32) ?_
                  refine TL.op1 (OpR.pure rfl) rfl ?_
                  refine TL.on rfl rfl rfl rfl (beq_iff_eq.2 c32) ?_
                  refine TL.op1 (OpR.pure rfl) rfl ?_
                  refine TL.on rfl rfl rfl rfl (beq_iff_eq.2 c32) ?_
                  obtain ⟨x33, hx33, ht29⟩ := bnd_some ht29
                  refine TL.op1 (OpR.indexS hx33 rfl rfl rfl rfl) rfl ?_
                  refine TL.on rfl rfl rfl rfl (beq_iff_eq.2 c32) ?_
                  refine TL.op1 (OpR.pure rfl) rfl ?_
                  refine TL.op1 (OpR.pickT rfl (beq_iff_eq.2 c32) rfl) rfl ?_
                  refine TL.nil ?_
                  obtain rfl := Option.some.inj ht29
                  exact ⟨_, Gst.only [0, 1, 4, 5, 6, 78] rfl, rfl⟩
                · refine TL.off rfl rfl rfl rfl (beq_eq_false_iff_ne.2 c32) rfl rfl ?_
                  refine TL.off rfl rfl rfl rfl (beq_eq_false_iff_ne.2 c32) rfl rfl ?_
                  refine TL.off rfl rfl rfl rfl (beq_eq_false_iff_ne.2 c32) rfl rfl ?_
                  refine TL.off rfl rfl rfl rfl (beq_eq_false_iff_ne.2 c32) rfl rfl ?_
                  refine TL.off rfl rfl rfl rfl (beq_eq_false_iff_ne.2 c32) rfl rfl ?_
                  refine TL.op1 (OpR.pickF rfl (beq_eq_false_iff_ne.2 c32) rfl) rfl ?_
                  refine TL.nil ?_
                  obtain rfl := Option.some.inj ht29
                  exact ⟨_, Gst.only [0, 1, 4, 5, 6, 78] rfl, rfl⟩
              · refine TL.off rfl rfl rfl rfl (decide_eq_false c30) rfl rfl ?_
                refine TL.off rfl rfl rfl rfl (decide_eq_false c30) rfl rfl ?_
                refine TL.off rfl rfl rfl rfl (decide_eq_false c30) rfl rfl ?_
                refine TL.off rfl rfl rfl rfl (decide_eq_false c30) rfl rfl ?_
                refine TL.op1 (OpR.pickF rfl (decide_eq_false c30) rfl) rfl ?_
                refine TL.op1 (OpR.pure rfl) rfl ?_
                refine TL.off rfl rfl rfl rfl rfl rfl rfl ?_
                refine TL.off rfl rfl rfl rfl rfl rfl rfl ?_
                refine TL.off rfl rfl rfl rfl rfl rfl rfl ?_
                refine TL.off rfl rfl rfl rfl rfl rfl rfl ?_
                refine TL.off rfl rfl rfl rfl rfl rfl rfl ?_
                refine TL.op1 (OpR.pickF rfl rfl rfl) rfl ?_
                refine TL.nil ?_
                obtain rfl := Option.some.inj ht29
                exact ⟨_, Gst.only [0, 1, 4, 5, 6, 78] rfl, rfl⟩
            · rintro _ rfl
              show T X _ _ _
              rcases ite_some h0 with ⟨c34, h0⟩ | ⟨c34, h0⟩
              · refine T.condT rfl (c34) ?_
                refine T.seq ?_
                refine T.region ?_
                refine TL.op1 (OpR.pure rfl) rfl ?_
                refine TL.op0 (OpR.store 1 rfl rfl rfl rfl rfl rfl rfl rfl) ?_
                refine TL.nil ?_
                show T X _ _ _
                refine T.seq ?_
                refine T.region ?_
                refine TL.op1 (OpR.loadPtr 1 rfl rfl rfl rfl) rfl ?_
                refine TL.op1 (OpR.pure rfl) rfl ?_
                refine TL.op1 (OpR.pure rfl) rfl ?_
                refine TL.op0 (OpR.store 0 rfl rfl rfl rfl rfl rfl rfl rfl) ?_
                refine TL.op1 (OpR.pure rfl) rfl ?_
                refine TL.nil ?_
                show T X _ _ _
                refine T.ret ?_
                obtain rfl := Option.some.inj h0
                exact PostG.retP (ks := []) (Gst.trans (Gst.only [4, 5] rfl) (Gst.trans (Gst.freezeRow 2 rfl rfl (ReS.cons Re.refl (ReS.cons Re.refl ReS.nil)) (ReO.var (ReL.cons (Re.base .all) (ReL.cons Re.refl ReL.nil)) (ReO.var (ReL.cons (Re.base .all) (ReL.cons Re.refl ReL.nil)) (ReO.same ReO.nil)))) (Gst.pick [0] rfl rfl))) undef (ResL.cons (ResV.var 0 rfl rfl rfl rfl) (ResL.cons (ResV.tmp rfl) ResL.nil)) rfl rfl rfl rfl
              · refine T.condF rfl (eq_false_of_ne_true c34) ?_
                refine T.skip ?_
                show T X _ _ _
                refine T.seq ?_
                refine T.seq ?_
                refine T.region ?_
                refine TL.op1 (OpR.pure rfl) rfl ?_
                refine TL.op1 (OpR.pure rfl) rfl ?_
                refine TL.op1 (OpR.cast (OpR.pure rfl) (intE (lenS _))) rfl ?_
                refine TL.op1 (OpR.pure rfl) rfl ?_
                refine TL.nil ?_
                show T X _ _ _
                rcases ite_some h0 with ⟨c35, h0⟩ | ⟨c35, h0⟩
                · refine T.condT rfl (decide_eq_true c35) ?_
                  refine T.seq ?_
                  refine T.region ?_
                  refine TL.op1 (OpR.pure rfl) rfl ?_
                  refine TL.op0 (OpR.store 1 rfl rfl rfl rfl rfl rfl rfl rfl) ?_
                  refine TL.nil ?_
                  show T X _ _ _
                  refine T.seq ?_
                  refine T.region ?_
                  refine TL.op1 (OpR.loadPtr 1 rfl rfl rfl rfl) rfl ?_
                  refine TL.op1 (OpR.pure rfl) rfl ?_
                  refine TL.op1 (OpR.pure rfl) rfl ?_
                  refine TL.op0 (OpR.store 0 rfl rfl rfl rfl rfl rfl rfl rfl) ?_
                  refine TL.op1 (OpR.pure rfl) rfl ?_
                  refine TL.nil ?_
                  show T X _ _ _
                  refine T.ret ?_
                  obtain rfl := Option.some.inj h0
                  exact PostG.retP (ks := []) (Gst.trans (Gst.only [4, 5] rfl) (Gst.trans (Gst.freezeRow 2 rfl rfl (ReS.cons Re.refl (ReS.cons Re.refl ReS.nil)) (ReO.var (ReL.cons (Re.base .all) (ReL.cons Re.refl ReL.nil)) (ReO.var (ReL.cons (Re.base .all) (ReL.cons Re.refl ReL.nil)) (ReO.same ReO.nil)))) (Gst.pick [0] rfl rfl))) undef (ResL.cons (ResV.var 0 rfl rfl rfl rfl) (ResL.cons (ResV.tmp rfl) ResL.nil)) rfl rfl rfl rfl
                · refine T.condF rfl (decide_eq_false c35) ?_
                  refine T.skip ?_
                  show T X _ _ _
                  refine T.seq ?_
                  refine T.region ?_
                  refine TL.op1 (OpR.loadPtr 1 rfl rfl rfl rfl) rfl ?_
                  refine TL.op1 (OpR.pure rfl) rfl ?_
                  refine TL.op0 (OpR.store 0 rfl rfl rfl rfl rfl rfl rfl rfl) ?_
                  refine TL.op1 (OpR.pure rfl) rfl ?_
                  refine TL.nil ?_
                  show T X _ _ _
                  refine T.ret ?_
                  obtain rfl := Option.some.inj h0
                  exact PostG.retP (ks := []) (Gst.trans (Gst.only [4, 5] rfl) (Gst.trans (Gst.freezeRow 2 rfl rfl (ReS.cons Re.refl (ReS.cons Re.refl ReS.nil)) (ReO.var (ReL.cons (Re.base .all) (ReL.cons Re.refl ReL.nil)) (ReO.var (ReL.cons (Re.base .all) (ReL.cons Re.refl ReL.nil)) (ReO.same ReO.nil)))) (Gst.pick [0] rfl rfl))) undef (ResL.cons (ResV.var 0 rfl rfl rfl rfl) (ResL.cons (ResV.tmp rfl) ResL.nil)) rfl rfl rfl rfl
noncomputable def ref05_All.l1 (a0 : List UInt8) (s4 : Int × (List ref05_Row)) : Option (Lp (Int × (List ref05_Row)) (List ref05_Row)) :=
  if s4.1 < (a0.length : Int) then
    bnd (ref05_One a0 s4.1) fun x13 =>
    bnd (app 32 s4.2 [x13.1]) fun x15 =>
    some (Lp.next (x13.2, x15))
  else
    some (Lp.done s4.2)
noncomputable def ref05_All (a0 : List UInt8) : Option (List ref05_Row) :=
  bnd (loop (ref05_All.l1 a0) (0, []) : Option (List ref05_Row)) fun t1 =>
  some t1
set_option maxHeartbeats 4000000 in
theorem ref05_All_c {a0 : List UInt8} {res : (List ref05_Row)} (h0 : ref05_All a0 = some res) : CallF X 52 [.val (.string (bs a0))] [] (fun x => .sl 2 (List.map e_ref05_Row res)) (fun x => []) := by
  unfold ref05_All at h0
  refine CallF.mkG (X := X) Try.func52 rfl rfl Try.ntmps52 rfl rfl ?_
  refine T.seq ?_
  refine T.region ?_
  refine TL.op1 (OpR.pure rfl) rfl ?_
  refine TL.nil ?_
  show T X _ _ _
  refine T.seq ?_
  refine T.region ?_
  refine TL.op1 (OpR.pure rfl) rfl ?_
  refine TL.nil ?_
  show T X _ _ _
  refine T.seq ?_
  refine T.seq ?_
  refine T.region ?_
  refine TL.op1 (OpR.pure rfl) rfl ?_
  refine TL.nil ?_
  show T X _ _ _
  obtain ⟨t1, ht1, h0⟩ := bnd_some h0
  refine T.cutC (fun S' => ∃ y2 : Value, S' = ⟨[(3, .val y2), (2, .val (.slice none 0 0))], [.row y2 (List.map e_ref05_Row t1) 2 73], 23⟩) (fun _ h => h) ?_ ?_
  · refine T.block ?_
    obtain ⟨n5, n10⟩ := loop_some ht1
    refine T.loop (fun n S' => ∃ S'', Gst S' S'' ∧ ∃ y3 : Value, ∃ s4 : Int × (List ref05_Row), S'' = ⟨[(4, .val (.int .i64 s4.1)), (3, .val y3), (2, .val (.slice none 0 0)), (0, .val (.string (bs a0)))], [.row y3 (List.map e_ref05_Row s4.2) 2 73], 23⟩ ∧ iter (ref05_All.l1 a0) n s4 = some t1) n5 ?_ ?_
    · exact ⟨_, Gst.trans (Gst.only [0, 2, 3, 4] rfl) (Gst.nilRow (ow := []) 2 73 rfl), (.slice none 0 0), (0, []), rfl, n10⟩
    rintro n5 _ ⟨_, g, y3, s4, rfl, i9⟩
    refine T.ghost g ?_
    obtain ⟨m6, q7, rfl, q8, i9⟩ := iter_succ i9
    unfold ref05_All.l1 at q8
    refine T.seq ?_
    refine T.seq ?_
    refine T.region ?_
    refine TL.op1 (OpR.pure rfl) rfl ?_
    refine TL.op1 (OpR.pure rfl) rfl ?_
    refine TL.op1 (OpR.cast (OpR.pure rfl) (intE (lenS _))) rfl ?_
    refine TL.op1 (OpR.pure rfl) rfl ?_
    refine TL.nil ?_
    show T X _ _ _
    rcases ite_some q8 with ⟨c12, q8⟩ | ⟨c12, q8⟩
    · refine T.condT rfl (decide_eq_true c12) ?_
      refine T.skip ?_
      show T X _ _ _
      refine T.block ?_
      refine T.seq ?_
      refine T.region ?_
      refine TL.op1 (OpR.pure rfl) rfl ?_
      refine TL.op1 (OpR.pure rfl) rfl ?_
      obtain ⟨x13, hx13, q8⟩ := bnd_some q8
      refine TL.op1 (OpR.call0 fn77 (ref05_One_c hx13) rfl) rfl ?_
      refine TL.op1 (OpR.pure rfl) rfl ?_
      refine TL.op1 (OpR.pure rfl) rfl ?_
      refine TL.op1 (OpR.pure rfl) rfl ?_
      refine TL.op (OpR.alloc rfl rfl (fun _ => rfl)) rfl (fun p14 => ?_)
      refine TL.op0 (OpR.store 1 rfl rfl rfl rfl rfl rfl rfl rfl) ?_
      refine TL.op1 (OpR.pure rfl) rfl ?_
      refine TL.nil ?_
      show T X _ _ _
      refine T.seq ?_
      refine T.region ?_
      refine TL.op1 (OpR.pure rfl) rfl ?_
      refine TL.op1 (OpR.loadPtr 1 rfl rfl rfl rfl) rfl ?_
      refine TL.op1 (OpR.lit rfl rfl rfl rfl rfl rfl rfl) rfl ?_
      obtain ⟨x15, hx15, q8⟩ := bnd_some q8
      refine TL.op (OpR.appendM (m := [x13.1]) e_ref05_Row 0 hx15 rfl rfl rfl rfl rfl rfl rfl rfl rfl (fun _ => rfl)) rfl (fun v16 => ?_)
      refine TL.op1 (OpR.pure rfl) rfl ?_
      refine TL.nil ?_
      show T X _ _ _
      refine T.region ?_
      refine TL.op1 (OpR.pure rfl) rfl ?_
      refine TL.op1 (OpR.pure rfl) rfl ?_
      refine TL.nil ?_
      obtain rfl := Option.some.inj q8
      exact ⟨m6, Nat.lt_succ_self _, _, Gst.trans (Gst.only [0, 2, 3, 4] rfl) (Gst.pick [0] rfl rfl), v16, (x13.2, x15), rfl, i9⟩
    · refine T.condF rfl (decide_eq_false c12) ?_
      refine T.exit ?_
      obtain rfl := Option.some.inj q8
      obtain rfl : _ = _ := i9
      exact ⟨_, Gst.only [2, 3] rfl, y3, rfl⟩
  · rintro _ ⟨y2, rfl⟩
    show T X _ _ _
    refine T.seq ?_
    refine T.region ?_
    refine TL.op1 (OpR.pure rfl) rfl ?_
    refine TL.op1 (OpR.pure rfl) rfl ?_
    refine TL.nil ?_
    show T X _ _ _
    refine T.ret ?_
    obtain rfl := Option.some.inj h0
    exact PostG.retP (ks := []) (Gst.trans (Gst.only [2] rfl) (Gst.trans (Gst.freezeRow 0 rfl rfl (ReS.cons (Re.base .all) ReS.nil) (ReO.same ReO.nil)) (Gst.pick [] rfl rfl))) undef (ResL.cons (ResV.tmp rfl) ResL.nil) rfl rfl rfl rfl
noncomputable def ref04_Same_2.l1 (a0 : List ref03_Span) (a1 : List ref03_Span) (s4 : Int) : Option (Lp Int (Ex Unit Bool)) :=
  if s4 < (a1.length : Int) then
    bnd (idx a1 s4) fun x14 =>
    bnd (idx a0 s4) fun x15 =>
    if x14 = x15 then
      some (Lp.next (w64 (s4 + 1)))
    else
      some (Lp.done (Ex.ret false))
  else
    some (Lp.done (Ex.brk ()))
noncomputable def ref04_Same_2 (a0 : List ref03_Span) (a1 : List ref03_Span) : Option Bool :=
  if (a1.length : Int) = (a0.length : Int) then
    bnd (loop (ref04_Same_2.l1 a0 a1) 0 : Option (Ex Unit Bool)) fun t2 => match t2 with
      | .brk u3 =>
        some true
      | .ret u3 => some u3
  else
    some false
set_option maxHeartbeats 4000000 in
theorem ref04_Same_2_c {a0 : List ref03_Span} {a1 : List ref03_Span} {v0 : Value} {res : Bool} (h0 : ref04_Same_2 a0 a1 = some res) : CallF X 19 [.val v0, .sl 2 (List.map e_ref03_Span a0)] [.row v0 (List.map e_ref03_Span a1) 2 80] (fun x => .val (.bool res)) (fun x => [.row v0 (List.map e_ref03_Span a1) 2 80]) := by
  unfold ref04_Same_2 at h0
  refine CallF.mkG (X := X) Try.func19 rfl rfl Try.ntmps19 rfl rfl ?_
  refine T.seq ?_
  refine T.region ?_
  refine TL.op1 (OpR.pure rfl) rfl ?_
  refine TL.nil ?_
  show T X _ _ _
  refine T.seq ?_
  refine T.seq ?_
  refine T.region ?_
  refine TL.op1 (OpR.pure rfl) rfl ?_
  refine TL.op1 (OpR.rowLenM e_ref03_Span 0 rfl rfl rfl rfl) rfl ?_
  refine TL.op1 (OpR.pure rfl) rfl ?_
  refine TL.op1 (OpR.cast (OpR.pure rfl) (intE (lenM _ _))) rfl ?_
  refine TL.op1 (OpR.pure rfl) rfl ?_
  refine TL.nil ?_
  show T X _ _ _
  rcases ite_some h0 with ⟨c1, h0⟩ | ⟨c1, h0⟩
  · refine T.condF rfl (not_t (beq_iff_eq.2 c1)) ?_
    refine T.skip ?_
    show T X _ _ _
    refine T.seq ?_
    refine T.seq ?_
    refine T.region ?_
    refine TL.op1 (OpR.pure rfl) rfl ?_
    refine TL.op1 (OpR.rowLenM e_ref03_Span 0 rfl rfl rfl rfl) rfl ?_
    refine TL.op1 (OpR.pure rfl) rfl ?_
    refine TL.nil ?_
    show T X _ _ _
    obtain ⟨t2, ht2, h0⟩ := bnd_some h0
    refine T.cutC (fun S' => ∃ u3, t2 = Ex.brk u3 ∧ S' = ⟨[(4, .val (.bool false))], [.row v0 (List.map e_ref03_Span a1) 2 80], 26⟩) (fun _ h => h) ?_ ?_
    · refine T.block ?_
      obtain ⟨n5, n10⟩ := loop_some ht2
      refine T.loop (fun n S' => ∃ S'', Gst S' S'' ∧ ∃ s4 : Int, S'' = ⟨[(13, .val (.int .i64 s4)), (12, .val (.int .i64 (a1.length : Int))), (4, .val (.bool false)), (1, .sl 2 (List.map e_ref03_Span a0)), (0, .val v0)], [.row v0 (List.map e_ref03_Span a1) 2 80], 26⟩ ∧ iter (ref04_Same_2.l1 a0 a1) n s4 = some t2) n5 ?_ ?_
      · exact ⟨_, Gst.only [0, 1, 4, 12, 13] rfl, 0, rfl, n10⟩
      rintro n5 _ ⟨_, g, s4, rfl, i9⟩
      refine T.ghost g ?_
      obtain ⟨m6, q7, rfl, q8, i9⟩ := iter_succ i9
      unfold ref04_Same_2.l1 at q8
      refine T.seq ?_
      refine T.region ?_
      refine TL.op1 (OpR.pure rfl) rfl ?_
      refine TL.nil ?_
      show T X _ _ _
      refine T.seq ?_
      rcases ite_some q8 with ⟨c12, q8⟩ | ⟨c12, q8⟩
      · refine T.condT rfl (decide_eq_true c12) ?_
        refine T.skip ?_
        show T X _ _ _
        refine T.seq ?_
        refine T.block ?_
        refine T.seq ?_
        refine T.region ?_
        refine TL.op1 (OpR.pure rfl) rfl ?_
        refine TL.op1 (OpR.pure rfl) rfl ?_
        refine TL.nil ?_
        show T X _ _ _
        refine T.seq ?_
        obtain ⟨x14, hx14, q8⟩ := bnd_some q8
        obtain ⟨x15, hx15, q8⟩ := bnd_some q8
        refine T.drawQ drawsX [.val v0, .val (.int .i64 s4), .val (.pointer (some ⟨blk v0, s4.toNat * 2, none⟩)), .agg [.val (.int .i64 x14.fAt), .val (.int .i64 x14.fN)], .sl 2 (List.map e_ref03_Span a0), .val (.int .i64 s4), .nod [.val (.int .i64 x15.fAt), .val (.int .i64 x15.fN)], .agg [.val (.int .i64 x15.fAt), .val (.int .i64 x15.fN)], .val (.bool (!(x14 == x15)))] [0, 1, 4, 5, 12, 13, 14, 15, 16, 17, 19, 20, 21, 22, 23, 24] (by decide +kernel) rfl ?_ rfl ?_
        · refine OpsQ.yes (Want.plain rfl) rfl (OpR.pure rfl) ?_
          refine OpsQ.yes (Want.plain rfl) rfl (OpR.pure rfl) ?_
          refine OpsQ.yes (Want.plain rfl) rfl (OpR.rowIndexM e_ref03_Span 0 hx14 rfl rfl rfl rfl rfl rfl rfl) ?_
          refine OpsQ.yes (Want.plain rfl) rfl (OpR.rowLoad0M (j := s4) e_ref03_Span 0 hx14 rfl rfl rfl rfl) ?_
          refine OpsQ.yes (Want.plain rfl) rfl (OpR.pure rfl) ?_
          refine OpsQ.yes (Want.plain rfl) rfl (OpR.pure rfl) ?_
          refine OpsQ.yes (Want.plain rfl) rfl (OpR.indexM e_ref03_Span hx15 rfl rfl rfl rfl rfl) ?_
          refine OpsQ.yes (Want.plain rfl) rfl (OpR.pure rfl) ?_
          refine OpsQ.yes (Want.plain rfl) rfl (OpR.cast (OpR.neStruct rfl rfl rfl rfl rfl (by kernel_rfl) (by kernel_rfl)) (boolE (congrArg (fun b => !b) (beq_ref03_Span x14 x15)))) ?_
          exact OpsQ.nil
        · show T X _ _ _
          rcases ite_some q8 with ⟨c16, q8⟩ | ⟨c16, q8⟩
          · refine T.condF rfl (not_t (beq_iff_eq.2 c16)) ?_
            refine T.skip ?_
            show T X _ _ _
            refine T.region ?_
            refine TL.op1 (OpR.pure rfl) rfl ?_
            refine TL.op1 (OpR.pure rfl) rfl ?_
            refine TL.nil ?_
            obtain rfl := Option.some.inj q8
            exact ⟨m6, Nat.lt_succ_self _, _, Gst.only [0, 1, 4, 12, 13] rfl, w64 (s4 + 1), rfl, i9⟩
          · refine T.condT rfl (not_f (beq_eq_false_iff_ne.2 c16)) ?_
            refine T.seq ?_
            refine T.region ?_
            refine TL.op1 (OpR.pure rfl) rfl ?_
            refine TL.nil ?_
            show T X _ _ _
            refine T.ret ?_
            obtain rfl := Option.some.inj q8
            obtain rfl : _ = _ := i9
            obtain rfl := Option.some.inj h0
            exact PostG.retP (ks := [0]) (Gst.only [4] rfl) undef (ResL.cons (ResV.tmp rfl) ResL.nil) rfl rfl rfl rfl
      · refine T.condF rfl (decide_eq_false c12) ?_
        refine T.exit ?_
        obtain rfl := Option.some.inj q8
        obtain rfl : _ = _ := i9
        exact ⟨_, Gst.only [4] rfl, _, rfl, rfl⟩
    · rintro _ ⟨u3, rfl, rfl⟩
      show T X _ _ _
      refine T.seq ?_
      refine T.region ?_
      refine TL.op1 (OpR.pure rfl) rfl ?_
      refine TL.nil ?_
      show T X _ _ _
      refine T.ret ?_
      obtain rfl := Option.some.inj h0
      exact PostG.retP (ks := [0]) (Gst.only [4] rfl) undef (ResL.cons (ResV.tmp rfl) ResL.nil) rfl rfl rfl rfl
  · refine T.condT rfl (not_f (beq_eq_false_iff_ne.2 c1)) ?_
    refine T.seq ?_
    refine T.region ?_
    refine TL.op1 (OpR.pure rfl) rfl ?_
    refine TL.nil ?_
    show T X _ _ _
    refine T.ret ?_
    obtain rfl := Option.some.inj h0
    exact PostG.retP (ks := [0]) (Gst.only [4] rfl) undef (ResL.cons (ResV.tmp rfl) ResL.nil) rfl rfl rfl rfl
noncomputable def law05_like.l1 (x15 : scan_Field) (s22 : Int × (List ref03_Span)) : Option (Lp (Int × (List ref03_Span)) (List ref03_Span)) :=
  if s22.1 < (x15.fParts.length : Int) then
    bnd (idx x15.fParts s22.1) fun x31 =>
    bnd (app 16 s22.2 [(⟨x31.fAt, x31.fN⟩ : ref03_Span)]) fun x33 =>
    some (Lp.next (w64 (s22.1 + 1), x33))
  else
    some (Lp.done s22.2)
noncomputable def law05_like.l2 (a0 : scan_Row) (a1 : ref05_Row) (s6 : Int) : Option (Lp Int (Ex Unit Bool)) :=
  if s6 < (a0.fFields.length : Int) then
    bnd (idx a0.fFields s6) fun x15 =>
    bnd (idx a1.fFields s6) fun x17 =>
    bnd (loop (law05_like.l1 x15) (0, []) : Option (List ref03_Span)) fun t19 =>
    bnd (if x15.fRaw.fAt = x17.fRaw.fAt then
      if x15.fRaw.fN = x17.fRaw.fN then
        if x15.fKind = x17.fKind then
          bnd (ref04_Spans x17.fBytes) fun x39 =>
          bnd (ref04_Same_2 x39 t19) fun x40 =>
          some (!x40)
        else
          some true
      else
        some true
    else
      some true : Option Bool) fun t35 =>
    if t35 = true then
      some (Lp.done (Ex.ret false))
    else
      some (Lp.next (w64 (s6 + 1)))
  else
    some (Lp.done (Ex.brk ()))
noncomputable def law05_like (a0 : scan_Row) (a1 : ref05_Row) : Option Bool :=
  bnd (if (a0.fFields.length : Int) = (a1.fFields.length : Int) then
    some (!(a0.fEnd == a1.fEnd))
  else
    some true : Option Bool) fun t1 =>
  if t1 = true then
    some false
  else
    bnd (loop (law05_like.l2 a0 a1) 0 : Option (Ex Unit Bool)) fun t4 => match t4 with
      | .brk u5 =>
        some true
      | .ret u5 => some u5
set_option maxHeartbeats 4000000 in
theorem law05_like_c {a0 : scan_Row} {a1 : ref05_Row} {res : Bool} (h0 : law05_like a0 a1 = some res) : CallF X 53 [.agg [.sl 4 (List.map e_scan_Field a0.fFields), .val (.int .i64 a0.fEnd)], .agg [.sl 4 (List.map e_ref05_Field a1.fFields), .val (.int .i64 a1.fEnd)]] [] (fun x => .val (.bool res)) (fun x => []) := by
  unfold law05_like at h0
  refine CallF.mkG (X := X) Try.func53 rfl rfl Try.ntmps53 rfl rfl ?_
  refine T.seq ?_
  refine T.region ?_
  refine TL.op1 (OpR.boxImm rfl rfl) rfl ?_
  refine TL.op1 (OpR.boxImm rfl rfl) rfl ?_
  refine TL.op1 (OpR.pure rfl) rfl ?_
  refine TL.nil ?_
  show T X _ _ _
  refine T.seq ?_
  refine T.seq ?_
  obtain ⟨t1, ht1, h0⟩ := bnd_some h0
  refine T.cutC (fun S' => S' = ⟨[(24, .val (.bool t1)), (4, .val (.bool false)), (3, .nod [.sl 4 (List.map e_ref05_Field a1.fFields), .val (.int .i64 a1.fEnd)]), (2, .nod [.sl 4 (List.map e_scan_Field a0.fFields), .val (.int .i64 a0.fEnd)])], [], 86⟩) (fun _ h => h) ?_ ?_
  · refine T.region ?_
    refine TL.op1 (OpR.pure rfl) rfl ?_
    refine TL.op1 (OpR.pure rfl) rfl ?_
    refine TL.op1 (OpR.cast (OpR.pure rfl) (intE (lenM _ _))) rfl ?_
    refine TL.op1 (OpR.pure rfl) rfl ?_
    refine TL.op1 (OpR.pure rfl) rfl ?_
    refine TL.op1 (OpR.cast (OpR.pure rfl) (intE (lenM _ _))) rfl ?_
    refine TL.op1 (OpR.pure rfl) rfl ?_
    refine TL.op1 (OpR.pure rfl) rfl ?_
    rcases ite_some ht1 with ⟨c2, ht1⟩ | ⟨c2, ht1⟩
    · refine TL.on rfl rfl rfl rfl (not_t (beq_iff_eq.2 c2)) ?_
      refine TL.op1 (OpR.pure rfl) rfl ?_
      refine TL.on rfl rfl rfl rfl (not_t (beq_iff_eq.2 c2)) ?_
      refine TL.op1 (OpR.pure rfl) rfl ?_
      refine TL.on rfl rfl rfl rfl (not_t (beq_iff_eq.2 c2)) ?_
      refine TL.op1 (OpR.pure rfl) rfl ?_
      refine TL.on rfl rfl rfl rfl (not_t (beq_iff_eq.2 c2)) ?_
      refine TL.op1 (OpR.pure rfl) rfl ?_
      refine TL.on rfl rfl rfl rfl (not_t (beq_iff_eq.2 c2)) ?_
      refine TL.op1 (OpR.pure rfl) rfl ?_
      refine TL.op1 (OpR.pickF rfl (not_t (beq_iff_eq.2 c2)) rfl) rfl ?_
      refine TL.nil ?_
      obtain rfl := Option.some.inj ht1
      exact ⟨_, Gst.only [2, 3, 4, 24] rfl, rfl⟩
    · refine TL.off rfl rfl rfl rfl (not_f (beq_eq_false_iff_ne.2 c2)) rfl rfl ?_
      refine TL.off rfl rfl rfl rfl (not_f (beq_eq_false_iff_ne.2 c2)) rfl rfl ?_
      refine TL.off rfl rfl rfl rfl (not_f (beq_eq_false_iff_ne.2 c2)) rfl rfl ?_
      refine TL.off rfl rfl rfl rfl (not_f (beq_eq_false_iff_ne.2 c2)) rfl rfl ?_
      refine TL.off rfl rfl rfl rfl (not_f (beq_eq_false_iff_ne.2 c2)) rfl rfl ?_
      refine TL.op1 (OpR.pickT rfl (not_f (beq_eq_false_iff_ne.2 c2)) rfl) rfl ?_
      refine TL.nil ?_
      obtain rfl := Option.some.inj ht1
      exact ⟨_, Gst.only [2, 3, 4, 24] rfl, rfl⟩
  · rintro _ rfl
    show T X _ _ _
    rcases ite_some h0 with ⟨c3, h0⟩ | ⟨c3, h0⟩
    · refine T.condT rfl (c3) ?_
      refine T.seq ?_
      refine T.region ?_
      refine TL.op1 (OpR.pure rfl) rfl ?_
      refine TL.nil ?_
      show T X _ _ _
      refine T.ret ?_
      obtain rfl := Option.some.inj h0
      exact PostG.retP (ks := []) (Gst.only [4] rfl) undef (ResL.cons (ResV.tmp rfl) ResL.nil) rfl rfl rfl rfl
    · refine T.condF rfl (eq_false_of_ne_true c3) ?_
      refine T.skip ?_
      show T X _ _ _
      refine T.seq ?_
      refine T.seq ?_
      refine T.region ?_
      refine TL.op1 (OpR.pure rfl) rfl ?_
      refine TL.op1 (OpR.pure rfl) rfl ?_
      refine TL.op1 (OpR.cast (OpR.pure rfl) (intE (lenM _ _))) rfl ?_
      refine TL.op1 (OpR.pure rfl) rfl ?_
      refine TL.nil ?_
      show T X _ _ _
      obtain ⟨t4, ht4, h0⟩ := bnd_some h0
      refine T.cutC (fun S' => ∃ u5, t4 = Ex.brk u5 ∧ S' = ⟨[(4, .val (.bool false))], [], 86⟩) (fun _ h => h) ?_ ?_
      · refine T.block ?_
        obtain ⟨n7, n12⟩ := loop_some ht4
        refine T.loop (fun n S' => ∃ S'', Gst S' S'' ∧ ∃ s6 : Int, S'' = ⟨[(28, .val (.int .i64 s6)), (27, .val (.int .i64 (a0.fFields.length : Int))), (26, .sl 4 (List.map e_scan_Field a0.fFields)), (4, .val (.bool false)), (3, .nod [.sl 4 (List.map e_ref05_Field a1.fFields), .val (.int .i64 a1.fEnd)])], [], 86⟩ ∧ iter (law05_like.l2 a0 a1) n s6 = some t4) n7 ?_ ?_
        · exact ⟨_, Gst.only [3, 4, 26, 27, 28] rfl, 0, rfl, n12⟩
        rintro n7 _ ⟨_, g, s6, rfl, i11⟩
        refine T.ghost g ?_
        obtain ⟨m8, q9, rfl, q10, i11⟩ := iter_succ i11
        unfold law05_like.l2 at q10
        refine T.seq ?_
        refine T.region ?_
        refine TL.op1 (OpR.pure rfl) rfl ?_
        refine TL.nil ?_
        show T X _ _ _
        refine T.seq ?_
        rcases ite_some q10 with ⟨c14, q10⟩ | ⟨c14, q10⟩
        · refine T.condT rfl (decide_eq_true c14) ?_
          refine T.skip ?_
          show T X _ _ _
          refine T.seq ?_
          refine T.block ?_
          refine T.seq ?_
          refine T.region ?_
          refine TL.op1 (OpR.pure rfl) rfl ?_
          obtain ⟨x15, hx15, q10⟩ := bnd_some q10
          refine TL.op1 (OpR.indexM e_scan_Field hx15 rfl rfl rfl rfl rfl) rfl ?_
          refine TL.op1 (OpR.pure rfl) rfl ?_
          refine TL.op (OpR.alloc rfl rfl (fun _ => rfl)) rfl (fun p16 => ?_)
          refine TL.op1 (OpR.pure rfl) rfl ?_
          refine TL.op0 (OpR.store 0 rfl rfl rfl rfl rfl rfl rfl rfl) ?_
          refine TL.nil ?_
          show T X _ _ _
          refine T.seq ?_
          refine T.region ?_
          refine TL.op1 (OpR.pure rfl) rfl ?_
          refine TL.op1 (OpR.pure rfl) rfl ?_
          refine TL.op1 (OpR.pure rfl) rfl ?_
          obtain ⟨x17, hx17, q10⟩ := bnd_some q10
          refine TL.op1 (OpR.indexM e_ref05_Field hx17 rfl rfl rfl rfl rfl) rfl ?_
          refine TL.op1 (OpR.pure rfl) rfl ?_
          refine TL.op (OpR.alloc rfl rfl (fun _ => rfl)) rfl (fun p18 => ?_)
          refine TL.op0 (OpR.store 1 rfl rfl rfl rfl rfl rfl rfl rfl) ?_
          refine TL.nil ?_
          show T X _ _ _
          refine T.seq ?_
          refine T.region ?_
          refine TL.op1 (OpR.pure rfl) rfl ?_
          refine TL.nil ?_
          show T X _ _ _
          refine T.seq ?_
          refine T.seq ?_
          refine T.region ?_
          refine TL.op1 (OpR.pure rfl) rfl ?_
          refine TL.op1 (OpR.loadPtr 0 rfl rfl rfl rfl) rfl ?_
          refine TL.op1 (OpR.cast (OpR.pure rfl) (intE (lenM _ _))) rfl ?_
          refine TL.op1 (OpR.pure rfl) rfl ?_
          refine TL.nil ?_
          show T X _ _ _
          obtain ⟨t19, ht19, q10⟩ := bnd_some q10
          refine T.cutC (fun S' => ∃ y20 : Value, S' = ⟨[(28, .val (.int .i64 s6)), (27, .val (.int .i64 (a0.fFields.length : Int))), (26, .sl 4 (List.map e_scan_Field a0.fFields)), (8, .val y20), (7, .val (.pointer (some ⟨(blk p18), 0, none⟩))), (6, .val (.pointer (some ⟨(blk p16), 0, none⟩))), (4, .val (.bool false)), (3, .nod [.sl 4 (List.map e_ref05_Field a1.fFields), .val (.int .i64 a1.fEnd)])], [.var (blk p16) [.val (.int .i64 x15.fRaw.fAt), .val (.int .i64 x15.fRaw.fN), .val (.int .i64 x15.fKind), .sl 2 (List.map e_arena_Span x15.fParts)] 77, .var (blk p18) [.val (.int .i64 x17.fRaw.fAt), .val (.int .i64 x17.fRaw.fN), .val (.int .i64 x17.fKind), .sl 1 (List.map (eI .i64) x17.fBytes)] 82, .row y20 (List.map e_ref03_Span t19) 2 80], 86⟩) (fun _ h => h) ?_ ?_
          · refine T.block ?_
            obtain ⟨n23, n28⟩ := loop_some ht19
            refine T.loop (fun n S' => ∃ S'', Gst S' S'' ∧ ∃ y21 : Value, ∃ s22 : Int × (List ref03_Span), S'' = ⟨[(41, .val (.int .i64 s22.1)), (40, .val (.int .i64 (x15.fParts.length : Int))), (39, .sl 2 (List.map e_arena_Span x15.fParts)), (28, .val (.int .i64 s6)), (27, .val (.int .i64 (a0.fFields.length : Int))), (26, .sl 4 (List.map e_scan_Field a0.fFields)), (8, .val y21), (7, .val (.pointer (some ⟨(blk p18), 0, none⟩))), (6, .val (.pointer (some ⟨(blk p16), 0, none⟩))), (4, .val (.bool false)), (3, .nod [.sl 4 (List.map e_ref05_Field a1.fFields), .val (.int .i64 a1.fEnd)])], [.var (blk p16) [.val (.int .i64 x15.fRaw.fAt), .val (.int .i64 x15.fRaw.fN), .val (.int .i64 x15.fKind), .sl 2 (List.map e_arena_Span x15.fParts)] 77, .var (blk p18) [.val (.int .i64 x17.fRaw.fAt), .val (.int .i64 x17.fRaw.fN), .val (.int .i64 x17.fKind), .sl 1 (List.map (eI .i64) x17.fBytes)] 82, .row y21 (List.map e_ref03_Span s22.2) 2 80], 86⟩ ∧ iter (law05_like.l1 x15) n s22 = some t19) n23 ?_ ?_
            · exact ⟨_, Gst.trans (Gst.only [3, 4, 6, 7, 8, 26, 27, 28, 39, 40, 41] rfl) (Gst.nilRow (ow := [.var (blk p16) [.val (.int .i64 x15.fRaw.fAt), .val (.int .i64 x15.fRaw.fN), .val (.int .i64 x15.fKind), .sl 2 (List.map e_arena_Span x15.fParts)] 77, .var (blk p18) [.val (.int .i64 x17.fRaw.fAt), .val (.int .i64 x17.fRaw.fN), .val (.int .i64 x17.fKind), .sl 1 (List.map (eI .i64) x17.fBytes)] 82]) 2 80 rfl), (.slice none 0 0), (0, []), rfl, n28⟩
            rintro n23 _ ⟨_, g, y21, s22, rfl, i27⟩
            refine T.ghost g ?_
            obtain ⟨m24, q25, rfl, q26, i27⟩ := iter_succ i27
            unfold law05_like.l1 at q26
            refine T.seq ?_
            refine T.region ?_
            refine TL.op1 (OpR.pure rfl) rfl ?_
            refine TL.nil ?_
            show T X _ _ _
            refine T.seq ?_
            rcases ite_some q26 with ⟨c30, q26⟩ | ⟨c30, q26⟩
            · refine T.condT rfl (decide_eq_true c30) ?_
              refine T.skip ?_
              show T X _ _ _
              refine T.seq ?_
              refine T.block ?_
              refine T.seq ?_
              refine T.region ?_
              obtain ⟨x31, hx31, q26⟩ := bnd_some q26
              refine TL.op1 (OpR.indexM e_arena_Span hx31 rfl rfl rfl rfl rfl) rfl ?_
              refine TL.op1 (OpR.pure rfl) rfl ?_
              refine TL.op (OpR.alloc rfl rfl (fun _ => rfl)) rfl (fun p32 => ?_)
              refine TL.op0 (OpR.store 3 rfl rfl rfl rfl rfl rfl rfl rfl) ?_
              refine TL.nil ?_
              show T X _ _ _
              refine T.region ?_
              refine TL.op1 (OpR.pure rfl) rfl ?_
              refine TL.op1 (OpR.pure rfl) rfl ?_
              refine TL.op1 (OpR.loadPtr 3 rfl rfl rfl rfl) rfl ?_
              refine TL.op1 (OpR.pure rfl) rfl ?_
              refine TL.op1 (OpR.loadPtr 3 rfl rfl rfl rfl) rfl ?_
              refine TL.op1 (OpR.build rfl rfl rfl rfl rfl) rfl ?_
              refine TL.op1 (OpR.lit rfl rfl rfl rfl rfl rfl rfl) rfl ?_
              obtain ⟨x33, hx33, q26⟩ := bnd_some q26
              refine TL.op (OpR.appendM (m := [(⟨x31.fAt, x31.fN⟩ : ref03_Span)]) e_ref03_Span 2 hx33 rfl rfl rfl rfl rfl rfl rfl rfl rfl (fun _ => rfl)) rfl (fun v34 => ?_)
              refine TL.op1 (OpR.pure rfl) rfl ?_
              refine TL.nil ?_
              show T X _ _ _
              refine T.region ?_
              refine TL.op1 (OpR.pure rfl) rfl ?_
              refine TL.op1 (OpR.pure rfl) rfl ?_
              refine TL.nil ?_
              obtain rfl := Option.some.inj q26
              exact ⟨m24, Nat.lt_succ_self _, _, Gst.trans (Gst.only [3, 4, 6, 7, 8, 26, 27, 28, 39, 40, 41] rfl) (Gst.pick [0, 1, 2] rfl rfl), v34, (w64 (s22.1 + 1), x33), rfl, i27⟩
            · refine T.condF rfl (decide_eq_false c30) ?_
              refine T.exit ?_
              obtain rfl := Option.some.inj q26
              obtain rfl : _ = _ := i27
              exact ⟨_, Gst.only [3, 4, 6, 7, 8, 26, 27, 28] rfl, y21, rfl⟩
          · rintro _ ⟨y20, rfl⟩
            show T X _ _ _
            refine T.seq ?_
            obtain ⟨t35, ht35, q10⟩ := bnd_some q10
            refine T.cutC (fun S' => S' = ⟨[(84, .val (.bool t35)), (28, .val (.int .i64 s6)), (27, .val (.int .i64 (a0.fFields.length : Int))), (26, .sl 4 (List.map e_scan_Field a0.fFields)), (4, .val (.bool false)), (3, .nod [.sl 4 (List.map e_ref05_Field a1.fFields), .val (.int .i64 a1.fEnd)])], [], 86⟩) (fun _ h => h) ?_ ?_
            · refine T.region ?_
              refine TL.op1 (OpR.pure rfl) rfl ?_
              refine TL.op1 (OpR.pure rfl) rfl ?_
              refine TL.op1 (OpR.loadPtr 0 rfl rfl rfl rfl) rfl ?_
              refine TL.op1 (OpR.pure rfl) rfl ?_
              refine TL.op1 (OpR.pure rfl) rfl ?_
              refine TL.op1 (OpR.loadPtr 1 rfl rfl rfl rfl) rfl ?_
              refine TL.op1 (OpR.pure rfl) rfl ?_
              refine TL.op1 (OpR.pure rfl) rfl ?_
              rcases ite_some ht35 with ⟨c36, ht35⟩ | ⟨c36, ht35⟩
              · refine TL.on rfl rfl rfl rfl (not_t (beq_iff_eq.2 c36)) ?_
                refine TL.op1 (OpR.pure rfl) rfl ?_
                refine TL.on rfl rfl rfl rfl (not_t (beq_iff_eq.2 c36)) ?_
                refine TL.op1 (OpR.pure rfl) rfl ?_
                refine TL.on rfl rfl rfl rfl (not_t (beq_iff_eq.2 c36)) ?_
                refine TL.op1 (OpR.loadPtr 0 rfl rfl rfl rfl) rfl ?_
                refine TL.on rfl rfl rfl rfl (not_t (beq_iff_eq.2 c36)) ?_
                refine TL.op1 (OpR.pure rfl) rfl ?_
                refine TL.on rfl rfl rfl rfl (not_t (beq_iff_eq.2 c36)) ?_
                refine TL.op1 (OpR.pure rfl) rfl ?_
                refine TL.on rfl rfl rfl rfl (not_t (beq_iff_eq.2 c36)) ?_
                refine TL.op1 (OpR.loadPtr 1 rfl rfl rfl rfl) rfl ?_
                refine TL.on rfl rfl rfl rfl (not_t (beq_iff_eq.2 c36)) ?_
                refine TL.op1 (OpR.pure rfl) rfl ?_
                refine TL.op1 (OpR.pickF rfl (not_t (beq_iff_eq.2 c36)) rfl) rfl ?_
                refine TL.op1 (OpR.pure rfl) rfl ?_
                rcases ite_some ht35 with ⟨c37, ht35⟩ | ⟨c37, ht35⟩
                · refine TL.on rfl rfl rfl rfl (not_t (beq_iff_eq.2 c37)) ?_
                  refine TL.op1 (OpR.pure rfl) rfl ?_
                  refine TL.on rfl rfl rfl rfl (not_t (beq_iff_eq.2 c37)) ?_
                  refine TL.op1 (OpR.loadPtr 0 rfl rfl rfl rfl) rfl ?_
                  refine TL.on rfl rfl rfl rfl (not_t (beq_iff_eq.2 c37)) ?_
                  refine TL.op1 (OpR.pure rfl) rfl ?_
                  refine TL.on rfl rfl rfl rfl (not_t (beq_iff_eq.2 c37)) ?_
                  refine TL.op1 (OpR.loadPtr 1 rfl rfl rfl rfl) rfl ?_
                  refine TL.on rfl rfl rfl rfl (not_t (beq_iff_eq.2 c37)) ?_
                  refine TL.op1 (OpR.pure rfl) rfl ?_
                  refine TL.op1 (OpR.pickF rfl (not_t (beq_iff_eq.2 c37)) rfl) rfl ?_
                  refine TL.op1 (OpR.pure rfl) rfl ?_
                  rcases ite_some ht35 with ⟨c38, ht35⟩ | ⟨c38, ht35⟩
                  · refine TL.on rfl rfl rfl rfl (not_t (beq_iff_eq.2 c38)) ?_
                    refine TL.op1 (OpR.pure rfl) rfl ?_
                    refine TL.on rfl rfl rfl rfl (not_t (beq_iff_eq.2 c38)) ?_
                    refine TL.op1 (OpR.pure rfl) rfl ?_
                    refine TL.on rfl rfl rfl rfl (not_t (beq_iff_eq.2 c38)) ?_
                    refine TL.op1 (OpR.loadPtr 1 rfl rfl rfl rfl) rfl ?_
                    refine TL.on rfl rfl rfl rfl (not_t (beq_iff_eq.2 c38)) ?_
                    obtain ⟨x39, hx39, ht35⟩ := bnd_some ht35
                    refine TL.op1 (OpR.call0 fn20 (ref04_Spans_c hx39) rfl) rfl ?_
                    refine TL.on rfl rfl rfl rfl (not_t (beq_iff_eq.2 c38)) ?_
                    obtain ⟨x40, hx40, ht35⟩ := bnd_some ht35
                    refine TL.op1 (OpR.call [2] fn19 (ref04_Same_2_c hx40) rfl rfl rfl (fun _ => rfl)) rfl ?_
                    refine TL.on rfl rfl rfl rfl (not_t (beq_iff_eq.2 c38)) ?_
                    refine TL.op1 (OpR.pure rfl) rfl ?_
                    refine TL.op1 (OpR.pickF rfl (not_t (beq_iff_eq.2 c38)) rfl) rfl ?_
                    refine TL.nil ?_
                    obtain rfl := Option.some.inj ht35
                    exact ⟨_, Gst.trans (Gst.only [3, 4, 26, 27, 28, 84] rfl) (Gst.pick [] rfl rfl), rfl⟩
                  · refine TL.off rfl rfl rfl rfl (not_f (beq_eq_false_iff_ne.2 c38)) rfl rfl ?_
                    refine TL.off rfl rfl rfl rfl (not_f (beq_eq_false_iff_ne.2 c38)) rfl rfl ?_
                    refine TL.off rfl rfl rfl rfl (not_f (beq_eq_false_iff_ne.2 c38)) rfl rfl ?_
                    refine TL.off rfl rfl rfl rfl (not_f (beq_eq_false_iff_ne.2 c38)) rfl rfl ?_
                    refine TL.off rfl rfl rfl rfl (not_f (beq_eq_false_iff_ne.2 c38)) rfl rfl ?_
                    refine TL.off rfl rfl rfl rfl (not_f (beq_eq_false_iff_ne.2 c38)) rfl rfl ?_
                    refine TL.op1 (OpR.pickT rfl (not_f (beq_eq_false_iff_ne.2 c38)) rfl) rfl ?_
                    refine TL.nil ?_
                    obtain rfl := Option.some.inj ht35
                    exact ⟨_, Gst.trans (Gst.only [3, 4, 26, 27, 28, 84] rfl) (Gst.pick [] rfl rfl), rfl⟩
                · refine TL.off rfl rfl rfl rfl (not_f (beq_eq_false_iff_ne.2 c37)) rfl rfl ?_
                  refine TL.off rfl rfl rfl rfl (not_f (beq_eq_false_iff_ne.2 c37)) rfl rfl ?_
                  refine TL.off rfl rfl rfl rfl (not_f (beq_eq_false_iff_ne.2 c37)) rfl rfl ?_
                  refine TL.off rfl rfl rfl rfl (not_f (beq_eq_false_iff_ne.2 c37)) rfl rfl ?_
                  refine TL.off rfl rfl rfl rfl (not_f (beq_eq_false_iff_ne.2 c37)) rfl rfl ?_
                  refine TL.op1 (OpR.pickT rfl (not_f (beq_eq_false_iff_ne.2 c37)) rfl) rfl ?_
                  refine TL.op1 (OpR.pure rfl) rfl ?_
                  refine TL.off rfl rfl rfl rfl rfl rfl rfl ?_
                  refine TL.off rfl rfl rfl rfl rfl rfl rfl ?_
                  refine TL.off rfl rfl rfl rfl rfl rfl rfl ?_
                  refine TL.off rfl rfl rfl rfl rfl rfl rfl ?_
                  refine TL.off rfl rfl rfl rfl rfl rfl rfl ?_
                  refine TL.off rfl rfl rfl rfl rfl rfl rfl ?_
                  refine TL.op1 (OpR.pickT rfl rfl rfl) rfl ?_
                  refine TL.nil ?_
                  obtain rfl := Option.some.inj ht35
                  exact ⟨_, Gst.trans (Gst.only [3, 4, 26, 27, 28, 84] rfl) (Gst.pick [] rfl rfl), rfl⟩
              · refine TL.off rfl rfl rfl rfl (not_f (beq_eq_false_iff_ne.2 c36)) rfl rfl ?_
                refine TL.off rfl rfl rfl rfl (not_f (beq_eq_false_iff_ne.2 c36)) rfl rfl ?_
                refine TL.off rfl rfl rfl rfl (not_f (beq_eq_false_iff_ne.2 c36)) rfl rfl ?_
                refine TL.off rfl rfl rfl rfl (not_f (beq_eq_false_iff_ne.2 c36)) rfl rfl ?_
                refine TL.off rfl rfl rfl rfl (not_f (beq_eq_false_iff_ne.2 c36)) rfl rfl ?_
                refine TL.off rfl rfl rfl rfl (not_f (beq_eq_false_iff_ne.2 c36)) rfl rfl ?_
                refine TL.off rfl rfl rfl rfl (not_f (beq_eq_false_iff_ne.2 c36)) rfl rfl ?_
                refine TL.op1 (OpR.pickT rfl (not_f (beq_eq_false_iff_ne.2 c36)) rfl) rfl ?_
                refine TL.op1 (OpR.pure rfl) rfl ?_
                refine TL.off rfl rfl rfl rfl rfl rfl rfl ?_
                refine TL.off rfl rfl rfl rfl rfl rfl rfl ?_
                refine TL.off rfl rfl rfl rfl rfl rfl rfl ?_
                refine TL.off rfl rfl rfl rfl rfl rfl rfl ?_
                refine TL.off rfl rfl rfl rfl rfl rfl rfl ?_
                refine TL.op1 (OpR.pickT rfl rfl rfl) rfl ?_
                refine TL.op1 (OpR.pure rfl) rfl ?_
                refine TL.off rfl rfl rfl rfl rfl rfl rfl ?_
                refine TL.off rfl rfl rfl rfl rfl rfl rfl ?_
                refine TL.off rfl rfl rfl rfl rfl rfl rfl ?_
                refine TL.off rfl rfl rfl rfl rfl rfl rfl ?_
                refine TL.off rfl rfl rfl rfl rfl rfl rfl ?_
                refine TL.off rfl rfl rfl rfl rfl rfl rfl ?_
                refine TL.op1 (OpR.pickT rfl rfl rfl) rfl ?_
                refine TL.nil ?_
                obtain rfl := Option.some.inj ht35
                exact ⟨_, Gst.trans (Gst.only [3, 4, 26, 27, 28, 84] rfl) (Gst.pick [] rfl rfl), rfl⟩
            · rintro _ rfl
              show T X _ _ _
              rcases ite_some q10 with ⟨c41, q10⟩ | ⟨c41, q10⟩
              · refine T.condT rfl (c41) ?_
                refine T.seq ?_
                refine T.region ?_
                refine TL.op1 (OpR.pure rfl) rfl ?_
                refine TL.nil ?_
                show T X _ _ _
                refine T.ret ?_
                obtain rfl := Option.some.inj q10
                obtain rfl : _ = _ := i11
                obtain rfl := Option.some.inj h0
                exact PostG.retP (ks := []) (Gst.only [4] rfl) undef (ResL.cons (ResV.tmp rfl) ResL.nil) rfl rfl rfl rfl
              · refine T.condF rfl (eq_false_of_ne_true c41) ?_
                refine T.skip ?_
                show T X _ _ _
                refine T.region ?_
                refine TL.op1 (OpR.pure rfl) rfl ?_
                refine TL.op1 (OpR.pure rfl) rfl ?_
                refine TL.nil ?_
                obtain rfl := Option.some.inj q10
                exact ⟨m8, Nat.lt_succ_self _, _, Gst.only [3, 4, 26, 27, 28] rfl, w64 (s6 + 1), rfl, i11⟩
        · refine T.condF rfl (decide_eq_false c14) ?_
          refine T.exit ?_
          obtain rfl := Option.some.inj q10
          obtain rfl : _ = _ := i11
          exact ⟨_, Gst.only [4] rfl, _, rfl, rfl⟩
      · rintro _ ⟨u5, rfl, rfl⟩
        show T X _ _ _
        refine T.seq ?_
        refine T.region ?_
        refine TL.op1 (OpR.pure rfl) rfl ?_
        refine TL.nil ?_
        show T X _ _ _
        refine T.ret ?_
        obtain rfl := Option.some.inj h0
        exact PostG.retP (ks := []) (Gst.only [4] rfl) undef (ResL.cons (ResV.tmp rfl) ResL.nil) rfl rfl rfl rfl
noncomputable def scan_Value.l1 (a0 : List UInt8) (a1 : scan_Field) (s4 : Int × (List UInt8)) : Option (Lp (Int × (List UInt8)) (List UInt8)) :=
  if s4.1 < (a1.fParts.length : Int) then
    bnd (idx a1.fParts s4.1) fun x13 =>
    bnd (if x13.fAt ≥ 0 then
      if x13.fN ≥ 0 then
        if x13.fAt ≤ (a0.length : Int) then
          some (decide (x13.fN ≤ (w64 ((a0.length : Int) - x13.fAt))))
        else
          some false
      else
        some false
    else
      some false : Option Bool) fun t15 =>
    bnd (if t15 = true then
      bnd (cut a0 x13.fAt (w64 (x13.fAt + x13.fN))) fun x22 =>
      bnd (app 1 s4.2 x22) fun x23 =>
      some x23
    else
      some s4.2 : Option (List UInt8)) fun t19 =>
    some (Lp.next (w64 (s4.1 + 1), t19))
  else
    some (Lp.done s4.2)
noncomputable def scan_Value (a0 : List UInt8) (a1 : scan_Field) : Option (List UInt8) :=
  bnd (loop (scan_Value.l1 a0 a1) (0, []) : Option (List UInt8)) fun t1 =>
  some t1
set_option maxHeartbeats 4000000 in
theorem scan_Value_c {a0 : List UInt8} {a1 : scan_Field} {res : (List UInt8)} (h0 : scan_Value a0 a1 = some res) : CallF X 54 [.sl 1 (List.map byteD a0), .agg [.val (.int .i64 a1.fRaw.fAt), .val (.int .i64 a1.fRaw.fN), .val (.int .i64 a1.fKind), .sl 2 (List.map e_arena_Span a1.fParts)]] [] (fun x => .sl 1 (List.map byteD res)) (fun x => []) := by
  unfold scan_Value at h0
  refine CallF.mkG (X := X) Try.func54 rfl rfl Try.ntmps54 rfl rfl ?_
  refine T.seq ?_
  refine T.region ?_
  refine TL.op1 (OpR.boxImm rfl rfl) rfl ?_
  refine TL.op1 (OpR.pure rfl) rfl ?_
  refine TL.nil ?_
  show T X _ _ _
  refine T.seq ?_
  refine T.region ?_
  refine TL.op1 (OpR.pure rfl) rfl ?_
  refine TL.nil ?_
  show T X _ _ _
  refine T.seq ?_
  refine T.seq ?_
  refine T.region ?_
  refine TL.op1 (OpR.pure rfl) rfl ?_
  refine TL.op1 (OpR.pure rfl) rfl ?_
  refine TL.op1 (OpR.cast (OpR.pure rfl) (intE (lenM _ _))) rfl ?_
  refine TL.op1 (OpR.pure rfl) rfl ?_
  refine TL.nil ?_
  show T X _ _ _
  obtain ⟨t1, ht1, h0⟩ := bnd_some h0
  refine T.cutC (fun S' => ∃ y2 : Value, S' = ⟨[(5, .val y2), (4, .val (.slice none 0 0))], [.row y2 (List.map byteD t1) 1 5], 53⟩) (fun _ h => h) ?_ ?_
  · refine T.block ?_
    obtain ⟨n5, n10⟩ := loop_some ht1
    refine T.loop (fun n S' => ∃ S'', Gst S' S'' ∧ ∃ y3 : Value, ∃ s4 : Int × (List UInt8), S'' = ⟨[(11, .val (.int .i64 s4.1)), (10, .val (.int .i64 (a1.fParts.length : Int))), (9, .sl 2 (List.map e_arena_Span a1.fParts)), (5, .val y3), (4, .val (.slice none 0 0)), (0, .sl 1 (List.map byteD a0))], [.row y3 (List.map byteD s4.2) 1 5], 53⟩ ∧ iter (scan_Value.l1 a0 a1) n s4 = some t1) n5 ?_ ?_
    · exact ⟨_, Gst.trans (Gst.only [0, 4, 5, 9, 10, 11] rfl) (Gst.nilRow (ow := []) 1 5 rfl), (.slice none 0 0), (0, []), rfl, n10⟩
    rintro n5 _ ⟨_, g, y3, s4, rfl, i9⟩
    refine T.ghost g ?_
    obtain ⟨m6, q7, rfl, q8, i9⟩ := iter_succ i9
    unfold scan_Value.l1 at q8
    refine T.seq ?_
    refine T.region ?_
    refine TL.op1 (OpR.pure rfl) rfl ?_
    refine TL.nil ?_
    show T X _ _ _
    refine T.seq ?_
    rcases ite_some q8 with ⟨c12, q8⟩ | ⟨c12, q8⟩
    · refine T.condT rfl (decide_eq_true c12) ?_
      refine T.skip ?_
      show T X _ _ _
      refine T.seq ?_
      refine T.block ?_
      refine T.seq ?_
      refine T.region ?_
      obtain ⟨x13, hx13, q8⟩ := bnd_some q8
      refine TL.op1 (OpR.indexM e_arena_Span hx13 rfl rfl rfl rfl rfl) rfl ?_
      refine TL.op1 (OpR.pure rfl) rfl ?_
      refine TL.op (OpR.alloc rfl rfl (fun _ => rfl)) rfl (fun p14 => ?_)
      refine TL.op0 (OpR.store 1 rfl rfl rfl rfl rfl rfl rfl rfl) ?_
      refine TL.nil ?_
      show T X _ _ _
      refine T.seq ?_
      obtain ⟨t15, ht15, q8⟩ := bnd_some q8
      refine T.cutC (fun S' => S' = ⟨[(39, .val (.bool t15)), (11, .val (.int .i64 s4.1)), (10, .val (.int .i64 (a1.fParts.length : Int))), (9, .sl 2 (List.map e_arena_Span a1.fParts)), (7, .val (.pointer (some ⟨(blk p14), 0, none⟩))), (5, .val y3), (4, .val (.slice none 0 0)), (0, .sl 1 (List.map byteD a0))], [.row y3 (List.map byteD s4.2) 1 5, .var (blk p14) [.val (.int .i64 x13.fAt), .val (.int .i64 x13.fN)] 75], 53⟩) (fun _ h => h) ?_ ?_
      · refine T.region ?_
        refine TL.op1 (OpR.pure rfl) rfl ?_
        refine TL.op1 (OpR.loadPtr 1 rfl rfl rfl rfl) rfl ?_
        refine TL.op1 (OpR.pure rfl) rfl ?_
        refine TL.op1 (OpR.pure rfl) rfl ?_
        rcases ite_some ht15 with ⟨c16, ht15⟩ | ⟨c16, ht15⟩
        · refine TL.on rfl rfl rfl rfl (decide_eq_true c16) ?_
          refine TL.op1 (OpR.pure rfl) rfl ?_
          refine TL.on rfl rfl rfl rfl (decide_eq_true c16) ?_
          refine TL.op1 (OpR.loadPtr 1 rfl rfl rfl rfl) rfl ?_
          refine TL.on rfl rfl rfl rfl (decide_eq_true c16) ?_
          refine TL.op1 (OpR.pure rfl) rfl ?_
          refine TL.op1 (OpR.pickT rfl (decide_eq_true c16) rfl) rfl ?_
          refine TL.op1 (OpR.pure rfl) rfl ?_
          rcases ite_some ht15 with ⟨c17, ht15⟩ | ⟨c17, ht15⟩
          · refine TL.on rfl rfl rfl rfl (decide_eq_true c17) ?_
            refine TL.op1 (OpR.pure rfl) rfl ?_
            refine TL.on rfl rfl rfl rfl (decide_eq_true c17) ?_
            refine TL.op1 (OpR.loadPtr 1 rfl rfl rfl rfl) rfl ?_
            refine TL.on rfl rfl rfl rfl (decide_eq_true c17) ?_
            refine TL.op1 (OpR.pure rfl) rfl ?_
            refine TL.on rfl rfl rfl rfl (decide_eq_true c17) ?_
            refine TL.op1 (OpR.cast (OpR.pure rfl) (intE (lenM _ _))) rfl ?_
            refine TL.on rfl rfl rfl rfl (decide_eq_true c17) ?_
            refine TL.op1 (OpR.pure rfl) rfl ?_
            refine TL.op1 (OpR.pickT rfl (decide_eq_true c17) rfl) rfl ?_
            refine TL.op1 (OpR.pure rfl) rfl ?_
            rcases ite_some ht15 with ⟨c18, ht15⟩ | ⟨c18, ht15⟩
            · refine TL.on rfl rfl rfl rfl (decide_eq_true c18) ?_
              refine TL.op1 (OpR.pure rfl) rfl ?_
              refine TL.on rfl rfl rfl rfl (decide_eq_true c18) ?_
              refine TL.op1 (OpR.loadPtr 1 rfl rfl rfl rfl) rfl ?_
              refine TL.on rfl rfl rfl rfl (decide_eq_true c18) ?_
              refine TL.op1 (OpR.pure rfl) rfl ?_
              refine TL.on rfl rfl rfl rfl (decide_eq_true c18) ?_
              refine TL.op1 (OpR.cast (OpR.pure rfl) (intE (lenM _ _))) rfl ?_
              refine TL.on rfl rfl rfl rfl (decide_eq_true c18) ?_
              refine TL.op1 (OpR.pure rfl) rfl ?_
              refine TL.on rfl rfl rfl rfl (decide_eq_true c18) ?_
              refine TL.op1 (OpR.loadPtr 1 rfl rfl rfl rfl) rfl ?_
              refine TL.on rfl rfl rfl rfl (decide_eq_true c18) ?_
              refine TL.op1 (OpR.pure rfl) rfl ?_
              refine TL.on rfl rfl rfl rfl (decide_eq_true c18) ?_
              refine TL.op1 (OpR.pure rfl) rfl ?_
              refine TL.op1 (OpR.pickT rfl (decide_eq_true c18) rfl) rfl ?_
              refine TL.nil ?_
              obtain rfl := Option.some.inj ht15
              exact ⟨_, Gst.only [0, 4, 5, 7, 9, 10, 11, 39] rfl, rfl⟩
            · refine TL.off rfl rfl rfl rfl (decide_eq_false c18) rfl rfl ?_
              refine TL.off rfl rfl rfl rfl (decide_eq_false c18) rfl rfl ?_
              refine TL.off rfl rfl rfl rfl (decide_eq_false c18) rfl rfl ?_
              refine TL.off rfl rfl rfl rfl (decide_eq_false c18) rfl rfl ?_
              refine TL.off rfl rfl rfl rfl (decide_eq_false c18) rfl rfl ?_
              refine TL.off rfl rfl rfl rfl (decide_eq_false c18) rfl rfl ?_
              refine TL.off rfl rfl rfl rfl (decide_eq_false c18) rfl rfl ?_
              refine TL.off rfl rfl rfl rfl (decide_eq_false c18) rfl rfl ?_
              refine TL.op1 (OpR.pickF rfl (decide_eq_false c18) rfl) rfl ?_
              refine TL.nil ?_
              obtain rfl := Option.some.inj ht15
              exact ⟨_, Gst.only [0, 4, 5, 7, 9, 10, 11, 39] rfl, rfl⟩
          · refine TL.off rfl rfl rfl rfl (decide_eq_false c17) rfl rfl ?_
            refine TL.off rfl rfl rfl rfl (decide_eq_false c17) rfl rfl ?_
            refine TL.off rfl rfl rfl rfl (decide_eq_false c17) rfl rfl ?_
            refine TL.off rfl rfl rfl rfl (decide_eq_false c17) rfl rfl ?_
            refine TL.off rfl rfl rfl rfl (decide_eq_false c17) rfl rfl ?_
            refine TL.op1 (OpR.pickF rfl (decide_eq_false c17) rfl) rfl ?_
            refine TL.op1 (OpR.pure rfl) rfl ?_
            refine TL.off rfl rfl rfl rfl rfl rfl rfl ?_
            refine TL.off rfl rfl rfl rfl rfl rfl rfl ?_
            refine TL.off rfl rfl rfl rfl rfl rfl rfl ?_
            refine TL.off rfl rfl rfl rfl rfl rfl rfl ?_
            refine TL.off rfl rfl rfl rfl rfl rfl rfl ?_
            refine TL.off rfl rfl rfl rfl rfl rfl rfl ?_
            refine TL.off rfl rfl rfl rfl rfl rfl rfl ?_
            refine TL.off rfl rfl rfl rfl rfl rfl rfl ?_
            refine TL.op1 (OpR.pickF rfl rfl rfl) rfl ?_
            refine TL.nil ?_
            obtain rfl := Option.some.inj ht15
            exact ⟨_, Gst.only [0, 4, 5, 7, 9, 10, 11, 39] rfl, rfl⟩
        · refine TL.off rfl rfl rfl rfl (decide_eq_false c16) rfl rfl ?_
          refine TL.off rfl rfl rfl rfl (decide_eq_false c16) rfl rfl ?_
          refine TL.off rfl rfl rfl rfl (decide_eq_false c16) rfl rfl ?_
          refine TL.op1 (OpR.pickF rfl (decide_eq_false c16) rfl) rfl ?_
          refine TL.op1 (OpR.pure rfl) rfl ?_
          refine TL.off rfl rfl rfl rfl rfl rfl rfl ?_
          refine TL.off rfl rfl rfl rfl rfl rfl rfl ?_
          refine TL.off rfl rfl rfl rfl rfl rfl rfl ?_
          refine TL.off rfl rfl rfl rfl rfl rfl rfl ?_
          refine TL.off rfl rfl rfl rfl rfl rfl rfl ?_
          refine TL.op1 (OpR.pickF rfl rfl rfl) rfl ?_
          refine TL.op1 (OpR.pure rfl) rfl ?_
          refine TL.off rfl rfl rfl rfl rfl rfl rfl ?_
          refine TL.off rfl rfl rfl rfl rfl rfl rfl ?_
          refine TL.off rfl rfl rfl rfl rfl rfl rfl ?_
          refine TL.off rfl rfl rfl rfl rfl rfl rfl ?_
          refine TL.off rfl rfl rfl rfl rfl rfl rfl ?_
          refine TL.off rfl rfl rfl rfl rfl rfl rfl ?_
          refine TL.off rfl rfl rfl rfl rfl rfl rfl ?_
          refine TL.off rfl rfl rfl rfl rfl rfl rfl ?_
          refine TL.op1 (OpR.pickF rfl rfl rfl) rfl ?_
          refine TL.nil ?_
          obtain rfl := Option.some.inj ht15
          exact ⟨_, Gst.only [0, 4, 5, 7, 9, 10, 11, 39] rfl, rfl⟩
      · rintro _ rfl
        show T X _ _ _
        obtain ⟨t19, ht19, q8⟩ := bnd_some q8
        refine T.cutC (fun S' => ∃ y20 : Value, S' = ⟨[(11, .val (.int .i64 s4.1)), (10, .val (.int .i64 (a1.fParts.length : Int))), (9, .sl 2 (List.map e_arena_Span a1.fParts)), (5, .val y20), (4, .val (.slice none 0 0)), (0, .sl 1 (List.map byteD a0))], [.row y20 (List.map byteD t19) 1 5], 53⟩) (fun _ h => h) ?_ ?_
        · rcases ite_some ht19 with ⟨c21, ht19⟩ | ⟨c21, ht19⟩
          · refine T.condT rfl (c21) ?_
            refine T.region ?_
            refine TL.op1 (OpR.pure rfl) rfl ?_
            refine TL.op1 (OpR.pure rfl) rfl ?_
            refine TL.op1 (OpR.pure rfl) rfl ?_
            refine TL.op1 (OpR.loadPtr 1 rfl rfl rfl rfl) rfl ?_
            refine TL.op1 (OpR.pure rfl) rfl ?_
            refine TL.op1 (OpR.loadPtr 1 rfl rfl rfl rfl) rfl ?_
            refine TL.op1 (OpR.pure rfl) rfl ?_
            refine TL.op1 (OpR.loadPtr 1 rfl rfl rfl rfl) rfl ?_
            refine TL.op1 (OpR.pure rfl) rfl ?_
            obtain ⟨x22, hx22, ht19⟩ := bnd_some ht19
            refine TL.op1 (OpR.sliceM (sz := 1) byteD hx22 rfl rfl rfl rfl (BdM.some rfl) (BdM.some rfl) rfl) rfl ?_
            obtain ⟨x23, hx23, ht19⟩ := bnd_some ht19
            refine TL.op (OpR.appendM (m := x22) byteD 0 hx23 rfl rfl rfl rfl rfl rfl rfl rfl rfl (fun _ => rfl)) rfl (fun v24 => ?_)
            refine TL.op1 (OpR.pure rfl) rfl ?_
            refine TL.nil ?_
            obtain rfl := Option.some.inj ht19
            exact ⟨_, Gst.trans (Gst.only [0, 4, 5, 9, 10, 11] rfl) (Gst.pick [0] rfl rfl), v24, rfl⟩
          · refine T.condF rfl (eq_false_of_ne_true c21) ?_
            refine T.skip ?_
            obtain rfl := Option.some.inj ht19
            exact ⟨_, Gst.trans (Gst.only [0, 4, 5, 9, 10, 11] rfl) (Gst.pick [0] rfl rfl), y3, rfl⟩
        · rintro _ ⟨y20, rfl⟩
          show T X _ _ _
          refine T.region ?_
          refine TL.op1 (OpR.pure rfl) rfl ?_
          refine TL.op1 (OpR.pure rfl) rfl ?_
          refine TL.nil ?_
          obtain rfl := Option.some.inj q8
          exact ⟨m6, Nat.lt_succ_self _, _, Gst.only [0, 4, 5, 9, 10, 11] rfl, y20, (w64 (s4.1 + 1), t19), rfl, i9⟩
    · refine T.condF rfl (decide_eq_false c12) ?_
      refine T.exit ?_
      obtain rfl := Option.some.inj q8
      obtain rfl : _ = _ := i9
      exact ⟨_, Gst.only [4, 5] rfl, y3, rfl⟩
  · rintro _ ⟨y2, rfl⟩
    show T X _ _ _
    refine T.seq ?_
    refine T.region ?_
    refine TL.op1 (OpR.pure rfl) rfl ?_
    refine TL.op1 (OpR.pure rfl) rfl ?_
    refine TL.nil ?_
    show T X _ _ _
    refine T.ret ?_
    obtain rfl := Option.some.inj h0
    exact PostG.retP (ks := []) (Gst.trans (Gst.only [4] rfl) (Gst.trans (Gst.freezeRow 0 rfl rfl (ReS.cons (Re.base .all) ReS.nil) (ReO.same ReO.nil)) (Gst.pick [] rfl rfl))) undef (ResL.cons (ResV.tmp rfl) ResL.nil) rfl rfl rfl rfl
noncomputable def ref05_Text.l1 (a0 : List UInt8) (a1 : List Int) (s2 : (List UInt8) × Int) : Option (Lp ((List UInt8) × Int) (List UInt8)) :=
  if s2.2 < (a1.length : Int) then
    bnd (idx a1 s2.2) fun x11 =>
    bnd (cut a0 x11 (w64 (x11 + 1))) fun x12 =>
    bnd (catS s2.1 x12) fun x13 =>
    some (Lp.next (x13, w64 (s2.2 + 1)))
  else
    some (Lp.done s2.1)
noncomputable def ref05_Text (a0 : List UInt8) (a1 : List Int) : Option (List UInt8) :=
  bnd (loop (ref05_Text.l1 a0 a1) ([], 0) : Option (List UInt8)) fun t1 =>
  some t1
set_option maxHeartbeats 4000000 in
theorem ref05_Text_c {a0 : List UInt8} {a1 : List Int} {res : (List UInt8)} (h0 : ref05_Text a0 a1 = some res) : CallF X 55 [.val (.string (bs a0)), .sl 1 (List.map (eI .i64) a1)] [] (fun x => .val (.string (bs res))) (fun x => []) := by
  unfold ref05_Text at h0
  refine CallF.mkG (X := X) Try.func55 rfl rfl Try.ntmps55 rfl rfl ?_
  refine T.seq ?_
  refine T.region ?_
  refine TL.op1 (OpR.pure rfl) rfl ?_
  refine TL.nil ?_
  show T X _ _ _
  refine T.seq ?_
  refine T.region ?_
  refine TL.op1 (OpR.pure rfl) rfl ?_
  refine TL.nil ?_
  show T X _ _ _
  refine T.seq ?_
  refine T.seq ?_
  refine T.region ?_
  refine TL.op1 (OpR.pure rfl) rfl ?_
  refine TL.op1 (OpR.cast (OpR.pure rfl) (intE (lenM _ _))) rfl ?_
  refine TL.op1 (OpR.pure rfl) rfl ?_
  refine TL.nil ?_
  show T X _ _ _
  obtain ⟨t1, ht1, h0⟩ := bnd_some h0
  refine T.cutC (fun S' => S' = ⟨[(5, .val (.string (bs t1))), (4, .val (.string (bs [])))], [], 23⟩) (fun _ h => h) ?_ ?_
  · refine T.block ?_
    obtain ⟨n3, n8⟩ := loop_some ht1
    refine T.loop (fun n S' => ∃ S'', Gst S' S'' ∧ ∃ s2 : (List UInt8) × Int, S'' = ⟨[(10, .val (.int .i64 s2.2)), (9, .val (.int .i64 (a1.length : Int))), (8, .sl 1 (List.map (eI .i64) a1)), (5, .val (.string (bs s2.1))), (4, .val (.string (bs []))), (0, .val (.string (bs a0)))], [], 23⟩ ∧ iter (ref05_Text.l1 a0 a1) n s2 = some t1) n3 ?_ ?_
    · exact ⟨_, Gst.only [0, 4, 5, 8, 9, 10] rfl, ([], 0), rfl, n8⟩
    rintro n3 _ ⟨_, g, s2, rfl, i7⟩
    refine T.ghost g ?_
    obtain ⟨m4, q5, rfl, q6, i7⟩ := iter_succ i7
    unfold ref05_Text.l1 at q6
    refine T.seq ?_
    refine T.region ?_
    refine TL.op1 (OpR.pure rfl) rfl ?_
    refine TL.nil ?_
    show T X _ _ _
    refine T.seq ?_
    rcases ite_some q6 with ⟨c10, q6⟩ | ⟨c10, q6⟩
    · refine T.condT rfl (decide_eq_true c10) ?_
      refine T.skip ?_
      show T X _ _ _
      refine T.seq ?_
      refine T.block ?_
      refine T.seq ?_
      refine T.region ?_
      obtain ⟨x11, hx11, q6⟩ := bnd_some q6
      refine TL.op1 (OpR.indexM (eI .i64) hx11 rfl rfl rfl rfl rfl) rfl ?_
      refine TL.op1 (OpR.pure rfl) rfl ?_
      refine TL.op1 (OpR.pure rfl) rfl ?_
      refine TL.nil ?_
      show T X _ _ _
      refine T.region ?_
      refine TL.op1 (OpR.pure rfl) rfl ?_
      refine TL.op1 (OpR.pure rfl) rfl ?_
      refine TL.op1 (OpR.pure rfl) rfl ?_
      refine TL.op1 (OpR.pure rfl) rfl ?_
      refine TL.op1 (OpR.pure rfl) rfl ?_
      obtain ⟨x12, hx12, q6⟩ := bnd_some q6
      refine TL.op1 (OpR.sliceS hx12 rfl rfl rfl (BdM.some rfl) (BdM.some rfl)) rfl ?_
      obtain ⟨x13, hx13, q6⟩ := bnd_some q6
      refine TL.op1 (OpR.concatM hx13 rfl rfl) rfl ?_
      refine TL.op1 (OpR.pure rfl) rfl ?_
      refine TL.nil ?_
      show T X _ _ _
      refine T.region ?_
      refine TL.op1 (OpR.pure rfl) rfl ?_
      refine TL.op1 (OpR.pure rfl) rfl ?_
      refine TL.nil ?_
      obtain rfl := Option.some.inj q6
      exact ⟨m4, Nat.lt_succ_self _, _, Gst.only [0, 4, 5, 8, 9, 10] rfl, (x13, w64 (s2.2 + 1)), rfl, i7⟩
    · refine T.condF rfl (decide_eq_false c10) ?_
      refine T.exit ?_
      obtain rfl := Option.some.inj q6
      obtain rfl : _ = _ := i7
      exact ⟨_, Gst.only [4, 5] rfl, rfl⟩
  · rintro _ rfl
    show T X _ _ _
    refine T.seq ?_
    refine T.region ?_
    refine TL.op1 (OpR.pure rfl) rfl ?_
    refine TL.op1 (OpR.pure rfl) rfl ?_
    refine TL.nil ?_
    show T X _ _ _
    refine T.ret ?_
    obtain rfl := Option.some.inj h0
    exact PostG.retP (ks := []) (Gst.only [4] rfl) undef (ResL.cons (ResV.tmp rfl) ResL.nil) rfl rfl rfl rfl
noncomputable def scan_Mark (a0 : Int) : Option (List UInt8) :=
  if a0 = 1 then
    some [10]
  else
    if a0 = 2 then
      some [13, 10]
    else
      if a0 = 3 then
        some [13]
      else
        some []
set_option maxHeartbeats 4000000 in
theorem scan_Mark_c {a0 : Int} {res : (List UInt8)} (h0 : scan_Mark a0 = some res) : CallF X 57 [.val (.int .i64 a0)] [] (fun x => .val (.string (bs res))) (fun x => []) := by
  unfold scan_Mark at h0
  refine CallF.mkG (X := X) Try.func57 rfl rfl Try.ntmps57 rfl rfl ?_
  refine T.seq ?_
  refine T.region ?_
  refine TL.op1 (OpR.pure rfl) rfl ?_
  refine TL.nil ?_
  show T X _ _ _
  refine T.seq ?_
  refine T.seq ?_
  refine T.region ?_
  refine TL.op1 (OpR.pure rfl) rfl ?_
  refine TL.nil ?_
  show T X _ _ _
  refine T.block ?_
  refine T.seq ?_
  refine T.region ?_
  refine TL.op1 (OpR.pure rfl) rfl ?_
  refine TL.op1 (OpR.pure rfl) rfl ?_
  refine TL.nil ?_
  show T X _ _ _
  rcases ite_some h0 with ⟨c1, h0⟩ | ⟨c1, h0⟩
  · refine T.condT rfl (beq_iff_eq.2 c1) ?_
    refine T.seq ?_
    refine T.region ?_
    refine TL.op1 (OpR.pure rfl) rfl ?_
    refine TL.nil ?_
    show T X _ _ _
    refine T.ret ?_
    obtain rfl := Option.some.inj h0
    exact PostG.retP (ks := []) (Gst.only [2] rfl) undef (ResL.cons (ResV.tmp rfl) ResL.nil) rfl rfl rfl rfl
  · refine T.condF rfl (beq_eq_false_iff_ne.2 c1) ?_
    refine T.seq ?_
    refine T.region ?_
    refine TL.op1 (OpR.pure rfl) rfl ?_
    refine TL.op1 (OpR.pure rfl) rfl ?_
    refine TL.nil ?_
    show T X _ _ _
    rcases ite_some h0 with ⟨c2, h0⟩ | ⟨c2, h0⟩
    · refine T.condT rfl (beq_iff_eq.2 c2) ?_
      refine T.seq ?_
      refine T.region ?_
      refine TL.op1 (OpR.pure rfl) rfl ?_
      refine TL.nil ?_
      show T X _ _ _
      refine T.ret ?_
      obtain rfl := Option.some.inj h0
      exact PostG.retP (ks := []) (Gst.only [2] rfl) undef (ResL.cons (ResV.tmp rfl) ResL.nil) rfl rfl rfl rfl
    · refine T.condF rfl (beq_eq_false_iff_ne.2 c2) ?_
      refine T.seq ?_
      refine T.region ?_
      refine TL.op1 (OpR.pure rfl) rfl ?_
      refine TL.op1 (OpR.pure rfl) rfl ?_
      refine TL.nil ?_
      show T X _ _ _
      rcases ite_some h0 with ⟨c3, h0⟩ | ⟨c3, h0⟩
      · refine T.condT rfl (beq_iff_eq.2 c3) ?_
        refine T.seq ?_
        refine T.region ?_
        refine TL.op1 (OpR.pure rfl) rfl ?_
        refine TL.nil ?_
        show T X _ _ _
        refine T.ret ?_
        obtain rfl := Option.some.inj h0
        exact PostG.retP (ks := []) (Gst.only [2] rfl) undef (ResL.cons (ResV.tmp rfl) ResL.nil) rfl rfl rfl rfl
      · refine T.condF rfl (beq_eq_false_iff_ne.2 c3) ?_
        refine T.skip ?_
        show T X _ _ _
        refine T.seq ?_
        refine T.region ?_
        refine TL.op1 (OpR.pure rfl) rfl ?_
        refine TL.nil ?_
        show T X _ _ _
        refine T.ret ?_
        obtain rfl := Option.some.inj h0
        exact PostG.retP (ks := []) (Gst.only [2] rfl) undef (ResL.cons (ResV.tmp rfl) ResL.nil) rfl rfl rfl rfl
noncomputable def law05_awake : Option Bool :=
  bnd (scan_All [97, 44, 34, 98, 34, 34, 99, 34, 100]) fun x2 =>
  bnd (if (x2.length : Int) = 1 then
    bnd (idx x2 0) fun x5 =>
    some (!((x5.fFields.length : Int) == 2))
  else
    some true : Option Bool) fun t3 =>
  if t3 = true then
    some false
  else
    bnd (idx x2 0) fun x7 =>
    bnd (idx x7.fFields 1) fun x8 =>
    bnd (if x8.fKind = 3 then
      bnd (scan_Value [97, 44, 34, 98, 34, 34, 99, 34, 100] x8) fun x12 =>
      if x12 = [98, 34, 99, 100] then
        if x8.fRaw = (⟨2, 7⟩ : arena_Span) then
          bnd (scan_Mark 2) fun x15 =>
          some (x15 == [13, 10])
        else
          some false
      else
        some false
    else
      some false : Option Bool) fun t10 =>
    some t10
set_option maxHeartbeats 4000000 in
theorem law05_awake_c {res : Bool} (h0 : law05_awake = some res) : CallF X 56 [] [] (fun x => .val (.bool res)) (fun x => []) := by
  unfold law05_awake at h0
  refine CallF.mkG (X := X) Try.func56 rfl rfl Try.ntmps56 rfl rfl ?_
  refine T.seq ?_
  refine T.region ?_
  refine TL.op1 (OpR.pure rfl) rfl ?_
  refine TL.nil ?_
  show T X _ _ _
  refine T.seq ?_
  refine T.region ?_
  refine TL.op (OpR.litRow rfl rfl rfl rfl rfl rfl rfl rfl (fun _ => rfl)) rfl (fun v1 => ?_)
  refine TL.op1 (OpR.markRow 0 rfl rfl rfl rfl rfl rfl rfl rfl) rfl ?_
  refine TL.op1 (OpR.pure rfl) rfl ?_
  refine TL.nil ?_
  show T X _ _ _
  refine T.seq ?_
  refine T.region ?_
  refine TL.op1 (OpR.pure rfl) rfl ?_
  obtain ⟨x2, hx2, h0⟩ := bnd_some h0
  refine TL.op1 (OpR.call0 fn51 (scan_All_c hx2) rfl) rfl ?_
  refine TL.op1 (OpR.pure rfl) rfl ?_
  refine TL.nil ?_
  show T X _ _ _
  refine T.seq ?_
  refine T.seq ?_
  obtain ⟨t3, ht3, h0⟩ := bnd_some h0
  refine T.cutC (fun S' => S' = ⟨[(18, .val (.bool t3)), (2, .sl 2 (List.map e_scan_Row x2)), (1, .sl 1 (List.map byteD [97, 44, 34, 98, 34, 34, 99, 34, 100])), (0, .val (.bool false))], [], 45⟩) (fun _ h => h) ?_ ?_
  · refine T.region ?_
    refine TL.op1 (OpR.pure rfl) rfl ?_
    refine TL.op1 (OpR.cast (OpR.pure rfl) (intE (lenM _ _))) rfl ?_
    refine TL.op1 (OpR.pure rfl) rfl ?_
    refine TL.op1 (OpR.pure rfl) rfl ?_
    rcases ite_some ht3 with ⟨c4, ht3⟩ | ⟨c4, ht3⟩
    · refine TL.on rfl rfl rfl rfl (not_t (beq_iff_eq.2 c4)) ?_
      refine TL.op1 (OpR.pure rfl) rfl ?_
      refine TL.on rfl rfl rfl rfl (not_t (beq_iff_eq.2 c4)) ?_
      obtain ⟨x5, hx5, ht3⟩ := bnd_some ht3
      refine TL.op1 (OpR.indexM e_scan_Row hx5 rfl rfl rfl rfl rfl) rfl ?_
      refine TL.on rfl rfl rfl rfl (not_t (beq_iff_eq.2 c4)) ?_
      refine TL.op1 (OpR.pure rfl) rfl ?_
      refine TL.on rfl rfl rfl rfl (not_t (beq_iff_eq.2 c4)) ?_
      refine TL.op1 (OpR.pure rfl) rfl ?_
      refine TL.on rfl rfl rfl rfl (not_t (beq_iff_eq.2 c4)) ?_
      refine TL.op1 (OpR.cast (OpR.pure rfl) (intE (lenM _ _))) rfl ?_
      refine TL.on rfl rfl rfl rfl (not_t (beq_iff_eq.2 c4)) ?_
      refine TL.op1 (OpR.pure rfl) rfl ?_
      refine TL.op1 (OpR.pickF rfl (not_t (beq_iff_eq.2 c4)) rfl) rfl ?_
      refine TL.nil ?_
      obtain rfl := Option.some.inj ht3
      exact ⟨_, Gst.trans (Gst.only [0, 1, 2, 18] rfl) (Gst.pick [] rfl rfl), rfl⟩
    · refine TL.off rfl rfl rfl rfl (not_f (beq_eq_false_iff_ne.2 c4)) rfl rfl ?_
      refine TL.off rfl rfl rfl rfl (not_f (beq_eq_false_iff_ne.2 c4)) rfl rfl ?_
      refine TL.off rfl rfl rfl rfl (not_f (beq_eq_false_iff_ne.2 c4)) rfl rfl ?_
      refine TL.off rfl rfl rfl rfl (not_f (beq_eq_false_iff_ne.2 c4)) rfl rfl ?_
      refine TL.off rfl rfl rfl rfl (not_f (beq_eq_false_iff_ne.2 c4)) rfl rfl ?_
      refine TL.off rfl rfl rfl rfl (not_f (beq_eq_false_iff_ne.2 c4)) rfl rfl ?_
      refine TL.op1 (OpR.pickT rfl (not_f (beq_eq_false_iff_ne.2 c4)) rfl) rfl ?_
      refine TL.nil ?_
      obtain rfl := Option.some.inj ht3
      exact ⟨_, Gst.trans (Gst.only [0, 1, 2, 18] rfl) (Gst.pick [] rfl rfl), rfl⟩
  · rintro _ rfl
    show T X _ _ _
    rcases ite_some h0 with ⟨c6, h0⟩ | ⟨c6, h0⟩
    · refine T.condT rfl (c6) ?_
      refine T.seq ?_
      refine T.region ?_
      refine TL.op1 (OpR.pure rfl) rfl ?_
      refine TL.nil ?_
      show T X _ _ _
      refine T.ret ?_
      obtain rfl := Option.some.inj h0
      exact PostG.retP (ks := []) (Gst.only [0] rfl) undef (ResL.cons (ResV.tmp rfl) ResL.nil) rfl rfl rfl rfl
    · refine T.condF rfl (eq_false_of_ne_true c6) ?_
      refine T.skip ?_
      show T X _ _ _
      refine T.seq ?_
      refine T.region ?_
      refine TL.op1 (OpR.pure rfl) rfl ?_
      obtain ⟨x7, hx7, h0⟩ := bnd_some h0
      refine TL.op1 (OpR.indexM e_scan_Row hx7 rfl rfl rfl rfl rfl) rfl ?_
      refine TL.op1 (OpR.pure rfl) rfl ?_
      refine TL.op1 (OpR.pure rfl) rfl ?_
      obtain ⟨x8, hx8, h0⟩ := bnd_some h0
      refine TL.op1 (OpR.indexM e_scan_Field hx8 rfl rfl rfl rfl rfl) rfl ?_
      refine TL.op1 (OpR.pure rfl) rfl ?_
      refine TL.op (OpR.alloc rfl rfl (fun _ => rfl)) rfl (fun p9 => ?_)
      refine TL.op0 (OpR.store 0 rfl rfl rfl rfl rfl rfl rfl rfl) ?_
      refine TL.nil ?_
      show T X _ _ _
      refine T.seq ?_
      obtain ⟨t10, ht10, h0⟩ := bnd_some h0
      refine T.cutC (fun S' => S' = ⟨[(0, .val (.bool t10))], [], 45⟩) (fun _ h => h) ?_ ?_
      · refine T.region ?_
        refine TL.op1 (OpR.pure rfl) rfl ?_
        refine TL.op1 (OpR.loadPtr 0 rfl rfl rfl rfl) rfl ?_
        refine TL.op1 (OpR.pure rfl) rfl ?_
        refine TL.op1 (OpR.pure rfl) rfl ?_
        rcases ite_some ht10 with ⟨c11, ht10⟩ | ⟨c11, ht10⟩
        · refine TL.on rfl rfl rfl rfl (beq_iff_eq.2 c11) ?_
          refine TL.op1 (OpR.pure rfl) rfl ?_
          refine TL.on rfl rfl rfl rfl (beq_iff_eq.2 c11) ?_
          refine TL.op1 (OpR.loadPtr 0 rfl rfl rfl rfl) rfl ?_
          refine TL.on rfl rfl rfl rfl (beq_iff_eq.2 c11) ?_
          obtain ⟨x12, hx12, ht10⟩ := bnd_some ht10
          refine TL.op1 (OpR.call0 fn54 (scan_Value_c hx12) rfl) rfl ?_
          refine TL.on rfl rfl rfl rfl (beq_iff_eq.2 c11) ?_
          refine TL.op1 (OpR.toStr (bs := x12) rfl rfl rfl rfl rfl rfl rfl) rfl ?_
          refine TL.on rfl rfl rfl rfl (beq_iff_eq.2 c11) ?_
          refine TL.op1 (OpR.cast (OpR.pure rfl) (boolE (strEq _ _))) rfl ?_
          refine TL.op1 (OpR.pickT rfl (beq_iff_eq.2 c11) rfl) rfl ?_
          refine TL.op1 (OpR.pure rfl) rfl ?_
          rcases ite_some ht10 with ⟨c13, ht10⟩ | ⟨c13, ht10⟩
          · refine TL.on rfl rfl rfl rfl (beq_iff_eq.2 c13) ?_
            refine TL.op1 (OpR.pure rfl) rfl ?_
            refine TL.on rfl rfl rfl rfl (beq_iff_eq.2 c13) ?_
            refine TL.op1 (OpR.loadPtr 0 rfl rfl rfl rfl) rfl ?_
            refine TL.on rfl rfl rfl rfl (beq_iff_eq.2 c13) ?_
            refine TL.op1 (OpR.build rfl rfl rfl rfl rfl) rfl ?_
            refine TL.on rfl rfl rfl rfl (beq_iff_eq.2 c13) ?_
            refine TL.op1 (OpR.cast (OpR.eqStruct rfl rfl rfl rfl rfl (by kernel_rfl) (by kernel_rfl)) (boolE (beq_arena_Span x8.fRaw (⟨2, 7⟩ : arena_Span)))) rfl ?_
            refine TL.op1 (OpR.pickT rfl (beq_iff_eq.2 c13) rfl) rfl ?_
            refine TL.op1 (OpR.pure rfl) rfl ?_
            rcases ite_some ht10 with ⟨c14, ht10⟩ | ⟨c14, ht10⟩
            · refine TL.on rfl rfl rfl rfl (beq_iff_eq.2 c14) ?_
              obtain ⟨x15, hx15, ht10⟩ := bnd_some ht10
              refine TL.op1 (OpR.call0 fn57 (scan_Mark_c hx15) rfl) rfl ?_
              refine TL.on rfl rfl rfl rfl (beq_iff_eq.2 c14) ?_
              refine TL.op1 (OpR.cast (OpR.pure rfl) (boolE (strEq _ _))) rfl ?_
              refine TL.op1 (OpR.pickT rfl (beq_iff_eq.2 c14) rfl) rfl ?_
              refine TL.op1 (OpR.pure rfl) rfl ?_
              refine TL.nil ?_
              obtain rfl := Option.some.inj ht10
              exact ⟨_, Gst.trans (Gst.only [0] rfl) (Gst.pick [] rfl rfl), rfl⟩
            · refine TL.off rfl rfl rfl rfl (beq_eq_false_iff_ne.2 c14) rfl rfl ?_
              refine TL.off rfl rfl rfl rfl (beq_eq_false_iff_ne.2 c14) rfl rfl ?_
              refine TL.op1 (OpR.pickF rfl (beq_eq_false_iff_ne.2 c14) rfl) rfl ?_
              refine TL.op1 (OpR.pure rfl) rfl ?_
              refine TL.nil ?_
              obtain rfl := Option.some.inj ht10
              exact ⟨_, Gst.trans (Gst.only [0] rfl) (Gst.pick [] rfl rfl), rfl⟩
          · refine TL.off rfl rfl rfl rfl (beq_eq_false_iff_ne.2 c13) rfl rfl ?_
            refine TL.off rfl rfl rfl rfl (beq_eq_false_iff_ne.2 c13) rfl rfl ?_
            refine TL.off rfl rfl rfl rfl (beq_eq_false_iff_ne.2 c13) rfl rfl ?_
            refine TL.off rfl rfl rfl rfl (beq_eq_false_iff_ne.2 c13) rfl rfl ?_
            refine TL.op1 (OpR.pickF rfl (beq_eq_false_iff_ne.2 c13) rfl) rfl ?_
            refine TL.op1 (OpR.pure rfl) rfl ?_
            refine TL.off rfl rfl rfl rfl rfl rfl rfl ?_
            refine TL.off rfl rfl rfl rfl rfl rfl rfl ?_
            refine TL.op1 (OpR.pickF rfl rfl rfl) rfl ?_
            refine TL.op1 (OpR.pure rfl) rfl ?_
            refine TL.nil ?_
            obtain rfl := Option.some.inj ht10
            exact ⟨_, Gst.trans (Gst.only [0] rfl) (Gst.pick [] rfl rfl), rfl⟩
        · refine TL.off rfl rfl rfl rfl (beq_eq_false_iff_ne.2 c11) rfl rfl ?_
          refine TL.off rfl rfl rfl rfl (beq_eq_false_iff_ne.2 c11) rfl rfl ?_
          refine TL.off rfl rfl rfl rfl (beq_eq_false_iff_ne.2 c11) rfl rfl ?_
          refine TL.off rfl rfl rfl rfl (beq_eq_false_iff_ne.2 c11) rfl rfl ?_
          refine TL.off rfl rfl rfl rfl (beq_eq_false_iff_ne.2 c11) rfl rfl ?_
          refine TL.op1 (OpR.pickF rfl (beq_eq_false_iff_ne.2 c11) rfl) rfl ?_
          refine TL.op1 (OpR.pure rfl) rfl ?_
          refine TL.off rfl rfl rfl rfl rfl rfl rfl ?_
          refine TL.off rfl rfl rfl rfl rfl rfl rfl ?_
          refine TL.off rfl rfl rfl rfl rfl rfl rfl ?_
          refine TL.off rfl rfl rfl rfl rfl rfl rfl ?_
          refine TL.op1 (OpR.pickF rfl rfl rfl) rfl ?_
          refine TL.op1 (OpR.pure rfl) rfl ?_
          refine TL.off rfl rfl rfl rfl rfl rfl rfl ?_
          refine TL.off rfl rfl rfl rfl rfl rfl rfl ?_
          refine TL.op1 (OpR.pickF rfl rfl rfl) rfl ?_
          refine TL.op1 (OpR.pure rfl) rfl ?_
          refine TL.nil ?_
          obtain rfl := Option.some.inj ht10
          exact ⟨_, Gst.trans (Gst.only [0] rfl) (Gst.pick [] rfl rfl), rfl⟩
      · rintro _ rfl
        show T X _ _ _
        refine T.ret ?_
        obtain rfl := Option.some.inj h0
        exact PostG.retP (ks := []) (Gst.only [0] rfl) undef (ResL.cons (ResV.tmp rfl) ResL.nil) rfl rfl rfl rfl
noncomputable def law05_ScanAll.l1 (x1 : (List UInt8)) (x3 : (List ref05_Row)) (s7 : Int) (x17 : scan_Row) (s23 : Int) : Option (Lp Int (Ex Unit Bool)) :=
  if s23 < (x17.fFields.length : Int) then
    bnd (idx x17.fFields s23) fun x32 =>
    bnd (scan_Value x1 x32) fun x35 =>
    bnd (idx x3 s7) fun x36 =>
    bnd (idx x36.fFields s23) fun x37 =>
    bnd (ref05_Text x1 x37.fBytes) fun x38 =>
    if x35 = x38 then
      some (Lp.next (w64 (s23 + 1)))
    else
      some (Lp.done (Ex.ret false))
  else
    some (Lp.done (Ex.brk ()))
noncomputable def law05_ScanAll.l2 (x1 : (List UInt8)) (x2 : (List scan_Row)) (x3 : (List ref05_Row)) (s7 : Int) : Option (Lp Int (Ex Unit Bool)) :=
  if s7 < (x2.length : Int) then
    bnd (idx x2 s7) fun x17 =>
    bnd (idx x3 s7) fun x18 =>
    bnd (law05_like x17 x18) fun x19 =>
    if x19 = true then
      bnd (loop (law05_ScanAll.l1 x1 x3 s7 x17) 0 : Option (Ex Unit Bool)) fun t21 => match t21 with
        | .brk u22 =>
          some (Lp.next (w64 (s7 + 1)))
        | .ret u22 => some (Lp.done (Ex.ret u22))
    else
      some (Lp.done (Ex.ret false))
  else
    some (Lp.done (Ex.brk ()))
noncomputable def law05_ScanAll (a0 : List UInt8) : Option Bool :=
  bnd (law05_cut a0 1000) fun x1 =>
  bnd (scan_All x1) fun x2 =>
  bnd (ref05_All x1) fun x3 =>
  if (x2.length : Int) = (x3.length : Int) then
    bnd (loop (law05_ScanAll.l2 x1 x2 x3) 0 : Option (Ex Unit Bool)) fun t5 => match t5 with
      | .brk u6 =>
        bnd (law05_awake) fun x40 =>
        some x40
      | .ret u6 => some u6
  else
    some false
set_option maxHeartbeats 4000000 in
theorem law05_ScanAll_c {a0 : List UInt8} {res : Bool} (h0 : law05_ScanAll a0 = some res) : CallF X 10 [.val (.string (bs a0))] [] (fun x => .val (.bool res)) (fun x => []) := by
  unfold law05_ScanAll at h0
  refine CallF.mkG (X := X) Try.func10 rfl rfl Try.ntmps10 rfl rfl ?_
  refine T.seq ?_
  refine T.region ?_
  refine TL.op1 (OpR.pure rfl) rfl ?_
  refine TL.nil ?_
  show T X _ _ _
  refine T.seq ?_
  refine T.region ?_
  refine TL.op1 (OpR.pure rfl) rfl ?_
  obtain ⟨x1, hx1, h0⟩ := bnd_some h0
  refine TL.op1 (OpR.call0 fn50 (law05_cut_c hx1) rfl) rfl ?_
  refine TL.op1 (OpR.pure rfl) rfl ?_
  refine TL.nil ?_
  show T X _ _ _
  refine T.seq ?_
  refine T.region ?_
  refine TL.op1 (OpR.pure rfl) rfl ?_
  refine TL.op1 (OpR.toBytesM rfl rfl rfl rfl rfl rfl rfl) rfl ?_
  obtain ⟨x2, hx2, h0⟩ := bnd_some h0
  refine TL.op1 (OpR.call0 fn51 (scan_All_c hx2) rfl) rfl ?_
  refine TL.op1 (OpR.pure rfl) rfl ?_
  obtain ⟨x3, hx3, h0⟩ := bnd_some h0
  refine TL.op1 (OpR.call0 fn52 (ref05_All_c hx3) rfl) rfl ?_
  refine TL.op1 (OpR.pure rfl) rfl ?_
  refine TL.op1 (OpR.pure rfl) rfl ?_
  refine TL.nil ?_
  show T X _ _ _
  refine T.seq ?_
  refine T.seq ?_
  refine T.region ?_
  refine TL.op1 (OpR.pure rfl) rfl ?_
  refine TL.op1 (OpR.cast (OpR.pure rfl) (intE (lenM _ _))) rfl ?_
  refine TL.op1 (OpR.pure rfl) rfl ?_
  refine TL.op1 (OpR.cast (OpR.pure rfl) (intE (lenM _ _))) rfl ?_
  refine TL.op1 (OpR.pure rfl) rfl ?_
  refine TL.nil ?_
  show T X _ _ _
  rcases ite_some h0 with ⟨c4, h0⟩ | ⟨c4, h0⟩
  · refine T.condF rfl (not_t (beq_iff_eq.2 c4)) ?_
    refine T.skip ?_
    show T X _ _ _
    refine T.seq ?_
    refine T.seq ?_
    refine T.region ?_
    refine TL.op1 (OpR.pure rfl) rfl ?_
    refine TL.op1 (OpR.cast (OpR.pure rfl) (intE (lenM _ _))) rfl ?_
    refine TL.op1 (OpR.pure rfl) rfl ?_
    refine TL.nil ?_
    show T X _ _ _
    obtain ⟨t5, ht5, h0⟩ := bnd_some h0
    refine T.cutC (fun S' => ∃ u6, t5 = Ex.brk u6 ∧ S' = ⟨[(2, .val (.bool false))], [], 66⟩) (fun _ h => h) ?_ ?_
    · refine T.block ?_
      obtain ⟨n8, n13⟩ := loop_some ht5
      refine T.loop (fun n S' => ∃ S'', Gst S' S'' ∧ ∃ s7 : Int, S'' = ⟨[(22, .val (.int .i64 s7)), (21, .val (.int .i64 (x2.length : Int))), (4, .sl 2 (List.map e_ref05_Row x3)), (3, .sl 2 (List.map e_scan_Row x2)), (2, .val (.bool false)), (0, .val (.string (bs x1)))], [], 66⟩ ∧ iter (law05_ScanAll.l2 x1 x2 x3) n s7 = some t5) n8 ?_ ?_
      · exact ⟨_, Gst.only [0, 2, 3, 4, 21, 22] rfl, 0, rfl, n13⟩
      rintro n8 _ ⟨_, g, s7, rfl, i12⟩
      refine T.ghost g ?_
      obtain ⟨m9, q10, rfl, q11, i12⟩ := iter_succ i12
      unfold law05_ScanAll.l2 at q11
      refine T.seq ?_
      refine T.region ?_
      refine TL.op1 (OpR.pure rfl) rfl ?_
      refine TL.nil ?_
      show T X _ _ _
      refine T.seq ?_
      rcases ite_some q11 with ⟨c15, q11⟩ | ⟨c15, q11⟩
      · refine T.condT rfl (decide_eq_true c15) ?_
        refine T.skip ?_
        show T X _ _ _
        refine T.seq ?_
        refine T.block ?_
        refine T.seq ?_
        refine T.region ?_
        refine TL.op1 (OpR.pure rfl) rfl ?_
        refine TL.op1 (OpR.pure rfl) rfl ?_
        refine TL.nil ?_
        show T X _ _ _
        refine T.seq ?_
        refine T.seq ?_
        obtain ⟨x17, hx17, q11⟩ := bnd_some q11
        obtain ⟨x18, hx18, q11⟩ := bnd_some q11
        obtain ⟨x19, hx19, q11⟩ := bnd_some q11
        refine T.drawQ drawsX [.sl 2 (List.map e_scan_Row x2), .val (.int .i64 s7), .nod [.sl 4 (List.map e_scan_Field x17.fFields), .val (.int .i64 x17.fEnd)], .agg [.sl 4 (List.map e_scan_Field x17.fFields), .val (.int .i64 x17.fEnd)], .sl 2 (List.map e_ref05_Row x3), .val (.int .i64 s7), .nod [.sl 4 (List.map e_ref05_Field x18.fFields), .val (.int .i64 x18.fEnd)], .agg [.sl 4 (List.map e_ref05_Field x18.fFields), .val (.int .i64 x18.fEnd)], .val (.bool x19), .val (.bool (!x19))] [0, 2, 3, 4, 5, 21, 22, 23, 24, 25, 26, 27, 28, 29, 30, 31, 32, 33, 34] (by decide +kernel) rfl ?_ rfl ?_
        · refine OpsQ.yes (Want.plain rfl) rfl (OpR.pure rfl) ?_
          refine OpsQ.yes (Want.plain rfl) rfl (OpR.pure rfl) ?_
          refine OpsQ.yes (Want.plain rfl) rfl (OpR.indexM e_scan_Row hx17 rfl rfl rfl rfl rfl) ?_
          refine OpsQ.yes (Want.plain rfl) rfl (OpR.pure rfl) ?_
          refine OpsQ.yes (Want.plain rfl) rfl (OpR.pure rfl) ?_
          refine OpsQ.yes (Want.plain rfl) rfl (OpR.pure rfl) ?_
          refine OpsQ.yes (Want.plain rfl) rfl (OpR.indexM e_ref05_Row hx18 rfl rfl rfl rfl rfl) ?_
          refine OpsQ.yes (Want.plain rfl) rfl (OpR.pure rfl) ?_
          refine OpsQ.yes (Want.plain rfl) rfl (OpR.call0 fn53 (law05_like_c hx19) rfl) ?_
          refine OpsQ.yes (Want.plain rfl) rfl (OpR.pure rfl) ?_
          exact OpsQ.nil
        · show T X _ _ _
          rcases ite_some q11 with ⟨c20, q11⟩ | ⟨c20, q11⟩
          · refine T.condF rfl (not_t (c20)) ?_
            refine T.skip ?_
            show T X _ _ _
            refine T.seq ?_
            refine T.region ?_
            refine TL.op1 (OpR.pure rfl) rfl ?_
            refine TL.op1 (OpR.pure rfl) rfl ?_
            refine TL.op1 (OpR.indexM e_scan_Row hx17 rfl rfl rfl rfl rfl) rfl ?_
            refine TL.op1 (OpR.pure rfl) rfl ?_
            refine TL.op1 (OpR.pure rfl) rfl ?_
            refine TL.op1 (OpR.cast (OpR.pure rfl) (intE (lenM _ _))) rfl ?_
            refine TL.op1 (OpR.pure rfl) rfl ?_
            refine TL.nil ?_
            show T X _ _ _
            obtain ⟨t21, ht21, q11⟩ := bnd_some q11
            refine T.cutC (fun S' => ∃ u22, t21 = Ex.brk u22 ∧ S' = ⟨[(22, .val (.int .i64 s7)), (21, .val (.int .i64 (x2.length : Int))), (4, .sl 2 (List.map e_ref05_Row x3)), (3, .sl 2 (List.map e_scan_Row x2)), (2, .val (.bool false)), (0, .val (.string (bs x1)))], [], 66⟩) (fun _ h => h) ?_ ?_
            · refine T.block ?_
              obtain ⟨n24, n29⟩ := loop_some ht21
              refine T.loop (fun n S' => ∃ S'', Gst S' S'' ∧ ∃ s23 : Int, S'' = ⟨[(41, .val (.int .i64 s23)), (40, .val (.int .i64 (x17.fFields.length : Int))), (39, .sl 4 (List.map e_scan_Field x17.fFields)), (22, .val (.int .i64 s7)), (21, .val (.int .i64 (x2.length : Int))), (5, .val (.int .i64 s7)), (4, .sl 2 (List.map e_ref05_Row x3)), (3, .sl 2 (List.map e_scan_Row x2)), (2, .val (.bool false)), (0, .val (.string (bs x1)))], [], 66⟩ ∧ iter (law05_ScanAll.l1 x1 x3 s7 x17) n s23 = some t21) n24 ?_ ?_
              · exact ⟨_, Gst.only [0, 2, 3, 4, 5, 21, 22, 39, 40, 41] rfl, 0, rfl, n29⟩
              rintro n24 _ ⟨_, g, s23, rfl, i28⟩
              refine T.ghost g ?_
              obtain ⟨m25, q26, rfl, q27, i28⟩ := iter_succ i28
              unfold law05_ScanAll.l1 at q27
              refine T.seq ?_
              refine T.region ?_
              refine TL.op1 (OpR.pure rfl) rfl ?_
              refine TL.nil ?_
              show T X _ _ _
              refine T.seq ?_
              rcases ite_some q27 with ⟨c31, q27⟩ | ⟨c31, q27⟩
              · refine T.condT rfl (decide_eq_true c31) ?_
                refine T.skip ?_
                show T X _ _ _
                refine T.seq ?_
                refine T.block ?_
                refine T.seq ?_
                refine T.region ?_
                refine TL.op1 (OpR.pure rfl) rfl ?_
                obtain ⟨x32, hx32, q27⟩ := bnd_some q27
                refine TL.op1 (OpR.indexM e_scan_Field hx32 rfl rfl rfl rfl rfl) rfl ?_
                refine TL.op1 (OpR.pure rfl) rfl ?_
                refine TL.op (OpR.alloc rfl rfl (fun _ => rfl)) rfl (fun p33 => ?_)
                refine TL.op1 (OpR.pure rfl) rfl ?_
                refine TL.op0 (OpR.store 0 rfl rfl rfl rfl rfl rfl rfl rfl) ?_
                refine TL.nil ?_
                show T X _ _ _
                refine T.seq ?_
                obtain ⟨x35, hx35, q27⟩ := bnd_some q27
                obtain ⟨x36, hx36, q27⟩ := bnd_some q27
                obtain ⟨x37, hx37, q27⟩ := bnd_some q27
                obtain ⟨x38, hx38, q27⟩ := bnd_some q27
                refine T.drawQ drawsX [.val (.string (bs x1)), .sl 1 (List.map byteD x1), .agg [.val (.int .i64 x32.fRaw.fAt), .val (.int .i64 x32.fRaw.fN), .val (.int .i64 x32.fKind), .sl 2 (List.map e_arena_Span x32.fParts)], .sl 1 (List.map byteD x35), .val (.string (bs x35)), .val (.string (bs x1)), .sl 2 (List.map e_ref05_Row x3), .val (.int .i64 s7), .nod [.sl 4 (List.map e_ref05_Field x36.fFields), .val (.int .i64 x36.fEnd)], .nod [.sl 4 (List.map e_ref05_Field x36.fFields), .val (.int .i64 x36.fEnd)], .sl 4 (List.map e_ref05_Field x36.fFields), .val (.int .i64 s23), .nod [.val (.int .i64 x37.fRaw.fAt), .val (.int .i64 x37.fRaw.fN), .val (.int .i64 x37.fKind), .sl 1 (List.map (eI .i64) x37.fBytes)], .nod [.sl 1 (List.map (eI .i64) x37.fBytes)], .sl 1 (List.map (eI .i64) x37.fBytes), .val (.string (bs x38)), .val (.bool (!(x35 == x38)))] [0, 2, 3, 4, 5, 6, 7, 21, 22, 39, 40, 41, 42, 43, 44, 45, 46, 47, 48, 49, 50, 51, 52, 53, 54, 55, 56, 57, 58, 59, 60, 61, 62] (by decide +kernel) rfl ?_ rfl ?_
                · refine OpsQ.yes (Want.plain rfl) rfl (OpR.pure rfl) ?_
                  refine OpsQ.yes (Want.plain rfl) rfl (OpR.toBytesM rfl rfl rfl rfl rfl rfl rfl) ?_
                  refine OpsQ.yes (Want.plain rfl) rfl (OpR.loadPtr 0 rfl rfl rfl rfl) ?_
                  refine OpsQ.yes (Want.plain rfl) rfl (OpR.call0 fn54 (scan_Value_c hx35) rfl) ?_
                  refine OpsQ.yes (Want.plain rfl) rfl (OpR.toStr (bs := x35) rfl rfl rfl rfl rfl rfl rfl) ?_
                  refine OpsQ.yes (Want.plain rfl) rfl (OpR.pure rfl) ?_
                  refine OpsQ.yes (Want.plain rfl) rfl (OpR.pure rfl) ?_
                  refine OpsQ.yes (Want.plain rfl) rfl (OpR.pure rfl) ?_
                  refine OpsQ.yes (Want.plain rfl) rfl (OpR.indexM e_ref05_Row hx36 rfl rfl rfl rfl rfl) ?_
                  refine OpsQ.yes (Want.plain rfl) rfl (OpR.pure rfl) ?_
                  refine OpsQ.yes (Want.plain rfl) rfl (OpR.pure rfl) ?_
                  refine OpsQ.yes (Want.plain rfl) rfl (OpR.pure rfl) ?_
                  refine OpsQ.yes (Want.plain rfl) rfl (OpR.indexM e_ref05_Field hx37 rfl rfl rfl rfl rfl) ?_
                  refine OpsQ.yes (Want.plain rfl) rfl (OpR.pure rfl) ?_
                  refine OpsQ.yes (Want.plain rfl) rfl (OpR.pure rfl) ?_
                  refine OpsQ.yes (Want.plain rfl) rfl (OpR.call0 fn55 (ref05_Text_c hx38) rfl) ?_
                  refine OpsQ.yes (Want.plain rfl) rfl (OpR.cast (OpR.pure rfl) (boolE (strNe _ _))) ?_
                  exact OpsQ.nil
                · show T X _ _ _
                  rcases ite_some q27 with ⟨c39, q27⟩ | ⟨c39, q27⟩
                  · refine T.condF rfl (not_t (beq_iff_eq.2 c39)) ?_
                    refine T.skip ?_
                    show T X _ _ _
                    refine T.region ?_
                    refine TL.op1 (OpR.pure rfl) rfl ?_
                    refine TL.op1 (OpR.pure rfl) rfl ?_
                    refine TL.nil ?_
                    obtain rfl := Option.some.inj q27
                    exact ⟨m25, Nat.lt_succ_self _, _, Gst.trans (Gst.only [0, 2, 3, 4, 5, 21, 22, 39, 40, 41] rfl) (Gst.pick [] rfl rfl), w64 (s23 + 1), rfl, i28⟩
                  · refine T.condT rfl (not_f (beq_eq_false_iff_ne.2 c39)) ?_
                    refine T.seq ?_
                    refine T.region ?_
                    refine TL.op1 (OpR.pure rfl) rfl ?_
                    refine TL.nil ?_
                    show T X _ _ _
                    refine T.ret ?_
                    obtain rfl := Option.some.inj q27
                    obtain rfl : _ = _ := i28
                    obtain rfl := Option.some.inj q11
                    obtain rfl : _ = _ := i12
                    obtain rfl := Option.some.inj h0
                    exact PostG.retP (ks := []) (Gst.trans (Gst.only [2] rfl) (Gst.pick [] rfl rfl)) undef (ResL.cons (ResV.tmp rfl) ResL.nil) rfl rfl rfl rfl
              · refine T.condF rfl (decide_eq_false c31) ?_
                refine T.exit ?_
                obtain rfl := Option.some.inj q27
                obtain rfl : _ = _ := i28
                exact ⟨_, Gst.only [0, 2, 3, 4, 21, 22] rfl, _, rfl, rfl⟩
            · rintro _ ⟨u22, rfl, rfl⟩
              show T X _ _ _
              refine T.region ?_
              refine TL.op1 (OpR.pure rfl) rfl ?_
              refine TL.op1 (OpR.pure rfl) rfl ?_
              refine TL.nil ?_
              obtain rfl := Option.some.inj q11
              exact ⟨m9, Nat.lt_succ_self _, _, Gst.only [0, 2, 3, 4, 21, 22] rfl, w64 (s7 + 1), rfl, i12⟩
          · refine T.condT rfl (not_f (eq_false_of_ne_true c20)) ?_
            refine T.seq ?_
            refine T.region ?_
            refine TL.op1 (OpR.pure rfl) rfl ?_
            refine TL.nil ?_
            show T X _ _ _
            refine T.ret ?_
            obtain rfl := Option.some.inj q11
            obtain rfl : _ = _ := i12
            obtain rfl := Option.some.inj h0
            exact PostG.retP (ks := []) (Gst.only [2] rfl) undef (ResL.cons (ResV.tmp rfl) ResL.nil) rfl rfl rfl rfl
      · refine T.condF rfl (decide_eq_false c15) ?_
        refine T.exit ?_
        obtain rfl := Option.some.inj q11
        obtain rfl : _ = _ := i12
        exact ⟨_, Gst.only [2] rfl, _, rfl, rfl⟩
    · rintro _ ⟨u6, rfl, rfl⟩
      show T X _ _ _
      refine T.seq ?_
      refine T.region ?_
      obtain ⟨x40, hx40, h0⟩ := bnd_some h0
      refine TL.op1 (OpR.call0 fn56 (law05_awake_c hx40) rfl) rfl ?_
      refine TL.op1 (OpR.pure rfl) rfl ?_
      refine TL.nil ?_
      show T X _ _ _
      refine T.ret ?_
      obtain rfl := Option.some.inj h0
      exact PostG.retP (ks := []) (Gst.only [2] rfl) undef (ResL.cons (ResV.tmp rfl) ResL.nil) rfl rfl rfl rfl
  · refine T.condT rfl (not_f (beq_eq_false_iff_ne.2 c4)) ?_
    refine T.seq ?_
    refine T.region ?_
    refine TL.op1 (OpR.pure rfl) rfl ?_
    refine TL.nil ?_
    show T X _ _ _
    refine T.ret ?_
    obtain rfl := Option.some.inj h0
    exact PostG.retP (ks := []) (Gst.only [2] rfl) undef (ResL.cons (ResV.tmp rfl) ResL.nil) rfl rfl rfl rfl
noncomputable def law05_ScanWhole.l1 (x1 : (List UInt8)) (x14 : scan_Row) (s18 : (List UInt8) × Int) : Option (Lp ((List UInt8) × Int) (Ex (List UInt8) Bool)) :=
  if s18.2 < (x14.fFields.length : Int) then
    bnd (idx x14.fFields s18.2) fun x27 =>
    bnd (if s18.2 > 0 then
      bnd (catS s18.1 [44]) fun x31 =>
      some x31
    else
      some s18.1 : Option (List UInt8)) fun t29 =>
    bnd (if x27.fRaw.fAt = (t29.length : Int) then
      if x27.fRaw.fN < 0 then
        some true
      else
        some (decide (x27.fRaw.fN > (w64 ((x1.length : Int) - (t29.length : Int)))))
    else
      some true : Option Bool) fun t32 =>
    if t32 = true then
      some (Lp.done (Ex.ret false))
    else
      bnd (cut x1 x27.fRaw.fAt (w64 (x27.fRaw.fAt + x27.fRaw.fN))) fun x36 =>
      bnd (catS t29 x36) fun x37 =>
      some (Lp.next (x37, w64 (s18.2 + 1)))
  else
    some (Lp.done (Ex.brk s18.1))
noncomputable def law05_ScanWhole.l2 (x1 : (List UInt8)) (x2 : (List scan_Row)) (s5 : (List UInt8) × Int) : Option (Lp ((List UInt8) × Int) (Ex (List UInt8) Bool)) :=
  if s5.2 < (x2.length : Int) then
    bnd (idx x2 s5.2) fun x14 =>
    bnd (loop (law05_ScanWhole.l1 x1 x14) (s5.1, 0) : Option (Ex (List UInt8) Bool)) fun t16 => match t16 with
      | .brk u17 =>
        bnd (if x14.fEnd = 0 then
          if s5.2 < (w64 ((x2.length : Int) - 1)) then
            some true
          else
            some ((u17.length : Int) == (s5.1.length : Int))
        else
          some false : Option Bool) fun t38 =>
        if t38 = true then
          some (Lp.done (Ex.ret false))
        else
          bnd (scan_Mark x14.fEnd) fun x42 =>
          bnd (catS u17 x42) fun x43 =>
          some (Lp.next (x43, w64 (s5.2 + 1)))
      | .ret u17 => some (Lp.done (Ex.ret u17))
  else
    some (Lp.done (Ex.brk s5.1))
noncomputable def law05_ScanWhole (a0 : List UInt8) : Option Bool :=
  bnd (law05_cut a0 1000) fun x1 =>
  bnd (scan_All x1) fun x2 =>
  bnd (loop (law05_ScanWhole.l2 x1 x2) ([], 0) : Option (Ex (List UInt8) Bool)) fun t3 => match t3 with
    | .brk u4 =>
      bnd (if u4 = x1 then
        bnd (law05_awake) fun x46 =>
        some x46
      else
        some false : Option Bool) fun t44 =>
      some t44
    | .ret u4 => some u4
set_option maxHeartbeats 4000000 in
theorem law05_ScanWhole_c {a0 : List UInt8} {res : Bool} (h0 : law05_ScanWhole a0 = some res) : CallF X 11 [.val (.string (bs a0))] [] (fun x => .val (.bool res)) (fun x => []) := by
  unfold law05_ScanWhole at h0
  refine CallF.mkG (X := X) Try.func11 rfl rfl Try.ntmps11 rfl rfl ?_
  refine T.seq ?_
  refine T.region ?_
  refine TL.op1 (OpR.pure rfl) rfl ?_
  refine TL.nil ?_
  show T X _ _ _
  refine T.seq ?_
  refine T.region ?_
  refine TL.op1 (OpR.pure rfl) rfl ?_
  obtain ⟨x1, hx1, h0⟩ := bnd_some h0
  refine TL.op1 (OpR.call0 fn50 (law05_cut_c hx1) rfl) rfl ?_
  refine TL.op1 (OpR.pure rfl) rfl ?_
  refine TL.nil ?_
  show T X _ _ _
  refine T.seq ?_
  refine T.region ?_
  refine TL.op1 (OpR.pure rfl) rfl ?_
  refine TL.nil ?_
  show T X _ _ _
  refine T.seq ?_
  refine T.region ?_
  refine TL.op1 (OpR.pure rfl) rfl ?_
  refine TL.op1 (OpR.toBytesM rfl rfl rfl rfl rfl rfl rfl) rfl ?_
  obtain ⟨x2, hx2, h0⟩ := bnd_some h0
  refine TL.op1 (OpR.call0 fn51 (scan_All_c hx2) rfl) rfl ?_
  refine TL.op1 (OpR.pure rfl) rfl ?_
  refine TL.nil ?_
  show T X _ _ _
  refine T.seq ?_
  refine T.seq ?_
  refine T.region ?_
  refine TL.op1 (OpR.pure rfl) rfl ?_
  refine TL.op1 (OpR.cast (OpR.pure rfl) (intE (lenM _ _))) rfl ?_
  refine TL.op1 (OpR.pure rfl) rfl ?_
  refine TL.nil ?_
  show T X _ _ _
  obtain ⟨t3, ht3, h0⟩ := bnd_some h0
  refine T.cutC (fun S' => ∃ u4, t3 = Ex.brk u4 ∧ S' = ⟨[(3, .val (.string (bs u4))), (2, .val (.bool false)), (0, .val (.string (bs x1)))], [], 102⟩) (fun _ h => h) ?_ ?_
  · refine T.block ?_
    obtain ⟨n6, n11⟩ := loop_some ht3
    refine T.loop (fun n S' => ∃ S'', Gst S' S'' ∧ ∃ s5 : (List UInt8) × Int, S'' = ⟨[(17, .val (.int .i64 s5.2)), (16, .val (.int .i64 (x2.length : Int))), (15, .sl 2 (List.map e_scan_Row x2)), (4, .sl 2 (List.map e_scan_Row x2)), (3, .val (.string (bs s5.1))), (2, .val (.bool false)), (0, .val (.string (bs x1)))], [], 102⟩ ∧ iter (law05_ScanWhole.l2 x1 x2) n s5 = some t3) n6 ?_ ?_
    · exact ⟨_, Gst.only [0, 2, 3, 4, 15, 16, 17] rfl, ([], 0), rfl, n11⟩
    rintro n6 _ ⟨_, g, s5, rfl, i10⟩
    refine T.ghost g ?_
    obtain ⟨m7, q8, rfl, q9, i10⟩ := iter_succ i10
    unfold law05_ScanWhole.l2 at q9
    refine T.seq ?_
    refine T.region ?_
    refine TL.op1 (OpR.pure rfl) rfl ?_
    refine TL.nil ?_
    show T X _ _ _
    refine T.seq ?_
    rcases ite_some q9 with ⟨c13, q9⟩ | ⟨c13, q9⟩
    · refine T.condT rfl (decide_eq_true c13) ?_
      refine T.skip ?_
      show T X _ _ _
      refine T.seq ?_
      refine T.block ?_
      refine T.seq ?_
      refine T.region ?_
      refine TL.op1 (OpR.pure rfl) rfl ?_
      obtain ⟨x14, hx14, q9⟩ := bnd_some q9
      refine TL.op1 (OpR.indexM e_scan_Row hx14 rfl rfl rfl rfl rfl) rfl ?_
      refine TL.op1 (OpR.pure rfl) rfl ?_
      refine TL.op (OpR.alloc rfl rfl (fun _ => rfl)) rfl (fun p15 => ?_)
      refine TL.op1 (OpR.pure rfl) rfl ?_
      refine TL.op0 (OpR.store 0 rfl rfl rfl rfl rfl rfl rfl rfl) ?_
      refine TL.nil ?_
      show T X _ _ _
      refine T.seq ?_
      refine T.region ?_
      refine TL.op1 (OpR.pure rfl) rfl ?_
      refine TL.op1 (OpR.cast (OpR.pure rfl) (intE (lenS _))) rfl ?_
      refine TL.op1 (OpR.pure rfl) rfl ?_
      refine TL.nil ?_
      show T X _ _ _
      refine T.seq ?_
      refine T.seq ?_
      refine T.region ?_
      refine TL.op1 (OpR.pure rfl) rfl ?_
      refine TL.op1 (OpR.loadPtr 0 rfl rfl rfl rfl) rfl ?_
      refine TL.op1 (OpR.cast (OpR.pure rfl) (intE (lenM _ _))) rfl ?_
      refine TL.op1 (OpR.pure rfl) rfl ?_
      refine TL.nil ?_
      show T X _ _ _
      obtain ⟨t16, ht16, q9⟩ := bnd_some q9
      refine T.cutC (fun S' => ∃ u17, t16 = Ex.brk u17 ∧ S' = ⟨[(17, .val (.int .i64 s5.2)), (16, .val (.int .i64 (x2.length : Int))), (15, .sl 2 (List.map e_scan_Row x2)), (7, .val (.int .i64 (s5.1.length : Int))), (6, .val (.pointer (some ⟨(blk p15), 0, none⟩))), (5, .val (.int .i64 s5.2)), (4, .sl 2 (List.map e_scan_Row x2)), (3, .val (.string (bs u17))), (2, .val (.bool false)), (0, .val (.string (bs x1)))], [.var (blk p15) [.sl 4 (List.map e_scan_Field x14.fFields), .val (.int .i64 x14.fEnd)] 70], 102⟩) (fun _ h => h) ?_ ?_
      · refine T.block ?_
        obtain ⟨n19, n24⟩ := loop_some ht16
        refine T.loop (fun n S' => ∃ S'', Gst S' S'' ∧ ∃ s18 : (List UInt8) × Int, S'' = ⟨[(27, .val (.int .i64 s18.2)), (26, .val (.int .i64 (x14.fFields.length : Int))), (25, .sl 4 (List.map e_scan_Field x14.fFields)), (17, .val (.int .i64 s5.2)), (16, .val (.int .i64 (x2.length : Int))), (15, .sl 2 (List.map e_scan_Row x2)), (7, .val (.int .i64 (s5.1.length : Int))), (6, .val (.pointer (some ⟨(blk p15), 0, none⟩))), (5, .val (.int .i64 s5.2)), (4, .sl 2 (List.map e_scan_Row x2)), (3, .val (.string (bs s18.1))), (2, .val (.bool false)), (0, .val (.string (bs x1)))], [.var (blk p15) [.sl 4 (List.map e_scan_Field x14.fFields), .val (.int .i64 x14.fEnd)] 70], 102⟩ ∧ iter (law05_ScanWhole.l1 x1 x14) n s18 = some t16) n19 ?_ ?_
        · exact ⟨_, Gst.only [0, 2, 3, 4, 5, 6, 7, 15, 16, 17, 25, 26, 27] rfl, (s5.1, 0), rfl, n24⟩
        rintro n19 _ ⟨_, g, s18, rfl, i23⟩
        refine T.ghost g ?_
        obtain ⟨m20, q21, rfl, q22, i23⟩ := iter_succ i23
        unfold law05_ScanWhole.l1 at q22
        refine T.seq ?_
        refine T.region ?_
        refine TL.op1 (OpR.pure rfl) rfl ?_
        refine TL.nil ?_
        show T X _ _ _
        refine T.seq ?_
        rcases ite_some q22 with ⟨c26, q22⟩ | ⟨c26, q22⟩
        · refine T.condT rfl (decide_eq_true c26) ?_
          refine T.skip ?_
          show T X _ _ _
          refine T.seq ?_
          refine T.block ?_
          refine T.seq ?_
          refine T.region ?_
          refine TL.op1 (OpR.pure rfl) rfl ?_
          obtain ⟨x27, hx27, q22⟩ := bnd_some q22
          refine TL.op1 (OpR.indexM e_scan_Field hx27 rfl rfl rfl rfl rfl) rfl ?_
          refine TL.op1 (OpR.pure rfl) rfl ?_
          refine TL.op (OpR.alloc rfl rfl (fun _ => rfl)) rfl (fun p28 => ?_)
          refine TL.op1 (OpR.pure rfl) rfl ?_
          refine TL.op0 (OpR.store 1 rfl rfl rfl rfl rfl rfl rfl rfl) ?_
          refine TL.nil ?_
          show T X _ _ _
          refine T.seq ?_
          refine T.seq ?_
          refine T.region ?_
          refine TL.op1 (OpR.pure rfl) rfl ?_
          refine TL.op1 (OpR.pure rfl) rfl ?_
          refine TL.nil ?_
          show T X _ _ _
          obtain ⟨t29, ht29, q22⟩ := bnd_some q22
          refine T.cutC (fun S' => S' = ⟨[(27, .val (.int .i64 s18.2)), (26, .val (.int .i64 (x14.fFields.length : Int))), (25, .sl 4 (List.map e_scan_Field x14.fFields)), (17, .val (.int .i64 s5.2)), (16, .val (.int .i64 (x2.length : Int))), (15, .sl 2 (List.map e_scan_Row x2)), (9, .val (.pointer (some ⟨(blk p28), 0, none⟩))), (7, .val (.int .i64 (s5.1.length : Int))), (6, .val (.pointer (some ⟨(blk p15), 0, none⟩))), (5, .val (.int .i64 s5.2)), (4, .sl 2 (List.map e_scan_Row x2)), (3, .val (.string (bs t29))), (2, .val (.bool false)), (0, .val (.string (bs x1)))], [.var (blk p15) [.sl 4 (List.map e_scan_Field x14.fFields), .val (.int .i64 x14.fEnd)] 70, .var (blk p28) [.val (.int .i64 x27.fRaw.fAt), .val (.int .i64 x27.fRaw.fN), .val (.int .i64 x27.fKind), .sl 2 (List.map e_arena_Span x27.fParts)] 77], 102⟩) (fun _ h => h) ?_ ?_
          · rcases ite_some ht29 with ⟨c30, ht29⟩ | ⟨c30, ht29⟩
            · refine T.condT rfl (decide_eq_true c30) ?_
              refine T.region ?_
              refine TL.op1 (OpR.pure rfl) rfl ?_
              obtain ⟨x31, hx31, ht29⟩ := bnd_some ht29
              refine TL.op1 (OpR.concatM hx31 rfl rfl) rfl ?_
              refine TL.op1 (OpR.pure rfl) rfl ?_
              refine TL.nil ?_
              obtain rfl := Option.some.inj ht29
              exact ⟨_, Gst.only [0, 2, 3, 4, 5, 6, 7, 9, 15, 16, 17, 25, 26, 27] rfl, rfl⟩
            · refine T.condF rfl (decide_eq_false c30) ?_
              refine T.skip ?_
              obtain rfl := Option.some.inj ht29
              exact ⟨_, Gst.only [0, 2, 3, 4, 5, 6, 7, 9, 15, 16, 17, 25, 26, 27] rfl, rfl⟩
          · rintro _ rfl
            show T X _ _ _
            refine T.seq ?_
            refine T.seq ?_
            obtain ⟨t32, ht32, q22⟩ := bnd_some q22
            refine T.cutC (fun S' => S' = ⟨[(58, .val (.bool t32)), (27, .val (.int .i64 s18.2)), (26, .val (.int .i64 (x14.fFields.length : Int))), (25, .sl 4 (List.map e_scan_Field x14.fFields)), (17, .val (.int .i64 s5.2)), (16, .val (.int .i64 (x2.length : Int))), (15, .sl 2 (List.map e_scan_Row x2)), (9, .val (.pointer (some ⟨(blk p28), 0, none⟩))), (7, .val (.int .i64 (s5.1.length : Int))), (6, .val (.pointer (some ⟨(blk p15), 0, none⟩))), (5, .val (.int .i64 s5.2)), (4, .sl 2 (List.map e_scan_Row x2)), (3, .val (.string (bs t29))), (2, .val (.bool false)), (0, .val (.string (bs x1)))], [.var (blk p15) [.sl 4 (List.map e_scan_Field x14.fFields), .val (.int .i64 x14.fEnd)] 70, .var (blk p28) [.val (.int .i64 x27.fRaw.fAt), .val (.int .i64 x27.fRaw.fN), .val (.int .i64 x27.fKind), .sl 2 (List.map e_arena_Span x27.fParts)] 77], 102⟩) (fun _ h => h) ?_ ?_
            · refine T.region ?_
              refine TL.op1 (OpR.pure rfl) rfl ?_
              refine TL.op1 (OpR.pure rfl) rfl ?_
              refine TL.op1 (OpR.loadPtr 1 rfl rfl rfl rfl) rfl ?_
              refine TL.op1 (OpR.pure rfl) rfl ?_
              refine TL.op1 (OpR.cast (OpR.pure rfl) (intE (lenS _))) rfl ?_
              refine TL.op1 (OpR.pure rfl) rfl ?_
              refine TL.op1 (OpR.pure rfl) rfl ?_
              rcases ite_some ht32 with ⟨c33, ht32⟩ | ⟨c33, ht32⟩
              · refine TL.on rfl rfl rfl rfl (not_t (beq_iff_eq.2 c33)) ?_
                refine TL.op1 (OpR.pure rfl) rfl ?_
                refine TL.on rfl rfl rfl rfl (not_t (beq_iff_eq.2 c33)) ?_
                refine TL.op1 (OpR.pure rfl) rfl ?_
                refine TL.on rfl rfl rfl rfl (not_t (beq_iff_eq.2 c33)) ?_
                refine TL.op1 (OpR.loadPtr 1 rfl rfl rfl rfl) rfl ?_
                refine TL.on rfl rfl rfl rfl (not_t (beq_iff_eq.2 c33)) ?_
                refine TL.op1 (OpR.pure rfl) rfl ?_
                refine TL.op1 (OpR.pickF rfl (not_t (beq_iff_eq.2 c33)) rfl) rfl ?_
                refine TL.op1 (OpR.pure rfl) rfl ?_
                rcases ite_some ht32 with ⟨c34, ht32⟩ | ⟨c34, ht32⟩
                · refine TL.off rfl rfl rfl rfl (decide_eq_true c34) rfl rfl ?_
                  refine TL.off rfl rfl rfl rfl (decide_eq_true c34) rfl rfl ?_
                  refine TL.off rfl rfl rfl rfl (decide_eq_true c34) rfl rfl ?_
                  refine TL.off rfl rfl rfl rfl (decide_eq_true c34) rfl rfl ?_
                  refine TL.off rfl rfl rfl rfl (decide_eq_true c34) rfl rfl ?_
                  refine TL.off rfl rfl rfl rfl (decide_eq_true c34) rfl rfl ?_
                  refine TL.off rfl rfl rfl rfl (decide_eq_true c34) rfl rfl ?_
                  refine TL.off rfl rfl rfl rfl (decide_eq_true c34) rfl rfl ?_
                  refine TL.off rfl rfl rfl rfl (decide_eq_true c34) rfl rfl ?_
                  refine TL.op1 (OpR.pickT rfl (decide_eq_true c34) rfl) rfl ?_
                  refine TL.nil ?_
                  obtain rfl := Option.some.inj ht32
                  exact ⟨_, Gst.only [0, 2, 3, 4, 5, 6, 7, 9, 15, 16, 17, 25, 26, 27, 58] rfl, rfl⟩
                · refine TL.on rfl rfl rfl rfl (decide_eq_false c34) ?_
                  refine TL.op1 (OpR.pure rfl) rfl ?_
                  refine TL.on rfl rfl rfl rfl (decide_eq_false c34) ?_
                  refine TL.op1 (OpR.pure rfl) rfl ?_
                  refine TL.on rfl rfl rfl rfl (decide_eq_false c34) ?_
                  refine TL.op1 (OpR.loadPtr 1 rfl rfl rfl rfl) rfl ?_
                  refine TL.on rfl rfl rfl rfl (decide_eq_false c34) ?_
                  refine TL.op1 (OpR.pure rfl) rfl ?_
                  refine TL.on rfl rfl rfl rfl (decide_eq_false c34) ?_
                  refine TL.op1 (OpR.cast (OpR.pure rfl) (intE (lenS _))) rfl ?_
                  refine TL.on rfl rfl rfl rfl (decide_eq_false c34) ?_
                  refine TL.op1 (OpR.pure rfl) rfl ?_
                  refine TL.on rfl rfl rfl rfl (decide_eq_false c34) ?_
                  refine TL.op1 (OpR.cast (OpR.pure rfl) (intE (lenS _))) rfl ?_
                  refine TL.on rfl rfl rfl rfl (decide_eq_false c34) ?_
                  refine TL.op1 (OpR.pure rfl) rfl ?_
                  refine TL.on rfl rfl rfl rfl (decide_eq_false c34) ?_
                  refine TL.op1 (OpR.pure rfl) rfl ?_
                  refine TL.op1 (OpR.pickF rfl (decide_eq_false c34) rfl) rfl ?_
                  refine TL.nil ?_
                  obtain rfl := Option.some.inj ht32
                  exact ⟨_, Gst.only [0, 2, 3, 4, 5, 6, 7, 9, 15, 16, 17, 25, 26, 27, 58] rfl, rfl⟩
              · refine TL.off rfl rfl rfl rfl (not_f (beq_eq_false_iff_ne.2 c33)) rfl rfl ?_
                refine TL.off rfl rfl rfl rfl (not_f (beq_eq_false_iff_ne.2 c33)) rfl rfl ?_
                refine TL.off rfl rfl rfl rfl (not_f (beq_eq_false_iff_ne.2 c33)) rfl rfl ?_
                refine TL.off rfl rfl rfl rfl (not_f (beq_eq_false_iff_ne.2 c33)) rfl rfl ?_
                refine TL.op1 (OpR.pickT rfl (not_f (beq_eq_false_iff_ne.2 c33)) rfl) rfl ?_
                refine TL.op1 (OpR.pure rfl) rfl ?_
                refine TL.off rfl rfl rfl rfl rfl rfl rfl ?_
                refine TL.off rfl rfl rfl rfl rfl rfl rfl ?_
                refine TL.off rfl rfl rfl rfl rfl rfl rfl ?_
                refine TL.off rfl rfl rfl rfl rfl rfl rfl ?_
                refine TL.off rfl rfl rfl rfl rfl rfl rfl ?_
                refine TL.off rfl rfl rfl rfl rfl rfl rfl ?_
                refine TL.off rfl rfl rfl rfl rfl rfl rfl ?_
                refine TL.off rfl rfl rfl rfl rfl rfl rfl ?_
                refine TL.off rfl rfl rfl rfl rfl rfl rfl ?_
                refine TL.op1 (OpR.pickT rfl rfl rfl) rfl ?_
                refine TL.nil ?_
                obtain rfl := Option.some.inj ht32
                exact ⟨_, Gst.only [0, 2, 3, 4, 5, 6, 7, 9, 15, 16, 17, 25, 26, 27, 58] rfl, rfl⟩
            · rintro _ rfl
              show T X _ _ _
              rcases ite_some q22 with ⟨c35, q22⟩ | ⟨c35, q22⟩
              · refine T.condT rfl (c35) ?_
                refine T.seq ?_
                refine T.region ?_
                refine TL.op1 (OpR.pure rfl) rfl ?_
                refine TL.nil ?_
                show T X _ _ _
                refine T.ret ?_
                obtain rfl := Option.some.inj q22
                obtain rfl : _ = _ := i23
                obtain rfl := Option.some.inj q9
                obtain rfl : _ = _ := i10
                obtain rfl := Option.some.inj h0
                exact PostG.retP (ks := []) (Gst.trans (Gst.only [2] rfl) (Gst.pick [] rfl rfl)) undef (ResL.cons (ResV.tmp rfl) ResL.nil) rfl rfl rfl rfl
              · refine T.condF rfl (eq_false_of_ne_true c35) ?_
                refine T.skip ?_
                show T X _ _ _
                refine T.region ?_
                refine TL.op1 (OpR.pure rfl) rfl ?_
                refine TL.op1 (OpR.pure rfl) rfl ?_
                refine TL.op1 (OpR.pure rfl) rfl ?_
                refine TL.op1 (OpR.pure rfl) rfl ?_
                refine TL.op1 (OpR.loadPtr 1 rfl rfl rfl rfl) rfl ?_
                refine TL.op1 (OpR.pure rfl) rfl ?_
                refine TL.op1 (OpR.pure rfl) rfl ?_
                refine TL.op1 (OpR.loadPtr 1 rfl rfl rfl rfl) rfl ?_
                refine TL.op1 (OpR.pure rfl) rfl ?_
                refine TL.op1 (OpR.pure rfl) rfl ?_
                refine TL.op1 (OpR.loadPtr 1 rfl rfl rfl rfl) rfl ?_
                refine TL.op1 (OpR.pure rfl) rfl ?_
                obtain ⟨x36, hx36, q22⟩ := bnd_some q22
                refine TL.op1 (OpR.sliceS hx36 rfl rfl rfl (BdM.some rfl) (BdM.some rfl)) rfl ?_
                obtain ⟨x37, hx37, q22⟩ := bnd_some q22
                refine TL.op1 (OpR.concatM hx37 rfl rfl) rfl ?_
                refine TL.op1 (OpR.pure rfl) rfl ?_
                refine TL.nil ?_
                show T X _ _ _
                refine T.region ?_
                refine TL.op1 (OpR.pure rfl) rfl ?_
                refine TL.op1 (OpR.pure rfl) rfl ?_
                refine TL.nil ?_
                obtain rfl := Option.some.inj q22
                exact ⟨m20, Nat.lt_succ_self _, _, Gst.trans (Gst.only [0, 2, 3, 4, 5, 6, 7, 15, 16, 17, 25, 26, 27] rfl) (Gst.pick [0] rfl rfl), (x37, w64 (s18.2 + 1)), rfl, i23⟩
        · refine T.condF rfl (decide_eq_false c26) ?_
          refine T.exit ?_
          obtain rfl := Option.some.inj q22
          obtain rfl : _ = _ := i23
          exact ⟨_, Gst.only [0, 2, 3, 4, 5, 6, 7, 15, 16, 17] rfl, _, rfl, rfl⟩
      · rintro _ ⟨u17, rfl, rfl⟩
        show T X _ _ _
        refine T.seq ?_
        refine T.seq ?_
        obtain ⟨t38, ht38, q9⟩ := bnd_some q9
        refine T.cutC (fun S' => S' = ⟨[(89, .val (.bool t38)), (17, .val (.int .i64 s5.2)), (16, .val (.int .i64 (x2.length : Int))), (15, .sl 2 (List.map e_scan_Row x2)), (6, .val (.pointer (some ⟨(blk p15), 0, none⟩))), (4, .sl 2 (List.map e_scan_Row x2)), (3, .val (.string (bs u17))), (2, .val (.bool false)), (0, .val (.string (bs x1)))], [.var (blk p15) [.sl 4 (List.map e_scan_Field x14.fFields), .val (.int .i64 x14.fEnd)] 70], 102⟩) (fun _ h => h) ?_ ?_
        · refine T.region ?_
          refine TL.op1 (OpR.pure rfl) rfl ?_
          refine TL.op1 (OpR.loadPtr 0 rfl rfl rfl rfl) rfl ?_
          refine TL.op1 (OpR.pure rfl) rfl ?_
          refine TL.op1 (OpR.pure rfl) rfl ?_
          rcases ite_some ht38 with ⟨c39, ht38⟩ | ⟨c39, ht38⟩
          · refine TL.on rfl rfl rfl rfl (beq_iff_eq.2 c39) ?_
            refine TL.op1 (OpR.pure rfl) rfl ?_
            refine TL.on rfl rfl rfl rfl (beq_iff_eq.2 c39) ?_
            refine TL.op1 (OpR.pure rfl) rfl ?_
            refine TL.on rfl rfl rfl rfl (beq_iff_eq.2 c39) ?_
            refine TL.op1 (OpR.cast (OpR.pure rfl) (intE (lenM _ _))) rfl ?_
            refine TL.on rfl rfl rfl rfl (beq_iff_eq.2 c39) ?_
            refine TL.op1 (OpR.pure rfl) rfl ?_
            refine TL.on rfl rfl rfl rfl (beq_iff_eq.2 c39) ?_
            refine TL.op1 (OpR.pure rfl) rfl ?_
            refine TL.on rfl rfl rfl rfl (beq_iff_eq.2 c39) ?_
            refine TL.op1 (OpR.pure rfl) rfl ?_
            rcases ite_some ht38 with ⟨c40, ht38⟩ | ⟨c40, ht38⟩
            · refine TL.off rfl rfl rfl rfl (decide_eq_true c40) rfl rfl ?_
              refine TL.off rfl rfl rfl rfl (decide_eq_true c40) rfl rfl ?_
              refine TL.off rfl rfl rfl rfl (decide_eq_true c40) rfl rfl ?_
              refine TL.off rfl rfl rfl rfl (decide_eq_true c40) rfl rfl ?_
              refine TL.on rfl rfl rfl rfl (beq_iff_eq.2 c39) ?_
              refine TL.op1 (OpR.pickT rfl (decide_eq_true c40) rfl) rfl ?_
              refine TL.op1 (OpR.pickT rfl (beq_iff_eq.2 c39) rfl) rfl ?_
              refine TL.nil ?_
              obtain rfl := Option.some.inj ht38
              exact ⟨_, Gst.only [0, 2, 3, 4, 6, 15, 16, 17, 89] rfl, rfl⟩
            · refine TL.on rfl rfl rfl rfl (decide_eq_false c40) ?_
              refine TL.op1 (OpR.pure rfl) rfl ?_
              refine TL.on rfl rfl rfl rfl (decide_eq_false c40) ?_
              refine TL.op1 (OpR.cast (OpR.pure rfl) (intE (lenS _))) rfl ?_
              refine TL.on rfl rfl rfl rfl (decide_eq_false c40) ?_
              refine TL.op1 (OpR.pure rfl) rfl ?_
              refine TL.on rfl rfl rfl rfl (decide_eq_false c40) ?_
              refine TL.op1 (OpR.pure rfl) rfl ?_
              refine TL.on rfl rfl rfl rfl (beq_iff_eq.2 c39) ?_
              refine TL.op1 (OpR.pickF rfl (decide_eq_false c40) rfl) rfl ?_
              refine TL.op1 (OpR.pickT rfl (beq_iff_eq.2 c39) rfl) rfl ?_
              refine TL.nil ?_
              obtain rfl := Option.some.inj ht38
              exact ⟨_, Gst.only [0, 2, 3, 4, 6, 15, 16, 17, 89] rfl, rfl⟩
          · refine TL.off rfl rfl rfl rfl (beq_eq_false_iff_ne.2 c39) rfl rfl ?_
            refine TL.off rfl rfl rfl rfl (beq_eq_false_iff_ne.2 c39) rfl rfl ?_
            refine TL.off rfl rfl rfl rfl (beq_eq_false_iff_ne.2 c39) rfl rfl ?_
            refine TL.off rfl rfl rfl rfl (beq_eq_false_iff_ne.2 c39) rfl rfl ?_
            refine TL.off rfl rfl rfl rfl (beq_eq_false_iff_ne.2 c39) rfl rfl ?_
            refine TL.off rfl rfl rfl rfl (beq_eq_false_iff_ne.2 c39) rfl rfl ?_
            refine TL.offU rfl rfl rfl rfl rfl rfl ?_
            refine TL.offU rfl rfl rfl rfl rfl rfl ?_
            refine TL.offU rfl rfl rfl rfl rfl rfl ?_
            refine TL.offU rfl rfl rfl rfl rfl rfl ?_
            refine TL.off rfl rfl rfl rfl (beq_eq_false_iff_ne.2 c39) rfl rfl ?_
            refine TL.op1 (OpR.pickF rfl (beq_eq_false_iff_ne.2 c39) rfl) rfl ?_
            refine TL.nil ?_
            obtain rfl := Option.some.inj ht38
            exact ⟨_, Gst.only [0, 2, 3, 4, 6, 15, 16, 17, 89] rfl, rfl⟩
        · rintro _ rfl
          show T X _ _ _
          rcases ite_some q9 with ⟨c41, q9⟩ | ⟨c41, q9⟩
          · refine T.condT rfl (c41) ?_
            refine T.seq ?_
            refine T.region ?_
            refine TL.op1 (OpR.pure rfl) rfl ?_
            refine TL.nil ?_
            show T X _ _ _
            refine T.ret ?_
            obtain rfl := Option.some.inj q9
            obtain rfl : _ = _ := i10
            obtain rfl := Option.some.inj h0
            exact PostG.retP (ks := []) (Gst.trans (Gst.only [2] rfl) (Gst.pick [] rfl rfl)) undef (ResL.cons (ResV.tmp rfl) ResL.nil) rfl rfl rfl rfl
          · refine T.condF rfl (eq_false_of_ne_true c41) ?_
            refine T.skip ?_
            show T X _ _ _
            refine T.region ?_
            refine TL.op1 (OpR.pure rfl) rfl ?_
            refine TL.op1 (OpR.pure rfl) rfl ?_
            refine TL.op1 (OpR.loadPtr 0 rfl rfl rfl rfl) rfl ?_
            obtain ⟨x42, hx42, q9⟩ := bnd_some q9
            refine TL.op1 (OpR.call0 fn57 (scan_Mark_c hx42) rfl) rfl ?_
            obtain ⟨x43, hx43, q9⟩ := bnd_some q9
            refine TL.op1 (OpR.concatM hx43 rfl rfl) rfl ?_
            refine TL.op1 (OpR.pure rfl) rfl ?_
            refine TL.nil ?_
            show T X _ _ _
            refine T.region ?_
            refine TL.op1 (OpR.pure rfl) rfl ?_
            refine TL.op1 (OpR.pure rfl) rfl ?_
            refine TL.nil ?_
            obtain rfl := Option.some.inj q9
            exact ⟨m7, Nat.lt_succ_self _, _, Gst.trans (Gst.only [0, 2, 3, 4, 15, 16, 17] rfl) (Gst.pick [] rfl rfl), (x43, w64 (s5.2 + 1)), rfl, i10⟩
    · refine T.condF rfl (decide_eq_false c13) ?_
      refine T.exit ?_
      obtain rfl := Option.some.inj q9
      obtain rfl : _ = _ := i10
      exact ⟨_, Gst.only [0, 2, 3] rfl, _, rfl, rfl⟩
  · rintro _ ⟨u4, rfl, rfl⟩
    show T X _ _ _
    refine T.seq ?_
    obtain ⟨t44, ht44, h0⟩ := bnd_some h0
    refine T.cutC (fun S' => S' = ⟨[(2, .val (.bool t44))], [], 102⟩) (fun _ h => h) ?_ ?_
    · refine T.region ?_
      refine TL.op1 (OpR.pure rfl) rfl ?_
      refine TL.op1 (OpR.pure rfl) rfl ?_
      refine TL.op1 (OpR.cast (OpR.pure rfl) (boolE (strEq _ _))) rfl ?_
      refine TL.op1 (OpR.pure rfl) rfl ?_
      rcases ite_some ht44 with ⟨c45, ht44⟩ | ⟨c45, ht44⟩
      · refine TL.on rfl rfl rfl rfl (beq_iff_eq.2 c45) ?_
        obtain ⟨x46, hx46, ht44⟩ := bnd_some ht44
        refine TL.op1 (OpR.call0 fn56 (law05_awake_c hx46) rfl) rfl ?_
        refine TL.op1 (OpR.pickT rfl (beq_iff_eq.2 c45) rfl) rfl ?_
        refine TL.op1 (OpR.pure rfl) rfl ?_
        refine TL.nil ?_
        obtain rfl := Option.some.inj ht44
        exact ⟨_, Gst.only [2] rfl, rfl⟩
      · refine TL.off rfl rfl rfl rfl (beq_eq_false_iff_ne.2 c45) rfl rfl ?_
        refine TL.op1 (OpR.pickF rfl (beq_eq_false_iff_ne.2 c45) rfl) rfl ?_
        refine TL.op1 (OpR.pure rfl) rfl ?_
        refine TL.nil ?_
        obtain rfl := Option.some.inj ht44
        exact ⟨_, Gst.only [2] rfl, rfl⟩
    · rintro _ rfl
      show T X _ _ _
      refine T.ret ?_
      obtain rfl := Option.some.inj h0
      exact PostG.retP (ks := []) (Gst.only [2] rfl) undef (ResL.cons (ResV.tmp rfl) ResL.nil) rfl rfl rfl rfl
noncomputable def ref05_Mark (a0 : Int) : Option (List UInt8) :=
  if a0 = 1 then
    some [10]
  else
    if a0 = 2 then
      some [13, 10]
    else
      if a0 = 3 then
        some [13]
      else
        some []
set_option maxHeartbeats 4000000 in
theorem ref05_Mark_c {a0 : Int} {res : (List UInt8)} (h0 : ref05_Mark a0 = some res) : CallF X 58 [.val (.int .i64 a0)] [] (fun x => .val (.string (bs res))) (fun x => []) := by
  unfold ref05_Mark at h0
  refine CallF.mkG (X := X) Try.func58 rfl rfl Try.ntmps58 rfl rfl ?_
  refine T.seq ?_
  refine T.region ?_
  refine TL.op1 (OpR.pure rfl) rfl ?_
  refine TL.nil ?_
  show T X _ _ _
  refine T.seq ?_
  refine T.seq ?_
  refine T.region ?_
  refine TL.op1 (OpR.pure rfl) rfl ?_
  refine TL.op1 (OpR.pure rfl) rfl ?_
  refine TL.nil ?_
  show T X _ _ _
  rcases ite_some h0 with ⟨c1, h0⟩ | ⟨c1, h0⟩
  · refine T.condT rfl (beq_iff_eq.2 c1) ?_
    refine T.seq ?_
    refine T.region ?_
    refine TL.op1 (OpR.pure rfl) rfl ?_
    refine TL.nil ?_
    show T X _ _ _
    refine T.ret ?_
    obtain rfl := Option.some.inj h0
    exact PostG.retP (ks := []) (Gst.only [2] rfl) undef (ResL.cons (ResV.tmp rfl) ResL.nil) rfl rfl rfl rfl
  · refine T.condF rfl (beq_eq_false_iff_ne.2 c1) ?_
    refine T.skip ?_
    show T X _ _ _
    refine T.seq ?_
    refine T.seq ?_
    refine T.region ?_
    refine TL.op1 (OpR.pure rfl) rfl ?_
    refine TL.op1 (OpR.pure rfl) rfl ?_
    refine TL.nil ?_
    show T X _ _ _
    rcases ite_some h0 with ⟨c2, h0⟩ | ⟨c2, h0⟩
    · refine T.condT rfl (beq_iff_eq.2 c2) ?_
      refine T.seq ?_
      refine T.region ?_
      refine TL.op1 (OpR.pure rfl) rfl ?_
      refine TL.nil ?_
      show T X _ _ _
      refine T.ret ?_
      obtain rfl := Option.some.inj h0
      exact PostG.retP (ks := []) (Gst.only [2] rfl) undef (ResL.cons (ResV.tmp rfl) ResL.nil) rfl rfl rfl rfl
    · refine T.condF rfl (beq_eq_false_iff_ne.2 c2) ?_
      refine T.skip ?_
      show T X _ _ _
      refine T.seq ?_
      refine T.seq ?_
      refine T.region ?_
      refine TL.op1 (OpR.pure rfl) rfl ?_
      refine TL.op1 (OpR.pure rfl) rfl ?_
      refine TL.nil ?_
      show T X _ _ _
      rcases ite_some h0 with ⟨c3, h0⟩ | ⟨c3, h0⟩
      · refine T.condT rfl (beq_iff_eq.2 c3) ?_
        refine T.seq ?_
        refine T.region ?_
        refine TL.op1 (OpR.pure rfl) rfl ?_
        refine TL.nil ?_
        show T X _ _ _
        refine T.ret ?_
        obtain rfl := Option.some.inj h0
        exact PostG.retP (ks := []) (Gst.only [2] rfl) undef (ResL.cons (ResV.tmp rfl) ResL.nil) rfl rfl rfl rfl
      · refine T.condF rfl (beq_eq_false_iff_ne.2 c3) ?_
        refine T.skip ?_
        show T X _ _ _
        refine T.seq ?_
        refine T.region ?_
        refine TL.op1 (OpR.pure rfl) rfl ?_
        refine TL.nil ?_
        show T X _ _ _
        refine T.ret ?_
        obtain rfl := Option.some.inj h0
        exact PostG.retP (ks := []) (Gst.only [2] rfl) undef (ResL.cons (ResV.tmp rfl) ResL.nil) rfl rfl rfl rfl
noncomputable def scan_Fine (a0 : Int) : Option Bool :=
  bnd (if a0 = 0 then
    some true
  else
    some (a0 == 1) : Option Bool) fun t1 =>
  some t1
set_option maxHeartbeats 4000000 in
theorem scan_Fine_c {a0 : Int} {res : Bool} (h0 : scan_Fine a0 = some res) : CallF X 59 [.val (.int .i64 a0)] [] (fun x => .val (.bool res)) (fun x => []) := by
  unfold scan_Fine at h0
  refine CallF.mkG (X := X) Try.func59 rfl rfl Try.ntmps59 rfl rfl ?_
  refine T.seq ?_
  refine T.region ?_
  refine TL.op1 (OpR.pure rfl) rfl ?_
  refine TL.nil ?_
  show T X _ _ _
  refine T.seq ?_
  obtain ⟨t1, ht1, h0⟩ := bnd_some h0
  refine T.cutC (fun S' => S' = ⟨[(2, .val (.bool t1))], [], 9⟩) (fun _ h => h) ?_ ?_
  · refine T.region ?_
    refine TL.op1 (OpR.pure rfl) rfl ?_
    refine TL.op1 (OpR.pure rfl) rfl ?_
    refine TL.op1 (OpR.pure rfl) rfl ?_
    rcases ite_some ht1 with ⟨c2, ht1⟩ | ⟨c2, ht1⟩
    · refine TL.off rfl rfl rfl rfl (beq_iff_eq.2 c2) rfl rfl ?_
      refine TL.off rfl rfl rfl rfl (beq_iff_eq.2 c2) rfl rfl ?_
      refine TL.op1 (OpR.pickT rfl (beq_iff_eq.2 c2) rfl) rfl ?_
      refine TL.op1 (OpR.pure rfl) rfl ?_
      refine TL.nil ?_
      obtain rfl := Option.some.inj ht1
      exact ⟨_, Gst.only [2] rfl, rfl⟩
    · refine TL.on rfl rfl rfl rfl (beq_eq_false_iff_ne.2 c2) ?_
      refine TL.op1 (OpR.pure rfl) rfl ?_
      refine TL.on rfl rfl rfl rfl (beq_eq_false_iff_ne.2 c2) ?_
      refine TL.op1 (OpR.pure rfl) rfl ?_
      refine TL.op1 (OpR.pickF rfl (beq_eq_false_iff_ne.2 c2) rfl) rfl ?_
      refine TL.op1 (OpR.pure rfl) rfl ?_
      refine TL.nil ?_
      obtain rfl := Option.some.inj ht1
      exact ⟨_, Gst.only [2] rfl, rfl⟩
  · rintro _ rfl
    show T X _ _ _
    refine T.ret ?_
    obtain rfl := Option.some.inj h0
    exact PostG.retP (ks := []) (Gst.only [2] rfl) undef (ResL.cons (ResV.tmp rfl) ResL.nil) rfl rfl rfl rfl
noncomputable def scan_Value_2.l1 (a0 : List UInt8) (a3 : List arena_Span) (s4 : Int × (List UInt8)) : Option (Lp (Int × (List UInt8)) (List UInt8)) :=
  if s4.1 < (a3.length : Int) then
    bnd (idx a3 s4.1) fun x13 =>
    bnd (if x13.fAt ≥ 0 then
      if x13.fN ≥ 0 then
        if x13.fAt ≤ (a0.length : Int) then
          some (decide (x13.fN ≤ (w64 ((a0.length : Int) - x13.fAt))))
        else
          some false
      else
        some false
    else
      some false : Option Bool) fun t15 =>
    bnd (if t15 = true then
      bnd (cut a0 x13.fAt (w64 (x13.fAt + x13.fN))) fun x22 =>
      bnd (app 1 s4.2 x22) fun x23 =>
      some x23
    else
      some s4.2 : Option (List UInt8)) fun t19 =>
    some (Lp.next (w64 (s4.1 + 1), t19))
  else
    some (Lp.done s4.2)
noncomputable def scan_Value_2 (a0 : List UInt8) (a1 : arena_Span) (a2 : Int) (a3 : List arena_Span) : Option (List UInt8) :=
  bnd (loop (scan_Value_2.l1 a0 a3) (0, []) : Option (List UInt8)) fun t1 =>
  some t1
set_option maxHeartbeats 4000000 in
theorem scan_Value_2_c {a0 : List UInt8} {a1 : arena_Span} {a2 : Int} {a3 : List arena_Span} {v0 : Value} {res : (List UInt8)} (h0 : scan_Value_2 a0 a1 a2 a3 = some res) : CallF X 54 [.sl 1 (List.map byteD a0), .agg [.val (.int .i64 a1.fAt), .val (.int .i64 a1.fN), .val (.int .i64 a2), .val v0]] [.row v0 (List.map e_arena_Span a3) 2 75] (fun x => .sl 1 (List.map byteD res)) (fun x => [.row v0 (List.map e_arena_Span a3) 2 75]) := by
  unfold scan_Value_2 at h0
  refine CallF.mkG (X := X) Try.func54 rfl rfl Try.ntmps54 rfl rfl ?_
  refine T.seq ?_
  refine T.region ?_
  refine TL.op1 (OpR.boxImm rfl rfl) rfl ?_
  refine TL.op1 (OpR.pure rfl) rfl ?_
  refine TL.nil ?_
  show T X _ _ _
  refine T.seq ?_
  refine T.region ?_
  refine TL.op1 (OpR.pure rfl) rfl ?_
  refine TL.nil ?_
  show T X _ _ _
  refine T.seq ?_
  refine T.seq ?_
  refine T.region ?_
  refine TL.op1 (OpR.pure rfl) rfl ?_
  refine TL.op1 (OpR.pure rfl) rfl ?_
  refine TL.op1 (OpR.rowLenM e_arena_Span 0 rfl rfl rfl rfl) rfl ?_
  refine TL.op1 (OpR.pure rfl) rfl ?_
  refine TL.nil ?_
  show T X _ _ _
  obtain ⟨t1, ht1, h0⟩ := bnd_some h0
  refine T.cutC (fun S' => ∃ y2 : Value, S' = ⟨[(5, .val y2), (4, .val (.slice none 0 0))], [.row v0 (List.map e_arena_Span a3) 2 75, .row y2 (List.map byteD t1) 1 5], 53⟩) (fun _ h => h) ?_ ?_
  · refine T.block ?_
    obtain ⟨n5, n10⟩ := loop_some ht1
    refine T.loop (fun n S' => ∃ S'', Gst S' S'' ∧ ∃ y3 : Value, ∃ s4 : Int × (List UInt8), S'' = ⟨[(11, .val (.int .i64 s4.1)), (10, .val (.int .i64 (a3.length : Int))), (9, .val v0), (5, .val y3), (4, .val (.slice none 0 0)), (0, .sl 1 (List.map byteD a0))], [.row v0 (List.map e_arena_Span a3) 2 75, .row y3 (List.map byteD s4.2) 1 5], 53⟩ ∧ iter (scan_Value_2.l1 a0 a3) n s4 = some t1) n5 ?_ ?_
    · exact ⟨_, Gst.trans (Gst.only [0, 4, 5, 9, 10, 11] rfl) (Gst.nilRow (ow := [.row v0 (List.map e_arena_Span a3) 2 75]) 1 5 rfl), (.slice none 0 0), (0, []), rfl, n10⟩
    rintro n5 _ ⟨_, g, y3, s4, rfl, i9⟩
    refine T.ghost g ?_
    obtain ⟨m6, q7, rfl, q8, i9⟩ := iter_succ i9
    unfold scan_Value_2.l1 at q8
    refine T.seq ?_
    refine T.region ?_
    refine TL.op1 (OpR.pure rfl) rfl ?_
    refine TL.nil ?_
    show T X _ _ _
    refine T.seq ?_
    rcases ite_some q8 with ⟨c12, q8⟩ | ⟨c12, q8⟩
    · refine T.condT rfl (decide_eq_true c12) ?_
      refine T.skip ?_
      show T X _ _ _
      refine T.seq ?_
      refine T.block ?_
      refine T.seq ?_
      refine T.region ?_
      obtain ⟨x13, hx13, q8⟩ := bnd_some q8
      refine TL.op1 (OpR.rowIndexM e_arena_Span 0 hx13 rfl rfl rfl rfl rfl rfl rfl) rfl ?_
      refine TL.op1 (OpR.rowLoad0M (j := s4.1) e_arena_Span 0 hx13 rfl rfl rfl rfl) rfl ?_
      refine TL.op (OpR.alloc rfl rfl (fun _ => rfl)) rfl (fun p14 => ?_)
      refine TL.op0 (OpR.store 2 rfl rfl rfl rfl rfl rfl rfl rfl) ?_
      refine TL.nil ?_
      show T X _ _ _
      refine T.seq ?_
      obtain ⟨t15, ht15, q8⟩ := bnd_some q8
      refine T.cutC (fun S' => S' = ⟨[(39, .val (.bool t15)), (11, .val (.int .i64 s4.1)), (10, .val (.int .i64 (a3.length : Int))), (9, .val v0), (7, .val (.pointer (some ⟨(blk p14), 0, none⟩))), (5, .val y3), (4, .val (.slice none 0 0)), (0, .sl 1 (List.map byteD a0))], [.row v0 (List.map e_arena_Span a3) 2 75, .row y3 (List.map byteD s4.2) 1 5, .var (blk p14) [.val (.int .i64 x13.fAt), .val (.int .i64 x13.fN)] 75], 53⟩) (fun _ h => h) ?_ ?_
      · refine T.region ?_
        refine TL.op1 (OpR.pure rfl) rfl ?_
        refine TL.op1 (OpR.loadPtr 2 rfl rfl rfl rfl) rfl ?_
        refine TL.op1 (OpR.pure rfl) rfl ?_
        refine TL.op1 (OpR.pure rfl) rfl ?_
        rcases ite_some ht15 with ⟨c16, ht15⟩ | ⟨c16, ht15⟩
        · refine TL.on rfl rfl rfl rfl (decide_eq_true c16) ?_
          refine TL.op1 (OpR.pure rfl) rfl ?_
          refine TL.on rfl rfl rfl rfl (decide_eq_true c16) ?_
          refine TL.op1 (OpR.loadPtr 2 rfl rfl rfl rfl) rfl ?_
          refine TL.on rfl rfl rfl rfl (decide_eq_true c16) ?_
          refine TL.op1 (OpR.pure rfl) rfl ?_
          refine TL.op1 (OpR.pickT rfl (decide_eq_true c16) rfl) rfl ?_
          refine TL.op1 (OpR.pure rfl) rfl ?_
          rcases ite_some ht15 with ⟨c17, ht15⟩ | ⟨c17, ht15⟩
          · refine TL.on rfl rfl rfl rfl (decide_eq_true c17) ?_
            refine TL.op1 (OpR.pure rfl) rfl ?_
            refine TL.on rfl rfl rfl rfl (decide_eq_true c17) ?_
            refine TL.op1 (OpR.loadPtr 2 rfl rfl rfl rfl) rfl ?_
            refine TL.on rfl rfl rfl rfl (decide_eq_true c17) ?_
            refine TL.op1 (OpR.pure rfl) rfl ?_
            refine TL.on rfl rfl rfl rfl (decide_eq_true c17) ?_
            refine TL.op1 (OpR.cast (OpR.pure rfl) (intE (lenM _ _))) rfl ?_
            refine TL.on rfl rfl rfl rfl (decide_eq_true c17) ?_
            refine TL.op1 (OpR.pure rfl) rfl ?_
            refine TL.op1 (OpR.pickT rfl (decide_eq_true c17) rfl) rfl ?_
            refine TL.op1 (OpR.pure rfl) rfl ?_
            rcases ite_some ht15 with ⟨c18, ht15⟩ | ⟨c18, ht15⟩
            · refine TL.on rfl rfl rfl rfl (decide_eq_true c18) ?_
              refine TL.op1 (OpR.pure rfl) rfl ?_
              refine TL.on rfl rfl rfl rfl (decide_eq_true c18) ?_
              refine TL.op1 (OpR.loadPtr 2 rfl rfl rfl rfl) rfl ?_
              refine TL.on rfl rfl rfl rfl (decide_eq_true c18) ?_
              refine TL.op1 (OpR.pure rfl) rfl ?_
              refine TL.on rfl rfl rfl rfl (decide_eq_true c18) ?_
              refine TL.op1 (OpR.cast (OpR.pure rfl) (intE (lenM _ _))) rfl ?_
              refine TL.on rfl rfl rfl rfl (decide_eq_true c18) ?_
              refine TL.op1 (OpR.pure rfl) rfl ?_
              refine TL.on rfl rfl rfl rfl (decide_eq_true c18) ?_
              refine TL.op1 (OpR.loadPtr 2 rfl rfl rfl rfl) rfl ?_
              refine TL.on rfl rfl rfl rfl (decide_eq_true c18) ?_
              refine TL.op1 (OpR.pure rfl) rfl ?_
              refine TL.on rfl rfl rfl rfl (decide_eq_true c18) ?_
              refine TL.op1 (OpR.pure rfl) rfl ?_
              refine TL.op1 (OpR.pickT rfl (decide_eq_true c18) rfl) rfl ?_
              refine TL.nil ?_
              obtain rfl := Option.some.inj ht15
              exact ⟨_, Gst.only [0, 4, 5, 7, 9, 10, 11, 39] rfl, rfl⟩
            · refine TL.off rfl rfl rfl rfl (decide_eq_false c18) rfl rfl ?_
              refine TL.off rfl rfl rfl rfl (decide_eq_false c18) rfl rfl ?_
              refine TL.off rfl rfl rfl rfl (decide_eq_false c18) rfl rfl ?_
              refine TL.off rfl rfl rfl rfl (decide_eq_false c18) rfl rfl ?_
              refine TL.off rfl rfl rfl rfl (decide_eq_false c18) rfl rfl ?_
              refine TL.off rfl rfl rfl rfl (decide_eq_false c18) rfl rfl ?_
              refine TL.off rfl rfl rfl rfl (decide_eq_false c18) rfl rfl ?_
              refine TL.off rfl rfl rfl rfl (decide_eq_false c18) rfl rfl ?_
              refine TL.op1 (OpR.pickF rfl (decide_eq_false c18) rfl) rfl ?_
              refine TL.nil ?_
              obtain rfl := Option.some.inj ht15
              exact ⟨_, Gst.only [0, 4, 5, 7, 9, 10, 11, 39] rfl, rfl⟩
          · refine TL.off rfl rfl rfl rfl (decide_eq_false c17) rfl rfl ?_
            refine TL.off rfl rfl rfl rfl (decide_eq_false c17) rfl rfl ?_
            refine TL.off rfl rfl rfl rfl (decide_eq_false c17) rfl rfl ?_
            refine TL.off rfl rfl rfl rfl (decide_eq_false c17) rfl rfl ?_
            refine TL.off rfl rfl rfl rfl (decide_eq_false c17) rfl rfl ?_
            refine TL.op1 (OpR.pickF rfl (decide_eq_false c17) rfl) rfl ?_
            refine TL.op1 (OpR.pure rfl) rfl ?_
            refine TL.off rfl rfl rfl rfl rfl rfl rfl ?_
            refine TL.off rfl rfl rfl rfl rfl rfl rfl ?_
            refine TL.off rfl rfl rfl rfl rfl rfl rfl ?_
            refine TL.off rfl rfl rfl rfl rfl rfl rfl ?_
            refine TL.off rfl rfl rfl rfl rfl rfl rfl ?_
            refine TL.off rfl rfl rfl rfl rfl rfl rfl ?_
            refine TL.off rfl rfl rfl rfl rfl rfl rfl ?_
            refine TL.off rfl rfl rfl rfl rfl rfl rfl ?_
            refine TL.op1 (OpR.pickF rfl rfl rfl) rfl ?_
            refine TL.nil ?_
            obtain rfl := Option.some.inj ht15
            exact ⟨_, Gst.only [0, 4, 5, 7, 9, 10, 11, 39] rfl, rfl⟩
        · refine TL.off rfl rfl rfl rfl (decide_eq_false c16) rfl rfl ?_
          refine TL.off rfl rfl rfl rfl (decide_eq_false c16) rfl rfl ?_
          refine TL.off rfl rfl rfl rfl (decide_eq_false c16) rfl rfl ?_
          refine TL.op1 (OpR.pickF rfl (decide_eq_false c16) rfl) rfl ?_
          refine TL.op1 (OpR.pure rfl) rfl ?_
          refine TL.off rfl rfl rfl rfl rfl rfl rfl ?_
          refine TL.off rfl rfl rfl rfl rfl rfl rfl ?_
          refine TL.off rfl rfl rfl rfl rfl rfl rfl ?_
          refine TL.off rfl rfl rfl rfl rfl rfl rfl ?_
          refine TL.off rfl rfl rfl rfl rfl rfl rfl ?_
          refine TL.op1 (OpR.pickF rfl rfl rfl) rfl ?_
          refine TL.op1 (OpR.pure rfl) rfl ?_
          refine TL.off rfl rfl rfl rfl rfl rfl rfl ?_
          refine TL.off rfl rfl rfl rfl rfl rfl rfl ?_
          refine TL.off rfl rfl rfl rfl rfl rfl rfl ?_
          refine TL.off rfl rfl rfl rfl rfl rfl rfl ?_
          refine TL.off rfl rfl rfl rfl rfl rfl rfl ?_
          refine TL.off rfl rfl rfl rfl rfl rfl rfl ?_
          refine TL.off rfl rfl rfl rfl rfl rfl rfl ?_
          refine TL.off rfl rfl rfl rfl rfl rfl rfl ?_
          refine TL.op1 (OpR.pickF rfl rfl rfl) rfl ?_
          refine TL.nil ?_
          obtain rfl := Option.some.inj ht15
          exact ⟨_, Gst.only [0, 4, 5, 7, 9, 10, 11, 39] rfl, rfl⟩
      · rintro _ rfl
        show T X _ _ _
        obtain ⟨t19, ht19, q8⟩ := bnd_some q8
        refine T.cutC (fun S' => ∃ y20 : Value, S' = ⟨[(11, .val (.int .i64 s4.1)), (10, .val (.int .i64 (a3.length : Int))), (9, .val v0), (5, .val y20), (4, .val (.slice none 0 0)), (0, .sl 1 (List.map byteD a0))], [.row v0 (List.map e_arena_Span a3) 2 75, .row y20 (List.map byteD t19) 1 5], 53⟩) (fun _ h => h) ?_ ?_
        · rcases ite_some ht19 with ⟨c21, ht19⟩ | ⟨c21, ht19⟩
          · refine T.condT rfl (c21) ?_
            refine T.region ?_
            refine TL.op1 (OpR.pure rfl) rfl ?_
            refine TL.op1 (OpR.pure rfl) rfl ?_
            refine TL.op1 (OpR.pure rfl) rfl ?_
            refine TL.op1 (OpR.loadPtr 2 rfl rfl rfl rfl) rfl ?_
            refine TL.op1 (OpR.pure rfl) rfl ?_
            refine TL.op1 (OpR.loadPtr 2 rfl rfl rfl rfl) rfl ?_
            refine TL.op1 (OpR.pure rfl) rfl ?_
            refine TL.op1 (OpR.loadPtr 2 rfl rfl rfl rfl) rfl ?_
            refine TL.op1 (OpR.pure rfl) rfl ?_
            obtain ⟨x22, hx22, ht19⟩ := bnd_some ht19
            refine TL.op1 (OpR.sliceM (sz := 1) byteD hx22 rfl rfl rfl rfl (BdM.some rfl) (BdM.some rfl) rfl) rfl ?_
            obtain ⟨x23, hx23, ht19⟩ := bnd_some ht19
            refine TL.op (OpR.appendM (m := x22) byteD 1 hx23 rfl rfl rfl rfl rfl rfl rfl rfl rfl (fun _ => rfl)) rfl (fun v24 => ?_)
            refine TL.op1 (OpR.pure rfl) rfl ?_
            refine TL.nil ?_
            obtain rfl := Option.some.inj ht19
            exact ⟨_, Gst.trans (Gst.only [0, 4, 5, 9, 10, 11] rfl) (Gst.pick [0, 1] rfl rfl), v24, rfl⟩
          · refine T.condF rfl (eq_false_of_ne_true c21) ?_
            refine T.skip ?_
            obtain rfl := Option.some.inj ht19
            exact ⟨_, Gst.trans (Gst.only [0, 4, 5, 9, 10, 11] rfl) (Gst.pick [0, 1] rfl rfl), y3, rfl⟩
        · rintro _ ⟨y20, rfl⟩
          show T X _ _ _
          refine T.region ?_
          refine TL.op1 (OpR.pure rfl) rfl ?_
          refine TL.op1 (OpR.pure rfl) rfl ?_
          refine TL.nil ?_
          obtain rfl := Option.some.inj q8
          exact ⟨m6, Nat.lt_succ_self _, _, Gst.only [0, 4, 5, 9, 10, 11] rfl, y20, (w64 (s4.1 + 1), t19), rfl, i9⟩
    · refine T.condF rfl (decide_eq_false c12) ?_
      refine T.exit ?_
      obtain rfl := Option.some.inj q8
      obtain rfl : _ = _ := i9
      exact ⟨_, Gst.only [4, 5] rfl, y3, rfl⟩
  · rintro _ ⟨y2, rfl⟩
    show T X _ _ _
    refine T.seq ?_
    refine T.region ?_
    refine TL.op1 (OpR.pure rfl) rfl ?_
    refine TL.op1 (OpR.pure rfl) rfl ?_
    refine TL.nil ?_
    show T X _ _ _
    refine T.ret ?_
    obtain rfl := Option.some.inj h0
    exact PostG.retP (ks := [0]) (Gst.trans (Gst.only [4] rfl) (Gst.trans (Gst.freezeRow 1 rfl rfl (ReS.cons (Re.base .all) ReS.nil) (ReO.same (ReO.same ReO.nil))) (Gst.pick [0] rfl rfl))) undef (ResL.cons (ResV.tmp rfl) ResL.nil) rfl rfl rfl rfl
noncomputable def law05_ScanMarks.l1 (a2 : law05_Spot) (x1 : (List UInt8)) (s6 : (List UInt8) × Int × (List arena_Span)) : Option (Lp ((List UInt8) × Int × (List arena_Span)) ((List UInt8) × (List arena_Span))) :=
  if s6.2.1 < (a2.fParts.length : Int) then
    bnd (idx a2.fParts s6.2.1) fun x15 =>
    if s6.2.1 ≥ 20 then
      some (Lp.done (s6.1, s6.2.2))
    else
      bnd (app 16 s6.2.2 [x15]) fun x18 =>
      bnd (if x15.fAt ≥ 0 then
        if x15.fN ≥ 0 then
          if x15.fAt ≤ (x1.length : Int) then
            some (decide (x15.fN ≤ (w64 ((x1.length : Int) - x15.fAt))))
          else
            some false
        else
          some false
      else
        some false : Option Bool) fun t20 =>
      bnd (if t20 = true then
        bnd (cut x1 x15.fAt (w64 (x15.fAt + x15.fN))) fun x26 =>
        bnd (catS s6.1 x26) fun x27 =>
        some x27
      else
        some s6.1 : Option (List UInt8)) fun t24 =>
      some (Lp.next (t24, w64 (s6.2.1 + 1), x18))
  else
    some (Lp.done (s6.1, s6.2.2))
noncomputable def law05_ScanMarks (a0 : Int) (a1 : Int) (a2 : law05_Spot) : Option Bool :=
  bnd (law05_cut a2.fS 100) fun x1 =>
  bnd (loop (law05_ScanMarks.l1 a2 x1) ([], 0, []) : Option ((List UInt8) × (List arena_Span))) fun t3 =>
  bnd (bnd (scan_Mark a0) fun x29 =>
  bnd (ref05_Mark a0) fun x30 =>
  if x29 = x30 then
    bnd (scan_Fine a1) fun x32 =>
    if a1 = 0 then
      if (x32 == true) = true then
        bnd (scan_Value_2 x1 (⟨0, 0⟩ : arena_Span) 0 t3.2) fun x35 =>
        if x35 = t3.1 then
          bnd (law05_awake) fun x37 =>
          some x37
        else
          some false
      else
        some false
    else
      if (x32 == (a1 == 1)) = true then
        bnd (scan_Value_2 x1 (⟨0, 0⟩ : arena_Span) 0 t3.2) fun x39 =>
        if x39 = t3.1 then
          bnd (law05_awake) fun x41 =>
          some x41
        else
          some false
      else
        some false
  else
    some false : Option Bool) fun t28 =>
  some t28
set_option maxHeartbeats 4000000 in
theorem law05_ScanMarks_c {a0 : Int} {a1 : Int} {a2 : law05_Spot} {res : Bool} (h0 : law05_ScanMarks a0 a1 a2 = some res) : CallF X 12 [.val (.int .i64 a0), .val (.int .i64 a1), .agg [.val (.string (bs a2.fS)), .sl 2 (List.map e_arena_Span a2.fParts)]] [] (fun x => .val (.bool res)) (fun x => []) := by
  unfold law05_ScanMarks at h0
  refine CallF.mkG (X := X) Try.func12 rfl rfl Try.ntmps12 rfl rfl ?_
  refine T.seq ?_
  refine T.region ?_
  refine TL.op1 (OpR.boxImm rfl rfl) rfl ?_
  refine TL.op1 (OpR.pure rfl) rfl ?_
  refine TL.nil ?_
  show T X _ _ _
  refine T.seq ?_
  refine T.region ?_
  refine TL.op1 (OpR.pure rfl) rfl ?_
  refine TL.op1 (OpR.pure rfl) rfl ?_
  obtain ⟨x1, hx1, h0⟩ := bnd_some h0
  refine TL.op1 (OpR.call0 fn50 (law05_cut_c hx1) rfl) rfl ?_
  refine TL.op1 (OpR.pure rfl) rfl ?_
  refine TL.nil ?_
  show T X _ _ _
  refine T.seq ?_
  refine T.region ?_
  refine TL.op1 (OpR.build rfl rfl rfl rfl rfl) rfl ?_
  refine TL.op (OpR.alloc rfl rfl (fun _ => rfl)) rfl (fun p2 => ?_)
  refine TL.op0 (OpR.store 0 rfl rfl rfl rfl rfl rfl rfl rfl) ?_
  refine TL.nil ?_
  show T X _ _ _
  refine T.seq ?_
  refine T.region ?_
  refine TL.op1 (OpR.pure rfl) rfl ?_
  refine TL.nil ?_
  show T X _ _ _
  refine T.seq ?_
  refine T.seq ?_
  refine T.region ?_
  refine TL.op1 (OpR.pure rfl) rfl ?_
  refine TL.op1 (OpR.pure rfl) rfl ?_
  refine TL.op1 (OpR.cast (OpR.pure rfl) (intE (lenM _ _))) rfl ?_
  refine TL.op1 (OpR.pure rfl) rfl ?_
  refine TL.nil ?_
  show T X _ _ _
  obtain ⟨t3, ht3, h0⟩ := bnd_some h0
  refine T.cutC (fun S' => ∃ y4 : Value, S' = ⟨[(9, .val (.string (bs t3.1))), (8, .val (.pointer (some ⟨(blk p2), 0, none⟩))), (7, .val (.string (bs x1))), (6, .val (.bool false)), (1, .val (.int .i64 a1)), (0, .val (.int .i64 a0))], [.var (blk p2) [.val (.int .i64 0), .val (.int .i64 0), .val (.int .i64 0), .val y4] 77, .row y4 (List.map e_arena_Span t3.2) 2 75], 97⟩) (fun _ h => h) ?_ ?_
  · refine T.block ?_
    obtain ⟨n7, n12⟩ := loop_some ht3
    refine T.loop (fun n S' => ∃ S'', Gst S' S'' ∧ ∃ y5 : Value, ∃ s6 : (List UInt8) × Int × (List arena_Span), S'' = ⟨[(19, .val (.int .i64 s6.2.1)), (18, .val (.int .i64 (a2.fParts.length : Int))), (17, .sl 2 (List.map e_arena_Span a2.fParts)), (9, .val (.string (bs s6.1))), (8, .val (.pointer (some ⟨(blk p2), 0, none⟩))), (7, .val (.string (bs x1))), (6, .val (.bool false)), (1, .val (.int .i64 a1)), (0, .val (.int .i64 a0))], [.var (blk p2) [.val (.int .i64 0), .val (.int .i64 0), .val (.int .i64 0), .val y5] 77, .row y5 (List.map e_arena_Span s6.2.2) 2 75], 97⟩ ∧ iter (law05_ScanMarks.l1 a2 x1) n s6 = some t3) n7 ?_ ?_
    · exact ⟨_, Gst.trans (Gst.only [0, 1, 6, 7, 8, 9, 17, 18, 19] rfl) (Gst.nilRow (ow := [.var (blk p2) [.val (.int .i64 0), .val (.int .i64 0), .val (.int .i64 0), .val (.slice none 0 0)] 77]) 2 75 rfl), (.slice none 0 0), ([], 0, []), rfl, n12⟩
    rintro n7 _ ⟨_, g, y5, s6, rfl, i11⟩
    refine T.ghost g ?_
    obtain ⟨m8, q9, rfl, q10, i11⟩ := iter_succ i11
    unfold law05_ScanMarks.l1 at q10
    refine T.seq ?_
    refine T.region ?_
    refine TL.op1 (OpR.pure rfl) rfl ?_
    refine TL.nil ?_
    show T X _ _ _
    refine T.seq ?_
    rcases ite_some q10 with ⟨c14, q10⟩ | ⟨c14, q10⟩
    · refine T.condT rfl (decide_eq_true c14) ?_
      refine T.skip ?_
      show T X _ _ _
      refine T.seq ?_
      refine T.block ?_
      refine T.seq ?_
      refine T.region ?_
      refine TL.op1 (OpR.pure rfl) rfl ?_
      obtain ⟨x15, hx15, q10⟩ := bnd_some q10
      refine TL.op1 (OpR.indexM e_arena_Span hx15 rfl rfl rfl rfl rfl) rfl ?_
      refine TL.op1 (OpR.pure rfl) rfl ?_
      refine TL.op (OpR.alloc rfl rfl (fun _ => rfl)) rfl (fun p16 => ?_)
      refine TL.op1 (OpR.pure rfl) rfl ?_
      refine TL.op0 (OpR.store 2 rfl rfl rfl rfl rfl rfl rfl rfl) ?_
      refine TL.nil ?_
      show T X _ _ _
      refine T.seq ?_
      refine T.seq ?_
      refine T.region ?_
      refine TL.op1 (OpR.pure rfl) rfl ?_
      refine TL.op1 (OpR.pure rfl) rfl ?_
      refine TL.nil ?_
      show T X _ _ _
      rcases ite_some q10 with ⟨c17, q10⟩ | ⟨c17, q10⟩
      · refine T.condT rfl (decide_eq_true c17) ?_
        refine T.exit ?_
        obtain rfl := Option.some.inj q10
        obtain rfl : _ = _ := i11
        exact ⟨_, Gst.trans (Gst.only [0, 1, 6, 7, 8, 9] rfl) (Gst.pick [0, 1] rfl rfl), y5, rfl⟩
      · refine T.condF rfl (decide_eq_false c17) ?_
        refine T.skip ?_
        show T X _ _ _
        refine T.seq ?_
        refine T.region ?_
        refine TL.op1 (OpR.pure rfl) rfl ?_
        refine TL.op1 (OpR.loadPtr 0 rfl rfl rfl rfl) rfl ?_
        refine TL.op1 (OpR.loadPtr 2 rfl rfl rfl rfl) rfl ?_
        refine TL.op1 (OpR.lit rfl rfl rfl rfl rfl rfl rfl) rfl ?_
        obtain ⟨x18, hx18, q10⟩ := bnd_some q10
        refine TL.op (OpR.appendM (m := [x15]) e_arena_Span 1 hx18 rfl rfl rfl rfl rfl rfl rfl rfl rfl (fun _ => rfl)) rfl (fun v19 => ?_)
        refine TL.op1 (OpR.pure rfl) rfl ?_
        refine TL.op0 (OpR.store 0 rfl rfl rfl rfl rfl rfl rfl rfl) ?_
        refine TL.nil ?_
        show T X _ _ _
        refine T.seq ?_
        obtain ⟨t20, ht20, q10⟩ := bnd_some q10
        refine T.cutC (fun S' => S' = ⟨[(56, .val (.bool t20)), (19, .val (.int .i64 s6.2.1)), (18, .val (.int .i64 (a2.fParts.length : Int))), (17, .sl 2 (List.map e_arena_Span a2.fParts)), (11, .val (.pointer (some ⟨(blk p16), 0, none⟩))), (9, .val (.string (bs s6.1))), (8, .val (.pointer (some ⟨(blk p2), 0, none⟩))), (7, .val (.string (bs x1))), (6, .val (.bool false)), (1, .val (.int .i64 a1)), (0, .val (.int .i64 a0))], [.var (blk p2) [.val (.int .i64 0), .val (.int .i64 0), .val (.int .i64 0), .val v19] 77, .var (blk p16) [.val (.int .i64 x15.fAt), .val (.int .i64 x15.fN)] 75, .row v19 (List.map e_arena_Span x18) 2 75], 97⟩) (fun _ h => h) ?_ ?_
        · refine T.region ?_
          refine TL.op1 (OpR.pure rfl) rfl ?_
          refine TL.op1 (OpR.loadPtr 2 rfl rfl rfl rfl) rfl ?_
          refine TL.op1 (OpR.pure rfl) rfl ?_
          refine TL.op1 (OpR.pure rfl) rfl ?_
          rcases ite_some ht20 with ⟨c21, ht20⟩ | ⟨c21, ht20⟩
          · refine TL.on rfl rfl rfl rfl (decide_eq_true c21) ?_
            refine TL.op1 (OpR.pure rfl) rfl ?_
            refine TL.on rfl rfl rfl rfl (decide_eq_true c21) ?_
            refine TL.op1 (OpR.loadPtr 2 rfl rfl rfl rfl) rfl ?_
            refine TL.on rfl rfl rfl rfl (decide_eq_true c21) ?_
            refine TL.op1 (OpR.pure rfl) rfl ?_
            refine TL.op1 (OpR.pickT rfl (decide_eq_true c21) rfl) rfl ?_
            refine TL.op1 (OpR.pure rfl) rfl ?_
            rcases ite_some ht20 with ⟨c22, ht20⟩ | ⟨c22, ht20⟩
            · refine TL.on rfl rfl rfl rfl (decide_eq_true c22) ?_
              refine TL.op1 (OpR.pure rfl) rfl ?_
              refine TL.on rfl rfl rfl rfl (decide_eq_true c22) ?_
              refine TL.op1 (OpR.loadPtr 2 rfl rfl rfl rfl) rfl ?_
              refine TL.on rfl rfl rfl rfl (decide_eq_true c22) ?_
              refine TL.op1 (OpR.pure rfl) rfl ?_
              refine TL.on rfl rfl rfl rfl (decide_eq_true c22) ?_
              refine TL.op1 (OpR.cast (OpR.pure rfl) (intE (lenS _))) rfl ?_
              refine TL.on rfl rfl rfl rfl (decide_eq_true c22) ?_
              refine TL.op1 (OpR.pure rfl) rfl ?_
              refine TL.op1 (OpR.pickT rfl (decide_eq_true c22) rfl) rfl ?_
              refine TL.op1 (OpR.pure rfl) rfl ?_
              rcases ite_some ht20 with ⟨c23, ht20⟩ | ⟨c23, ht20⟩
              · refine TL.on rfl rfl rfl rfl (decide_eq_true c23) ?_
                refine TL.op1 (OpR.pure rfl) rfl ?_
                refine TL.on rfl rfl rfl rfl (decide_eq_true c23) ?_
                refine TL.op1 (OpR.loadPtr 2 rfl rfl rfl rfl) rfl ?_
                refine TL.on rfl rfl rfl rfl (decide_eq_true c23) ?_
                refine TL.op1 (OpR.pure rfl) rfl ?_
                refine TL.on rfl rfl rfl rfl (decide_eq_true c23) ?_
                refine TL.op1 (OpR.cast (OpR.pure rfl) (intE (lenS _))) rfl ?_
                refine TL.on rfl rfl rfl rfl (decide_eq_true c23) ?_
                refine TL.op1 (OpR.pure rfl) rfl ?_
                refine TL.on rfl rfl rfl rfl (decide_eq_true c23) ?_
                refine TL.op1 (OpR.loadPtr 2 rfl rfl rfl rfl) rfl ?_
                refine TL.on rfl rfl rfl rfl (decide_eq_true c23) ?_
                refine TL.op1 (OpR.pure rfl) rfl ?_
                refine TL.on rfl rfl rfl rfl (decide_eq_true c23) ?_
                refine TL.op1 (OpR.pure rfl) rfl ?_
                refine TL.op1 (OpR.pickT rfl (decide_eq_true c23) rfl) rfl ?_
                refine TL.nil ?_
                obtain rfl := Option.some.inj ht20
                exact ⟨_, Gst.trans (Gst.only [0, 1, 6, 7, 8, 9, 11, 17, 18, 19, 56] rfl) (Gst.pick [0, 2, 1] rfl rfl), rfl⟩
              · refine TL.off rfl rfl rfl rfl (decide_eq_false c23) rfl rfl ?_
                refine TL.off rfl rfl rfl rfl (decide_eq_false c23) rfl rfl ?_
                refine TL.off rfl rfl rfl rfl (decide_eq_false c23) rfl rfl ?_
                refine TL.off rfl rfl rfl rfl (decide_eq_false c23) rfl rfl ?_
                refine TL.off rfl rfl rfl rfl (decide_eq_false c23) rfl rfl ?_
                refine TL.off rfl rfl rfl rfl (decide_eq_false c23) rfl rfl ?_
                refine TL.off rfl rfl rfl rfl (decide_eq_false c23) rfl rfl ?_
                refine TL.off rfl rfl rfl rfl (decide_eq_false c23) rfl rfl ?_
                refine TL.op1 (OpR.pickF rfl (decide_eq_false c23) rfl) rfl ?_
                refine TL.nil ?_
                obtain rfl := Option.some.inj ht20
                exact ⟨_, Gst.trans (Gst.only [0, 1, 6, 7, 8, 9, 11, 17, 18, 19, 56] rfl) (Gst.pick [0, 2, 1] rfl rfl), rfl⟩
            · refine TL.off rfl rfl rfl rfl (decide_eq_false c22) rfl rfl ?_
              refine TL.off rfl rfl rfl rfl (decide_eq_false c22) rfl rfl ?_
              refine TL.off rfl rfl rfl rfl (decide_eq_false c22) rfl rfl ?_
              refine TL.off rfl rfl rfl rfl (decide_eq_false c22) rfl rfl ?_
              refine TL.off rfl rfl rfl rfl (decide_eq_false c22) rfl rfl ?_
              refine TL.op1 (OpR.pickF rfl (decide_eq_false c22) rfl) rfl ?_
              refine TL.op1 (OpR.pure rfl) rfl ?_
              refine TL.off rfl rfl rfl rfl rfl rfl rfl ?_
              refine TL.off rfl rfl rfl rfl rfl rfl rfl ?_
              refine TL.off rfl rfl rfl rfl rfl rfl rfl ?_
              refine TL.off rfl rfl rfl rfl rfl rfl rfl ?_
              refine TL.off rfl rfl rfl rfl rfl rfl rfl ?_
              refine TL.off rfl rfl rfl rfl rfl rfl rfl ?_
              refine TL.off rfl rfl rfl rfl rfl rfl rfl ?_
              refine TL.off rfl rfl rfl rfl rfl rfl rfl ?_
              refine TL.op1 (OpR.pickF rfl rfl rfl) rfl ?_
              refine TL.nil ?_
              obtain rfl := Option.some.inj ht20
              exact ⟨_, Gst.trans (Gst.only [0, 1, 6, 7, 8, 9, 11, 17, 18, 19, 56] rfl) (Gst.pick [0, 2, 1] rfl rfl), rfl⟩
          · refine TL.off rfl rfl rfl rfl (decide_eq_false c21) rfl rfl ?_
            refine TL.off rfl rfl rfl rfl (decide_eq_false c21) rfl rfl ?_
            refine TL.off rfl rfl rfl rfl (decide_eq_false c21) rfl rfl ?_
            refine TL.op1 (OpR.pickF rfl (decide_eq_false c21) rfl) rfl ?_
            refine TL.op1 (OpR.pure rfl) rfl ?_
            refine TL.off rfl rfl rfl rfl rfl rfl rfl ?_
            refine TL.off rfl rfl rfl rfl rfl rfl rfl ?_
            refine TL.off rfl rfl rfl rfl rfl rfl rfl ?_
            refine TL.off rfl rfl rfl rfl rfl rfl rfl ?_
            refine TL.off rfl rfl rfl rfl rfl rfl rfl ?_
            refine TL.op1 (OpR.pickF rfl rfl rfl) rfl ?_
            refine TL.op1 (OpR.pure rfl) rfl ?_
            refine TL.off rfl rfl rfl rfl rfl rfl rfl ?_
            refine TL.off rfl rfl rfl rfl rfl rfl rfl ?_
            refine TL.off rfl rfl rfl rfl rfl rfl rfl ?_
            refine TL.off rfl rfl rfl rfl rfl rfl rfl ?_
            refine TL.off rfl rfl rfl rfl rfl rfl rfl ?_
            refine TL.off rfl rfl rfl rfl rfl rfl rfl ?_
            refine TL.off rfl rfl rfl rfl rfl rfl rfl ?_
            refine TL.off rfl rfl rfl rfl rfl rfl rfl ?_
            refine TL.op1 (OpR.pickF rfl rfl rfl) rfl ?_
            refine TL.nil ?_
            obtain rfl := Option.some.inj ht20
            exact ⟨_, Gst.trans (Gst.only [0, 1, 6, 7, 8, 9, 11, 17, 18, 19, 56] rfl) (Gst.pick [0, 2, 1] rfl rfl), rfl⟩
        · rintro _ rfl
          show T X _ _ _
          obtain ⟨t24, ht24, q10⟩ := bnd_some q10
          refine T.cutC (fun S' => S' = ⟨[(19, .val (.int .i64 s6.2.1)), (18, .val (.int .i64 (a2.fParts.length : Int))), (17, .sl 2 (List.map e_arena_Span a2.fParts)), (9, .val (.string (bs t24))), (8, .val (.pointer (some ⟨(blk p2), 0, none⟩))), (7, .val (.string (bs x1))), (6, .val (.bool false)), (1, .val (.int .i64 a1)), (0, .val (.int .i64 a0))], [.var (blk p2) [.val (.int .i64 0), .val (.int .i64 0), .val (.int .i64 0), .val v19] 77, .row v19 (List.map e_arena_Span x18) 2 75], 97⟩) (fun _ h => h) ?_ ?_
          · rcases ite_some ht24 with ⟨c25, ht24⟩ | ⟨c25, ht24⟩
            · refine T.condT rfl (c25) ?_
              refine T.region ?_
              refine TL.op1 (OpR.pure rfl) rfl ?_
              refine TL.op1 (OpR.pure rfl) rfl ?_
              refine TL.op1 (OpR.pure rfl) rfl ?_
              refine TL.op1 (OpR.loadPtr 1 rfl rfl rfl rfl) rfl ?_
              refine TL.op1 (OpR.pure rfl) rfl ?_
              refine TL.op1 (OpR.loadPtr 1 rfl rfl rfl rfl) rfl ?_
              refine TL.op1 (OpR.pure rfl) rfl ?_
              refine TL.op1 (OpR.loadPtr 1 rfl rfl rfl rfl) rfl ?_
              refine TL.op1 (OpR.pure rfl) rfl ?_
              obtain ⟨x26, hx26, ht24⟩ := bnd_some ht24
              refine TL.op1 (OpR.sliceS hx26 rfl rfl rfl (BdM.some rfl) (BdM.some rfl)) rfl ?_
              obtain ⟨x27, hx27, ht24⟩ := bnd_some ht24
              refine TL.op1 (OpR.concatM hx27 rfl rfl) rfl ?_
              refine TL.op1 (OpR.pure rfl) rfl ?_
              refine TL.nil ?_
              obtain rfl := Option.some.inj ht24
              exact ⟨_, Gst.trans (Gst.only [0, 1, 6, 7, 8, 9, 17, 18, 19] rfl) (Gst.pick [0, 2] rfl rfl), rfl⟩
            · refine T.condF rfl (eq_false_of_ne_true c25) ?_
              refine T.skip ?_
              obtain rfl := Option.some.inj ht24
              exact ⟨_, Gst.trans (Gst.only [0, 1, 6, 7, 8, 9, 17, 18, 19] rfl) (Gst.pick [0, 2] rfl rfl), rfl⟩
          · rintro _ rfl
            show T X _ _ _
            refine T.region ?_
            refine TL.op1 (OpR.pure rfl) rfl ?_
            refine TL.op1 (OpR.pure rfl) rfl ?_
            refine TL.nil ?_
            obtain rfl := Option.some.inj q10
            exact ⟨m8, Nat.lt_succ_self _, _, Gst.only [0, 1, 6, 7, 8, 9, 17, 18, 19] rfl, v19, (t24, w64 (s6.2.1 + 1), x18), rfl, i11⟩
    · refine T.condF rfl (decide_eq_false c14) ?_
      refine T.exit ?_
      obtain rfl := Option.some.inj q10
      obtain rfl : _ = _ := i11
      exact ⟨_, Gst.only [0, 1, 6, 7, 8, 9] rfl, y5, rfl⟩
  · rintro _ ⟨y4, rfl⟩
    show T X _ _ _
    refine T.seq ?_
    obtain ⟨t28, ht28, h0⟩ := bnd_some h0
    refine T.cutC (fun S' => S' = ⟨[(6, .val (.bool t28))], [], 97⟩) (fun _ h => h) ?_ ?_
    · refine T.region ?_
      refine TL.op1 (OpR.pure rfl) rfl ?_
      obtain ⟨x29, hx29, ht28⟩ := bnd_some ht28
      refine TL.op1 (OpR.call0 fn57 (scan_Mark_c hx29) rfl) rfl ?_
      refine TL.op1 (OpR.pure rfl) rfl ?_
      obtain ⟨x30, hx30, ht28⟩ := bnd_some ht28
      refine TL.op1 (OpR.call0 fn58 (ref05_Mark_c hx30) rfl) rfl ?_
      refine TL.op1 (OpR.cast (OpR.pure rfl) (boolE (strEq _ _))) rfl ?_
      refine TL.op1 (OpR.pure rfl) rfl ?_
      rcases ite_some ht28 with ⟨c31, ht28⟩ | ⟨c31, ht28⟩
      · refine TL.on rfl rfl rfl rfl (beq_iff_eq.2 c31) ?_
        refine TL.op1 (OpR.pure rfl) rfl ?_
        refine TL.on rfl rfl rfl rfl (beq_iff_eq.2 c31) ?_
        obtain ⟨x32, hx32, ht28⟩ := bnd_some ht28
        refine TL.op1 (OpR.call0 fn59 (scan_Fine_c hx32) rfl) rfl ?_
        refine TL.on rfl rfl rfl rfl (beq_iff_eq.2 c31) ?_
        refine TL.op1 (OpR.pure rfl) rfl ?_
        refine TL.on rfl rfl rfl rfl (beq_iff_eq.2 c31) ?_
        refine TL.op1 (OpR.pure rfl) rfl ?_
        refine TL.on rfl rfl rfl rfl (beq_iff_eq.2 c31) ?_
        refine TL.op1 (OpR.pure rfl) rfl ?_
        rcases ite_some ht28 with ⟨c33, ht28⟩ | ⟨c33, ht28⟩
        · refine TL.off rfl rfl rfl rfl (beq_iff_eq.2 c33) rfl rfl ?_
          refine TL.off rfl rfl rfl rfl (beq_iff_eq.2 c33) rfl rfl ?_
          refine TL.on rfl rfl rfl rfl (beq_iff_eq.2 c31) ?_
          refine TL.op1 (OpR.pickT rfl (beq_iff_eq.2 c33) rfl) rfl ?_
          refine TL.on rfl rfl rfl rfl (beq_iff_eq.2 c31) ?_
          refine TL.op1 (OpR.eqBool rfl rfl rfl rfl) rfl ?_
          refine TL.op1 (OpR.pickT rfl (beq_iff_eq.2 c31) rfl) rfl ?_
          refine TL.op1 (OpR.pure rfl) rfl ?_
          rcases ite_some ht28 with ⟨c34, ht28⟩ | ⟨c34, ht28⟩
          · refine TL.on rfl rfl rfl rfl (c34) ?_
            refine TL.op1 (OpR.pure rfl) rfl ?_
            refine TL.on rfl rfl rfl rfl (c34) ?_
            refine TL.op1 (OpR.toBytesM rfl rfl rfl rfl rfl rfl rfl) rfl ?_
            refine TL.on rfl rfl rfl rfl (c34) ?_
            refine TL.op1 (OpR.loadPtr 0 rfl rfl rfl rfl) rfl ?_
            refine TL.on rfl rfl rfl rfl (c34) ?_
            obtain ⟨x35, hx35, ht28⟩ := bnd_some ht28
            refine TL.op1 (OpR.call [1] fn54 (scan_Value_2_c hx35) rfl rfl rfl (fun _ => rfl)) rfl ?_
            refine TL.on rfl rfl rfl rfl (c34) ?_
            refine TL.op1 (OpR.toStr (bs := x35) rfl rfl rfl rfl rfl rfl rfl) rfl ?_
            refine TL.on rfl rfl rfl rfl (c34) ?_
            refine TL.op1 (OpR.pure rfl) rfl ?_
            refine TL.on rfl rfl rfl rfl (c34) ?_
            refine TL.op1 (OpR.cast (OpR.pure rfl) (boolE (strEq _ _))) rfl ?_
            refine TL.op1 (OpR.pickT rfl (c34) rfl) rfl ?_
            refine TL.op1 (OpR.pure rfl) rfl ?_
            rcases ite_some ht28 with ⟨c36, ht28⟩ | ⟨c36, ht28⟩
            · refine TL.on rfl rfl rfl rfl (beq_iff_eq.2 c36) ?_
              obtain ⟨x37, hx37, ht28⟩ := bnd_some ht28
              refine TL.op1 (OpR.call0 fn56 (law05_awake_c hx37) rfl) rfl ?_
              refine TL.op1 (OpR.pickT rfl (beq_iff_eq.2 c36) rfl) rfl ?_
              refine TL.op1 (OpR.pure rfl) rfl ?_
              refine TL.nil ?_
              obtain rfl := Option.some.inj ht28
              exact ⟨_, Gst.trans (Gst.only [6] rfl) (Gst.pick [] rfl rfl), rfl⟩
            · refine TL.off rfl rfl rfl rfl (beq_eq_false_iff_ne.2 c36) rfl rfl ?_
              refine TL.op1 (OpR.pickF rfl (beq_eq_false_iff_ne.2 c36) rfl) rfl ?_
              refine TL.op1 (OpR.pure rfl) rfl ?_
              refine TL.nil ?_
              obtain rfl := Option.some.inj ht28
              exact ⟨_, Gst.trans (Gst.only [6] rfl) (Gst.pick [] rfl rfl), rfl⟩
          · refine TL.off rfl rfl rfl rfl (eq_false_of_ne_true c34) rfl rfl ?_
            refine TL.off rfl rfl rfl rfl (eq_false_of_ne_true c34) rfl rfl ?_
            refine TL.off rfl rfl rfl rfl (eq_false_of_ne_true c34) rfl rfl ?_
            refine TL.off rfl rfl rfl rfl (eq_false_of_ne_true c34) rfl rfl ?_
            refine TL.off rfl rfl rfl rfl (eq_false_of_ne_true c34) rfl rfl ?_
            refine TL.off rfl rfl rfl rfl (eq_false_of_ne_true c34) rfl rfl ?_
            refine TL.off rfl rfl rfl rfl (eq_false_of_ne_true c34) rfl rfl ?_
            refine TL.op1 (OpR.pickF rfl (eq_false_of_ne_true c34) rfl) rfl ?_
            refine TL.op1 (OpR.pure rfl) rfl ?_
            refine TL.off rfl rfl rfl rfl rfl rfl rfl ?_
            refine TL.op1 (OpR.pickF rfl rfl rfl) rfl ?_
            refine TL.op1 (OpR.pure rfl) rfl ?_
            refine TL.nil ?_
            obtain rfl := Option.some.inj ht28
            exact ⟨_, Gst.trans (Gst.only [6] rfl) (Gst.pick [] rfl rfl), rfl⟩
        · refine TL.on rfl rfl rfl rfl (beq_eq_false_iff_ne.2 c33) ?_
          refine TL.op1 (OpR.pure rfl) rfl ?_
          refine TL.on rfl rfl rfl rfl (beq_eq_false_iff_ne.2 c33) ?_
          refine TL.op1 (OpR.pure rfl) rfl ?_
          refine TL.on rfl rfl rfl rfl (beq_iff_eq.2 c31) ?_
          refine TL.op1 (OpR.pickF rfl (beq_eq_false_iff_ne.2 c33) rfl) rfl ?_
          refine TL.on rfl rfl rfl rfl (beq_iff_eq.2 c31) ?_
          refine TL.op1 (OpR.eqBool rfl rfl rfl rfl) rfl ?_
          refine TL.op1 (OpR.pickT rfl (beq_iff_eq.2 c31) rfl) rfl ?_
          refine TL.op1 (OpR.pure rfl) rfl ?_
          rcases ite_some ht28 with ⟨c38, ht28⟩ | ⟨c38, ht28⟩
          · refine TL.on rfl rfl rfl rfl (c38) ?_
            refine TL.op1 (OpR.pure rfl) rfl ?_
            refine TL.on rfl rfl rfl rfl (c38) ?_
            refine TL.op1 (OpR.toBytesM rfl rfl rfl rfl rfl rfl rfl) rfl ?_
            refine TL.on rfl rfl rfl rfl (c38) ?_
            refine TL.op1 (OpR.loadPtr 0 rfl rfl rfl rfl) rfl ?_
            refine TL.on rfl rfl rfl rfl (c38) ?_
            obtain ⟨x39, hx39, ht28⟩ := bnd_some ht28
            refine TL.op1 (OpR.call [1] fn54 (scan_Value_2_c hx39) rfl rfl rfl (fun _ => rfl)) rfl ?_
            refine TL.on rfl rfl rfl rfl (c38) ?_
            refine TL.op1 (OpR.toStr (bs := x39) rfl rfl rfl rfl rfl rfl rfl) rfl ?_
            refine TL.on rfl rfl rfl rfl (c38) ?_
            refine TL.op1 (OpR.pure rfl) rfl ?_
            refine TL.on rfl rfl rfl rfl (c38) ?_
            refine TL.op1 (OpR.cast (OpR.pure rfl) (boolE (strEq _ _))) rfl ?_
            refine TL.op1 (OpR.pickT rfl (c38) rfl) rfl ?_
            refine TL.op1 (OpR.pure rfl) rfl ?_
            rcases ite_some ht28 with ⟨c40, ht28⟩ | ⟨c40, ht28⟩
            · refine TL.on rfl rfl rfl rfl (beq_iff_eq.2 c40) ?_
              obtain ⟨x41, hx41, ht28⟩ := bnd_some ht28
              refine TL.op1 (OpR.call0 fn56 (law05_awake_c hx41) rfl) rfl ?_
              refine TL.op1 (OpR.pickT rfl (beq_iff_eq.2 c40) rfl) rfl ?_
              refine TL.op1 (OpR.pure rfl) rfl ?_
              refine TL.nil ?_
              obtain rfl := Option.some.inj ht28
              exact ⟨_, Gst.trans (Gst.only [6] rfl) (Gst.pick [] rfl rfl), rfl⟩
            · refine TL.off rfl rfl rfl rfl (beq_eq_false_iff_ne.2 c40) rfl rfl ?_
              refine TL.op1 (OpR.pickF rfl (beq_eq_false_iff_ne.2 c40) rfl) rfl ?_
              refine TL.op1 (OpR.pure rfl) rfl ?_
              refine TL.nil ?_
              obtain rfl := Option.some.inj ht28
              exact ⟨_, Gst.trans (Gst.only [6] rfl) (Gst.pick [] rfl rfl), rfl⟩
          · refine TL.off rfl rfl rfl rfl (eq_false_of_ne_true c38) rfl rfl ?_
            refine TL.off rfl rfl rfl rfl (eq_false_of_ne_true c38) rfl rfl ?_
            refine TL.off rfl rfl rfl rfl (eq_false_of_ne_true c38) rfl rfl ?_
            refine TL.off rfl rfl rfl rfl (eq_false_of_ne_true c38) rfl rfl ?_
            refine TL.off rfl rfl rfl rfl (eq_false_of_ne_true c38) rfl rfl ?_
            refine TL.off rfl rfl rfl rfl (eq_false_of_ne_true c38) rfl rfl ?_
            refine TL.off rfl rfl rfl rfl (eq_false_of_ne_true c38) rfl rfl ?_
            refine TL.op1 (OpR.pickF rfl (eq_false_of_ne_true c38) rfl) rfl ?_
            refine TL.op1 (OpR.pure rfl) rfl ?_
            refine TL.off rfl rfl rfl rfl rfl rfl rfl ?_
            refine TL.op1 (OpR.pickF rfl rfl rfl) rfl ?_
            refine TL.op1 (OpR.pure rfl) rfl ?_
            refine TL.nil ?_
            obtain rfl := Option.some.inj ht28
            exact ⟨_, Gst.trans (Gst.only [6] rfl) (Gst.pick [] rfl rfl), rfl⟩
      · refine TL.off rfl rfl rfl rfl (beq_eq_false_iff_ne.2 c31) rfl rfl ?_
        refine TL.off rfl rfl rfl rfl (beq_eq_false_iff_ne.2 c31) rfl rfl ?_
        refine TL.off rfl rfl rfl rfl (beq_eq_false_iff_ne.2 c31) rfl rfl ?_
        refine TL.off rfl rfl rfl rfl (beq_eq_false_iff_ne.2 c31) rfl rfl ?_
        refine TL.off rfl rfl rfl rfl (beq_eq_false_iff_ne.2 c31) rfl rfl ?_
        refine TL.offU rfl rfl rfl rfl rfl rfl ?_
        refine TL.offU rfl rfl rfl rfl rfl rfl ?_
        refine TL.off rfl rfl rfl rfl (beq_eq_false_iff_ne.2 c31) rfl rfl ?_
        refine TL.off rfl rfl rfl rfl (beq_eq_false_iff_ne.2 c31) rfl rfl ?_
        refine TL.op1 (OpR.pickF rfl (beq_eq_false_iff_ne.2 c31) rfl) rfl ?_
        refine TL.op1 (OpR.pure rfl) rfl ?_
        refine TL.off rfl rfl rfl rfl rfl rfl rfl ?_
        refine TL.off rfl rfl rfl rfl rfl rfl rfl ?_
        refine TL.off rfl rfl rfl rfl rfl rfl rfl ?_
        refine TL.off rfl rfl rfl rfl rfl rfl rfl ?_
        refine TL.off rfl rfl rfl rfl rfl rfl rfl ?_
        refine TL.off rfl rfl rfl rfl rfl rfl rfl ?_
        refine TL.off rfl rfl rfl rfl rfl rfl rfl ?_
        refine TL.op1 (OpR.pickF rfl rfl rfl) rfl ?_
        refine TL.op1 (OpR.pure rfl) rfl ?_
        refine TL.off rfl rfl rfl rfl rfl rfl rfl ?_
        refine TL.op1 (OpR.pickF rfl rfl rfl) rfl ?_
        refine TL.op1 (OpR.pure rfl) rfl ?_
        refine TL.nil ?_
        obtain rfl := Option.some.inj ht28
        exact ⟨_, Gst.trans (Gst.only [6] rfl) (Gst.pick [] rfl rfl), rfl⟩
    · rintro _ rfl
      show T X _ _ _
      refine T.ret ?_
      obtain rfl := Option.some.inj h0
      exact PostG.retP (ks := []) (Gst.only [6] rfl) undef (ResL.cons (ResV.tmp rfl) ResL.nil) rfl rfl rfl rfl
end Go.Proofs.Ytbogkjbjgcclnaa.S
