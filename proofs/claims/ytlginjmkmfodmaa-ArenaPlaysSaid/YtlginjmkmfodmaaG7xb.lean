/- Printed by a program of this session's own (gen.py): Lean functions for Go functions, and the proofs that the Go code comes to their answers. -/
import Derived.Test.YtlginjmkmfodmaaG7xa
import Derived.Test.YtlginjmkmfodmaaG4xa
import Derived.Test.YtlginjmkmfodmaaG5xa
import Derived.Test.YtlginjmkmfodmaaG8xa
import Derived.Test.YtlginjmkmfodmaaG9xa
set_option linter.unusedVariables false
set_option linter.unusedSimpArgs false
namespace Go.Proofs.Ytlginjmkmfodmaa.S
open Go Go.Sm
attribute [local irreducible] T TL OpR CallT iter loop
noncomputable def law03_ArenaPlays.l1 (a1 : List law03_Put) (s15 : Int × (List UInt8)) : Option (Lp (Int × (List UInt8)) (Ex (List UInt8) Bool)) :=
  if s15.1 < (a1.length : Int) then
    bnd (idx a1 s15.1) fun x24 =>
    if s15.1 ≥ 30 then
      some (Lp.done (Ex.brk s15.2))
    else
      bnd (bnd (law03_cut x24.fText 600) fun x29 =>
      bnd (law03_put x29 x24.fKeep s15.2) fun x30 =>
      if x30.1 = true then
        bnd (arena_Arena_Len_2) fun x32 =>
        if x32 = (x30.2.length : Int) then
          bnd (arena_Arena_Room_2) fun x34 =>
          some ((!(x34 == (w64 (16384 - (x30.2.length : Int))))), x30.2)
        else
          some (true, x30.2)
      else
        some (true, x30.2) : Option (Bool × (List UInt8))) fun t27 =>
      if t27.1 = true then
        some (Lp.done (Ex.ret false))
      else
        some (Lp.next (w64 (s15.1 + 1), t27.2))
  else
    some (Lp.done (Ex.brk s15.2))
noncomputable def law03_ArenaPlays.l2 (a1 : List law03_Put) (s67 : Int × (List UInt8) × (List UInt8)) : Option (Lp (Int × (List UInt8) × (List UInt8)) (Ex ((List UInt8) × (List UInt8)) Bool)) :=
  if s67.1 < (a1.length : Int) then
    bnd (idx a1 s67.1) fun x76 =>
    if s67.1 ≥ 30 then
      some (Lp.done (Ex.brk (s67.2.1, s67.2.2)))
    else
      bnd (bnd (law03_cut x76.fText 600) fun x82 =>
      bnd (law03_put_2 x82 x76.fKeep s67.2.1 s67.2.2) fun x83 =>
      if x83.1 = true then
        bnd (arena_Arena_Len x83.2.2) fun x85 =>
        if x85 = (x83.2.1.length : Int) then
          bnd (arena_Arena_Room x83.2.2) fun x87 =>
          some ((!(x87 == (w64 (16384 - (x83.2.1.length : Int))))), x83.2.1, x83.2.2)
        else
          some (true, x83.2.1, x83.2.2)
      else
        some (true, x83.2.1, x83.2.2) : Option (Bool × (List UInt8) × (List UInt8))) fun t79 =>
      if t79.1 = true then
        some (Lp.done (Ex.ret false))
      else
        some (Lp.next (w64 (s67.1 + 1), t79.2.1, t79.2.2))
  else
    some (Lp.done (Ex.brk (s67.2.1, s67.2.2)))
noncomputable def law03_ArenaPlays (a0 : List UInt8) (a1 : List law03_Put) (a2 : arena_Span) : Option Bool :=
  bnd (law03_cut a0 5000) fun x1 =>
  bnd (arena_New x1) fun x2 =>
  match x2 with
  | .inl x2 =>
      bnd (ref03_New x1) fun x4 =>
      match x4 with
      | .inl x4 =>
          bnd (if x2 = x4 then
            some (!(true == true))
          else
            some true : Option Bool) fun t6 =>
          if t6 = true then
            some false
          else
            bnd (law03_awake) fun x9 =>
            some x9
      | .inr x4 =>
          bnd (if x2 = x4.1 then
            some (!(true == false))
          else
            some true : Option Bool) fun t10 =>
          if t10 = true then
            some false
          else
            bnd (loop (law03_ArenaPlays.l1 a1) (0, x4.2) : Option (Ex (List UInt8) Bool)) fun t13 => match t13 with
              | .brk u14 =>
                bnd (arena_Arena_Byte a2.fAt) fun x36 =>
                bnd (ref03_Arena_Bytes (⟨a2.fAt, 1⟩ : ref03_Span) u14) fun x37 =>
                bnd (bnd (arena_Arena_Right_2 a2) fun x40 =>
                bnd (law03_ours a2) fun x41 =>
                bnd (ref03_Arena_Right x41 u14) fun x42 =>
                if (x40 == x42) = true then
                  bnd (arena_Arena_Bytes_2 a2) fun x44 =>
                  bnd (law03_ours a2) fun x45 =>
                  bnd (ref03_Arena_Bytes x45 u14) fun x46 =>
                  if x44 = x46 then
                    if (x36.2 == ((x37.length : Int) == 1)) = true then
                      if x36.2 = true then
                        if [x36.1] = x37 then
                          bnd (law03_awake) fun x51 =>
                          some x51
                        else
                          some false
                      else
                        if (x36.1.toNat : Int) = 0 then
                          bnd (law03_awake) fun x53 =>
                          some x53
                        else
                          some false
                    else
                      some false
                  else
                    some false
                else
                  some false : Option Bool) fun t38 =>
                some t38
              | .ret u14 => some u14
  | .inr x2 =>
      bnd (ref03_New x1) fun x54 =>
      match x54 with
      | .inl x54 =>
          bnd (if x2.1 = x54 then
            some (!(false == true))
          else
            some true : Option Bool) fun t56 =>
          if t56 = true then
            some false
          else
            bnd (law03_awake) fun x59 =>
            some x59
      | .inr x54 =>
          bnd (if x2.1 = x54.1 then
            some (!(false == false))
          else
            some true : Option Bool) fun t60 =>
          if t60 = true then
            some false
          else
            bnd (loop (law03_ArenaPlays.l2 a1) (0, x54.2, x2.2) : Option (Ex ((List UInt8) × (List UInt8)) Bool)) fun t63 => match t63 with
              | .brk u64 =>
                bnd (arena_Arena_Byte_2 a2.fAt u64.2) fun x89 =>
                bnd (ref03_Arena_Bytes (⟨a2.fAt, 1⟩ : ref03_Span) u64.1) fun x90 =>
                bnd (bnd (arena_Arena_Right a2 u64.2) fun x93 =>
                bnd (law03_ours a2) fun x94 =>
                bnd (ref03_Arena_Right x94 u64.1) fun x95 =>
                if (x93 == x95) = true then
                  bnd (arena_Arena_Bytes a2 u64.2) fun x97 =>
                  bnd (law03_ours a2) fun x98 =>
                  bnd (ref03_Arena_Bytes x98 u64.1) fun x99 =>
                  if x97 = x99 then
                    if (x89.2 == ((x90.length : Int) == 1)) = true then
                      if x89.2 = true then
                        if [x89.1] = x90 then
                          bnd (law03_awake) fun x104 =>
                          some x104
                        else
                          some false
                      else
                        if (x89.1.toNat : Int) = 0 then
                          bnd (law03_awake) fun x106 =>
                          some x106
                        else
                          some false
                    else
                      some false
                  else
                    some false
                else
                  some false : Option Bool) fun t91 =>
                some t91
              | .ret u64 => some u64
set_option maxHeartbeats 4000000 in
theorem law03_ArenaPlays_c {a0 : List UInt8} {a1 : List law03_Put} {a2 : arena_Span} {res : Bool} (h0 : law03_ArenaPlays a0 a1 a2 = some res) : CallF X 6 [.val (.string (bs a0)), .sl 2 (List.map e_law03_Put a1), .agg [.val (.int .i64 a2.fAt), .val (.int .i64 a2.fN)]] [] (fun x => .val (.bool res)) (fun x => []) := by
 unfold law03_ArenaPlays at h0
 refine CallF.mkG (X := X) Try.func6 rfl rfl Try.ntmps6 rfl rfl ?_
 refine T.seq ?_
 refine T.region ?_
 refine TL.op1 (OpR.boxImm rfl rfl) rfl ?_
 refine TL.op1 (OpR.pure rfl) rfl ?_
 refine TL.nil ?_
 show T X _ _ _
 refine T.seq ?_
 refine T.region ?_
 refine TL.op1 (OpR.pure rfl) rfl ?_
 obtain ⟨x1, hx1, h0⟩ := bnd_some h0
 refine TL.op1 (OpR.call0 fn16 (law03_cut_c hx1) rfl) rfl ?_
 refine TL.op1 (OpR.pure rfl) rfl ?_
 refine TL.nil ?_
 show T X _ _ _
 refine T.seq ?_
 refine T.region ?_
 refine TL.op1 (OpR.pure rfl) rfl ?_
 refine TL.op1 (OpR.toBytesM rfl rfl rfl rfl rfl rfl rfl) rfl ?_
 obtain ⟨x2, hx2, h0⟩ := bnd_some h0
 rcases x2 with x2 | x2
 · dsimp only at h0
   refine TL.op1 (OpR.call0 fn15 (arena_New_cx1 hx2) rfl) rfl ?_
   refine TL.op1 (OpR.pure rfl) rfl ?_
   refine TL.op1 (OpR.pure rfl) rfl ?_
   refine TL.op1 (OpR.pure rfl) rfl ?_
   refine TL.op1 (OpR.pure rfl) rfl ?_
   refine TL.op1 (OpR.pure rfl) rfl ?_
   refine TL.nil ?_
   show T X _ _ _
   refine T.seq ?_
   refine T.region ?_
   refine TL.op1 (OpR.pure rfl) rfl ?_
   obtain ⟨x4, hx4, h0⟩ := bnd_some h0
   rcases x4 with x4 | x4
   · dsimp only at h0
     refine TL.op1 (OpR.call0 fn21 (ref03_New_cx1 hx4) rfl) rfl ?_
     refine TL.op1 (OpR.pure rfl) rfl ?_
     refine TL.op1 (OpR.pure rfl) rfl ?_
     refine TL.op1 (OpR.pure rfl) rfl ?_
     refine TL.op1 (OpR.pure rfl) rfl ?_
     refine TL.op1 (OpR.pure rfl) rfl ?_
     refine TL.nil ?_
     show T X _ _ _
     refine T.seq ?_
     refine T.seq ?_
     obtain ⟨t6, ht6, h0⟩ := bnd_some h0
     refine T.cutC (fun S' => S' = ⟨[(38, .val (.bool t6)), (9, .val (.pointer none)), (7, .val (.pointer none)), (6, .val (.bool false)), (5, .nod [.val (.int .i64 a2.fAt), .val (.int .i64 a2.fN)]), (1, .sl 2 (List.map e_law03_Put a1))], [], 141⟩) (fun _ h => h) ?_ ?_
     rotate_left
     · rintro _ rfl
       show T X _ _ _
       rcases ite_some h0 with ⟨c8, h0⟩ | ⟨c8, h0⟩
       · refine T.condT rfl (c8) ?_
         refine T.seq ?_
         refine T.region ?_
         refine TL.op1 (OpR.pure rfl) rfl ?_
         refine TL.nil ?_
         show T X _ _ _
         refine T.ret ?_
         obtain rfl := Option.some.inj h0
         exact PostG.retP (ks := []) (Gst.only [6] rfl) undef (ResL.cons (ResV.tmp rfl) ResL.nil) rfl rfl rfl rfl
       refine T.condF rfl (eq_false_of_ne_true c8) ?_
       refine T.skip ?_
       show T X _ _ _
       refine T.seq ?_
       refine T.seq ?_
       refine T.region ?_
       refine TL.op1 (OpR.pure rfl) rfl ?_
       refine TL.op1 (OpR.ptrNil rfl rfl rfl) rfl ?_
       refine TL.nil ?_
       show T X _ _ _
       refine T.condT rfl rfl ?_
       refine T.seq ?_
       refine T.region ?_
       obtain ⟨x9, hx9, h0⟩ := bnd_some h0
       refine TL.op1 (OpR.call0 fn20 (law03_awake_c hx9) rfl) rfl ?_
       refine TL.op1 (OpR.pure rfl) rfl ?_
       refine TL.nil ?_
       show T X _ _ _
       refine T.ret ?_
       obtain rfl := Option.some.inj h0
       exact PostG.retP (ks := []) (Gst.only [6] rfl) undef (ResL.cons (ResV.tmp rfl) ResL.nil) rfl rfl rfl rfl
     refine T.region ?_
     refine TL.op1 (OpR.pure rfl) rfl ?_
     refine TL.op1 (OpR.pure rfl) rfl ?_
     refine TL.op1 (OpR.pure rfl) rfl ?_
     refine TL.op1 (OpR.pure rfl) rfl ?_
     rcases ite_some ht6 with ⟨c7, ht6⟩ | ⟨c7, ht6⟩
     rotate_left
     · refine TL.off rfl rfl rfl rfl (not_f (beq_eq_false_iff_ne.2 c7)) rfl rfl ?_
       refine TL.off rfl rfl rfl rfl (not_f (beq_eq_false_iff_ne.2 c7)) rfl rfl ?_
       refine TL.off rfl rfl rfl rfl (not_f (beq_eq_false_iff_ne.2 c7)) rfl rfl ?_
       refine TL.off rfl rfl rfl rfl (not_f (beq_eq_false_iff_ne.2 c7)) rfl rfl ?_
       refine TL.off rfl rfl rfl rfl (not_f (beq_eq_false_iff_ne.2 c7)) rfl rfl ?_
       refine TL.op1 (OpR.pickT rfl (not_f (beq_eq_false_iff_ne.2 c7)) rfl) rfl ?_
       refine TL.nil ?_
       obtain rfl := Option.some.inj ht6
       exact ⟨_, Gst.only [1, 5, 6, 7, 9, 38] rfl, rfl⟩
     refine TL.on rfl rfl rfl rfl (not_t (beq_iff_eq.2 c7)) ?_
     refine TL.op1 (OpR.pure rfl) rfl ?_
     refine TL.on rfl rfl rfl rfl (not_t (beq_iff_eq.2 c7)) ?_
     refine TL.op1 (OpR.ptrNil rfl rfl rfl) rfl ?_
     refine TL.on rfl rfl rfl rfl (not_t (beq_iff_eq.2 c7)) ?_
     refine TL.op1 (OpR.pure rfl) rfl ?_
     refine TL.on rfl rfl rfl rfl (not_t (beq_iff_eq.2 c7)) ?_
     refine TL.op1 (OpR.ptrNil rfl rfl rfl) rfl ?_
     refine TL.on rfl rfl rfl rfl (not_t (beq_iff_eq.2 c7)) ?_
     refine TL.op1 (OpR.neBool rfl rfl rfl rfl) rfl ?_
     refine TL.op1 (OpR.pickF rfl (not_t (beq_iff_eq.2 c7)) rfl) rfl ?_
     refine TL.nil ?_
     obtain rfl := Option.some.inj ht6
     exact ⟨_, Gst.only [1, 5, 6, 7, 9, 38] rfl, rfl⟩
   dsimp only at h0
   refine TL.op (OpR.call [] fn21 (ref03_New_cx2 hx4) rfl rfl rfl (fun _ => rfl)) rfl (fun w5 => ?_)
   refine TL.op1 (OpR.pure rfl) rfl ?_
   refine TL.op1 (OpR.pure rfl) rfl ?_
   refine TL.op1 (OpR.pure rfl) rfl ?_
   refine TL.op1 (OpR.pure rfl) rfl ?_
   refine TL.op1 (OpR.pure rfl) rfl ?_
   refine TL.nil ?_
   show T X _ _ _
   refine T.seq ?_
   refine T.seq ?_
   obtain ⟨t10, ht10, h0⟩ := bnd_some h0
   refine T.cutC (fun S' => S' = ⟨[(38, .val (.bool t10)), (9, .val (.pointer (some ⟨(blk (vn w5 0)), 0, none⟩))), (7, .val (.pointer none)), (6, .val (.bool false)), (5, .nod [.val (.int .i64 a2.fAt), .val (.int .i64 a2.fN)]), (1, .sl 2 (List.map e_law03_Put a1))], [.var (blk (vn w5 0)) [.val (.string (bs x4.2))] 58], 141⟩) (fun _ h => h) ?_ ?_
   · refine T.region ?_
     refine TL.op1 (OpR.pure rfl) rfl ?_
     refine TL.op1 (OpR.pure rfl) rfl ?_
     refine TL.op1 (OpR.pure rfl) rfl ?_
     refine TL.op1 (OpR.pure rfl) rfl ?_
     rcases ite_some ht10 with ⟨c11, ht10⟩ | ⟨c11, ht10⟩
     rotate_left
     · refine TL.off rfl rfl rfl rfl (not_f (beq_eq_false_iff_ne.2 c11)) rfl rfl ?_
       refine TL.off rfl rfl rfl rfl (not_f (beq_eq_false_iff_ne.2 c11)) rfl rfl ?_
       refine TL.off rfl rfl rfl rfl (not_f (beq_eq_false_iff_ne.2 c11)) rfl rfl ?_
       refine TL.off rfl rfl rfl rfl (not_f (beq_eq_false_iff_ne.2 c11)) rfl rfl ?_
       refine TL.off rfl rfl rfl rfl (not_f (beq_eq_false_iff_ne.2 c11)) rfl rfl ?_
       refine TL.op1 (OpR.pickT rfl (not_f (beq_eq_false_iff_ne.2 c11)) rfl) rfl ?_
       refine TL.nil ?_
       obtain rfl := Option.some.inj ht10
       exact ⟨_, Gst.only [1, 5, 6, 7, 9, 38] rfl, rfl⟩
     refine TL.on rfl rfl rfl rfl (not_t (beq_iff_eq.2 c11)) ?_
     refine TL.op1 (OpR.pure rfl) rfl ?_
     refine TL.on rfl rfl rfl rfl (not_t (beq_iff_eq.2 c11)) ?_
     refine TL.op1 (OpR.ptrNil rfl rfl rfl) rfl ?_
     refine TL.on rfl rfl rfl rfl (not_t (beq_iff_eq.2 c11)) ?_
     refine TL.op1 (OpR.pure rfl) rfl ?_
     refine TL.on rfl rfl rfl rfl (not_t (beq_iff_eq.2 c11)) ?_
     refine TL.op1 (OpR.ptrNil rfl rfl rfl) rfl ?_
     refine TL.on rfl rfl rfl rfl (not_t (beq_iff_eq.2 c11)) ?_
     refine TL.op1 (OpR.neBool rfl rfl rfl rfl) rfl ?_
     refine TL.op1 (OpR.pickF rfl (not_t (beq_iff_eq.2 c11)) rfl) rfl ?_
     refine TL.nil ?_
     obtain rfl := Option.some.inj ht10
     exact ⟨_, Gst.only [1, 5, 6, 7, 9, 38] rfl, rfl⟩
   rintro _ rfl
   show T X _ _ _
   rcases ite_some h0 with ⟨c12, h0⟩ | ⟨c12, h0⟩
   · refine T.condT rfl (c12) ?_
     refine T.seq ?_
     refine T.region ?_
     refine TL.op1 (OpR.pure rfl) rfl ?_
     refine TL.nil ?_
     show T X _ _ _
     refine T.ret ?_
     obtain rfl := Option.some.inj h0
     exact PostG.retP (ks := []) (Gst.trans (Gst.only [6] rfl) (Gst.pick [] rfl rfl)) undef (ResL.cons (ResV.tmp rfl) ResL.nil) rfl rfl rfl rfl
   refine T.condF rfl (eq_false_of_ne_true c12) ?_
   refine T.skip ?_
   show T X _ _ _
   refine T.seq ?_
   refine T.seq ?_
   refine T.region ?_
   refine TL.op1 (OpR.pure rfl) rfl ?_
   refine TL.op1 (OpR.ptrNil rfl rfl rfl) rfl ?_
   refine TL.nil ?_
   show T X _ _ _
   refine T.condF rfl rfl ?_
   refine T.skip ?_
   show T X _ _ _
   refine T.seq ?_
   refine T.seq ?_
   refine T.region ?_
   refine TL.op1 (OpR.pure rfl) rfl ?_
   refine TL.op1 (OpR.cast (OpR.pure rfl) (intE (lenM _ _))) rfl ?_
   refine TL.op1 (OpR.pure rfl) rfl ?_
   refine TL.nil ?_
   show T X _ _ _
   obtain ⟨t13, ht13, h0⟩ := bnd_some h0
   refine T.cutC (fun S' => ∃ u14, t13 = Ex.brk u14 ∧ S' = ⟨[(9, .val (.pointer (some ⟨(blk (vn w5 0)), 0, none⟩))), (7, .val (.pointer none)), (6, .val (.bool false)), (5, .nod [.val (.int .i64 a2.fAt), .val (.int .i64 a2.fN)])], [.var (blk (vn w5 0)) [.val (.string (bs u14))] 58], 141⟩) (fun _ h => h) ?_ ?_
   · refine T.block ?_
     obtain ⟨n16, n21⟩ := loop_some ht13
     refine T.loop (fun n S' => ∃ S'', Gst S' S'' ∧ ∃ s15 : Int × (List UInt8), S'' = ⟨[(44, .val (.int .i64 s15.1)), (43, .val (.int .i64 (a1.length : Int))), (42, .sl 2 (List.map e_law03_Put a1)), (9, .val (.pointer (some ⟨(blk (vn w5 0)), 0, none⟩))), (7, .val (.pointer none)), (6, .val (.bool false)), (5, .nod [.val (.int .i64 a2.fAt), .val (.int .i64 a2.fN)])], [.var (blk (vn w5 0)) [.val (.string (bs s15.2))] 58], 141⟩ ∧ iter (law03_ArenaPlays.l1 a1) n s15 = some t13) n16 ?_ ?_
     · exact ⟨_, Gst.only [5, 6, 7, 9, 42, 43, 44] rfl, (0, x4.2), rfl, n21⟩
     rintro n16 _ ⟨_, g, s15, rfl, i20⟩
     refine T.ghost g ?_
     obtain ⟨m17, q18, rfl, q19, i20⟩ := iter_succ i20
     unfold law03_ArenaPlays.l1 at q19
     refine T.seq ?_
     refine T.region ?_
     refine TL.op1 (OpR.pure rfl) rfl ?_
     refine TL.nil ?_
     show T X _ _ _
     refine T.seq ?_
     rcases ite_some q19 with ⟨c23, q19⟩ | ⟨c23, q19⟩
     rotate_left
     · refine T.condF rfl (decide_eq_false c23) ?_
       refine T.exit ?_
       obtain rfl := Option.some.inj q19
       obtain rfl : _ = _ := i20
       exact ⟨_, Gst.only [5, 6, 7, 9] rfl, _, rfl, rfl⟩
     refine T.condT rfl (decide_eq_true c23) ?_
     refine T.skip ?_
     show T X _ _ _
     refine T.seq ?_
     refine T.block ?_
     refine T.seq ?_
     refine T.region ?_
     refine TL.op1 (OpR.pure rfl) rfl ?_
     obtain ⟨x24, hx24, q19⟩ := bnd_some q19
     refine TL.op1 (OpR.indexM e_law03_Put hx24 rfl rfl rfl rfl rfl) rfl ?_
     refine TL.op1 (OpR.pure rfl) rfl ?_
     refine TL.op (OpR.alloc rfl rfl (fun _ => rfl)) rfl (fun p25 => ?_)
     refine TL.op1 (OpR.pure rfl) rfl ?_
     refine TL.op0 (OpR.store 1 rfl rfl rfl rfl rfl rfl rfl rfl) ?_
     refine TL.nil ?_
     show T X _ _ _
     refine T.seq ?_
     refine T.seq ?_
     refine T.region ?_
     refine TL.op1 (OpR.pure rfl) rfl ?_
     refine TL.op1 (OpR.pure rfl) rfl ?_
     refine TL.nil ?_
     show T X _ _ _
     rcases ite_some q19 with ⟨c26, q19⟩ | ⟨c26, q19⟩
     · refine T.condT rfl (decide_eq_true c26) ?_
       refine T.exit ?_
       obtain rfl := Option.some.inj q19
       obtain rfl : _ = _ := i20
       exact ⟨_, Gst.trans (Gst.only [5, 6, 7, 9] rfl) (Gst.pick [0] rfl rfl), _, rfl, rfl⟩
     refine T.condF rfl (decide_eq_false c26) ?_
     refine T.skip ?_
     show T X _ _ _
     refine T.seq ?_
     obtain ⟨t27, ht27, q19⟩ := bnd_some q19
     refine T.cutC (fun S' => S' = ⟨[(80, .val (.bool t27.1)), (44, .val (.int .i64 s15.1)), (43, .val (.int .i64 (a1.length : Int))), (42, .sl 2 (List.map e_law03_Put a1)), (9, .val (.pointer (some ⟨(blk (vn w5 0)), 0, none⟩))), (7, .val (.pointer none)), (6, .val (.bool false)), (5, .nod [.val (.int .i64 a2.fAt), .val (.int .i64 a2.fN)])], [.var (blk (vn w5 0)) [.val (.string (bs t27.2))] 58], 141⟩) (fun _ h => h) ?_ ?_
     rotate_left
     · rintro _ rfl
       show T X _ _ _
       rcases ite_some q19 with ⟨c35, q19⟩ | ⟨c35, q19⟩
       rotate_left
       · refine T.condF rfl (eq_false_of_ne_true c35) ?_
         refine T.skip ?_
         show T X _ _ _
         refine T.region ?_
         refine TL.op1 (OpR.pure rfl) rfl ?_
         refine TL.op1 (OpR.pure rfl) rfl ?_
         refine TL.nil ?_
         obtain rfl := Option.some.inj q19
         exact ⟨m17, Nat.lt_succ_self _, _, Gst.only [5, 6, 7, 9, 42, 43, 44] rfl, (w64 (s15.1 + 1), t27.2), rfl, i20⟩
       refine T.condT rfl (c35) ?_
       refine T.seq ?_
       refine T.region ?_
       refine TL.op1 (OpR.pure rfl) rfl ?_
       refine TL.nil ?_
       show T X _ _ _
       refine T.ret ?_
       obtain rfl := Option.some.inj q19
       obtain rfl : _ = _ := i20
       obtain rfl := Option.some.inj h0
       exact PostG.retP (ks := []) (Gst.trans (Gst.only [6] rfl) (Gst.pick [] rfl rfl)) undef (ResL.cons (ResV.tmp rfl) ResL.nil) rfl rfl rfl rfl
     obtain ⟨x29, hx29, ht27⟩ := bnd_some ht27
     obtain ⟨x30, hx30, ht27⟩ := bnd_some ht27
     rcases ite_some ht27 with ⟨c31, ht27⟩ | ⟨c31, ht27⟩
     rotate_left
     · refine T.drawS drawsX (fun env28 => [.val (.pointer none), .val (.pointer (some ⟨(blk (vn w5 0)), 0, none⟩)), .val (.pointer (some ⟨(blk p25), 0, none⟩)), .val (.string (bs x24.fText)), .val (.string (bs x29)), .val (.pointer (some ⟨(blk p25), 1, none⟩)), .val (.bool x24.fKeep), .val (.bool x30.1), .val (.bool (!x30.1)), .val (.bool (!x30.1)), .tup [], .tup [], .tup [], .tup [], .tup [], .tup [], .tup [], .tup [], .val (.bool true), .val (.bool true), .tup [], .tup [], .tup [], .tup [], .tup [], .tup [], .tup [], .tup [], .tup [], .val (.bool true)]) (fun D env28 => [(bif D 7 then .var (blk (vn w5 0)) [.val (.string (bs x30.2))] 58 else .var (blk (vn w5 0)) [.val (.string (bs s15.2))] 58), .var (blk p25) [.val (.string (bs x24.fText)), .val (.bool x24.fKeep)] 55]) [0, 0, 0, 4, 12, 0, 32, 127, 255, 511, 1023, 2047, 1023, 5119, 13311, 29695, 62463, 131071, 262143, 524287, 1048575, 2097151, 1048575, 5242879, 13631487, 30408703, 63963135, 131071999, 268435455, 536870911] [5, 6, 7, 9, 11, 12, 42, 43, 44, 45, 46, 47, 48, 49, 50, 51, 52, 53, 54, 55, 56, 57, 58, 59, 60, 61, 62, 63, 64, 65, 66, 67, 68, 69, 70, 71, 72, 73, 74, 75, 76, 77, 78, 79, 80] (fun env28 => [.var (blk (vn w5 0)) [.val (.string (bs x30.2))] 58, .var (blk p25) [.val (.string (bs x24.fText)), .val (.bool x24.fKeep)] 55]) (by decide +kernel) (by decide +kernel) (fun _ => rfl) (fun _ => rfl) ?_ (fun _ => rfl) (fun _ => rfl) ?_
       rotate_left
       · intro env28
         obtain rfl := Option.some.inj ht27
         exact ⟨_, Gst.trans (Gst.only [5, 6, 7, 9, 42, 43, 44, 80] rfl) (Gst.pick [0] rfl rfl), rfl⟩
       refine oS (d := .val (.pointer none)) (fun _ => Want.plain rfl) (fun _ => rfl) (fun _ _ _ => rfl) (fun _ _ => OpR.pure rfl) (fun _ _ _ _ _ _ _ => rfl) ?_
       refine oS (d := .val (.pointer (some ⟨(blk (vn w5 0)), 0, none⟩))) (fun _ => Want.plain rfl) (fun _ => rfl) (fun _ _ _ => rfl) (fun _ _ => OpR.pure rfl) (fun _ _ _ _ _ _ _ => rfl) ?_
       refine oS (d := .val (.pointer (some ⟨(blk p25), 0, none⟩))) (fun _ => Want.plain rfl) (fun _ => rfl) (fun _ _ _ => rfl) (fun _ _ => OpR.pure rfl) (fun _ _ _ _ _ _ _ => rfl) ?_
       refine oS (d := .val (.string (bs x24.fText))) (fun _ => Want.plain rfl) (fun _ => rfl) (fun _ _ _ => rfl) (fun _ _ => OpR.loadPtr 1 rfl rfl rfl rfl) (fun _ _ _ _ _ _ _ => rfl) ?_
       refine oS (d := .val (.string (bs x29))) (fun _ => Want.plain rfl) (fun _ => rfl) (fun _ _ _ => rfl) (fun _ _ => OpR.call0 fn16 (law03_cut_c hx29) rfl) (fun _ _ _ _ _ _ _ => rfl) ?_
       refine oS (d := .val (.pointer (some ⟨(blk p25), 1, none⟩))) (fun _ => Want.plain rfl) (fun _ => rfl) (fun _ _ _ => rfl) (fun _ _ => OpR.pure rfl) (fun _ _ _ _ _ _ _ => rfl) ?_
       refine oS (d := .val (.bool x24.fKeep)) (fun _ => Want.plain rfl) (fun _ => rfl) (fun _ _ _ => rfl) (fun _ _ => OpR.loadPtr 1 rfl rfl rfl rfl) (fun _ _ _ _ _ _ _ => rfl) ?_
       refine OpsS.cons' true ?_ (fun _ _ _ _ _ _ _ => rfl) ?_
       · intro D env28 hA
         exact OpS.yes (o0 := [.var (blk (vn w5 0)) [.val (.string (bs s15.2))] 58, .var (blk p25) [.val (.string (bs x24.fText)), .val (.bool x24.fKeep)] 55]) (o1 := fun x => [.var (blk (vn w5 0)) [.val (.string (bs x30.2))] 58, .var (blk p25) [.val (.string (bs x24.fText)), .val (.bool x24.fKeep)] 55]) (d := fun x => .val (.bool x30.1)) (Want.plain rfl) (by first | rfl | simp only [hA.me, cond_true, cond_false, List.cons_append, List.nil_append, List.append_nil]) (fun x => by first | rfl | simp only [ins_self, upd_self, hA.me, cond_true, cond_false, List.cons_append, List.nil_append, List.append_nil]) (fun x => rfl) (OpR.call [0] fn22 (law03_put_c hx30) rfl rfl rfl (fun _ => rfl))
       refine oS (d := .val (.bool (!x30.1))) (fun _ => Want.plain rfl) (fun _ => rfl) (fun _ _ _ => rfl) (fun _ _ => OpR.pure rfl) (fun _ _ _ _ _ _ _ => rfl) ?_
       refine oS (d := .val (.bool (!x30.1))) (fun _ => Want.plain rfl) (fun _ => rfl) (fun _ _ _ => rfl) (fun _ _ => OpR.pure rfl) (fun _ _ _ _ _ _ _ => rfl) ?_
       refine OpsS.cons' false (fun D env28 hA => OpS.no (Want.bool rfl rfl rfl rfl (by rw [(not_f (eq_false_of_ne_true c31))]; rfl)) rfl rfl) (fun _ _ _ _ _ _ _ => rfl) ?_
       refine OpsS.cons' false (fun D env28 hA => OpS.no (Want.bool rfl rfl rfl rfl (by rw [(not_f (eq_false_of_ne_true c31))]; rfl)) rfl rfl) (fun _ _ _ _ _ _ _ => rfl) ?_
       refine OpsS.cons' false (fun D env28 hA => OpS.no (Want.bool rfl rfl rfl rfl (by rw [(not_f (eq_false_of_ne_true c31))]; rfl)) rfl rfl) (fun _ _ _ _ _ _ _ => rfl) ?_
       refine OpsS.cons' false (fun D env28 hA => OpS.no (Want.bool rfl rfl rfl rfl (by rw [(not_f (eq_false_of_ne_true c31))]; rfl)) rfl rfl) (fun _ _ _ _ _ _ _ => rfl) ?_
       refine OpsS.cons' false (fun D env28 hA => OpS.no (Want.bool rfl rfl rfl rfl (by rw [(not_f (eq_false_of_ne_true c31))]; rfl)) rfl rfl) (fun _ _ _ _ _ _ _ => rfl) ?_
       refine OpsS.cons' false (fun D env28 hA => OpS.no (Want.bool rfl rfl rfl rfl (by rw [(not_f (eq_false_of_ne_true c31))]; rfl)) rfl rfl) (fun _ _ _ _ _ _ _ => rfl) ?_
       refine OpsS.cons' false (fun D env28 hA => OpS.no (Want.bool rfl rfl rfl rfl (by rw [(not_f (eq_false_of_ne_true c31))]; rfl)) rfl rfl) (fun _ _ _ _ _ _ _ => rfl) ?_
       refine OpsS.cons' false (fun D env28 hA => OpS.no (Want.bool rfl rfl rfl rfl (by rw [(not_f (eq_false_of_ne_true c31))]; rfl)) rfl rfl) (fun _ _ _ _ _ _ _ => rfl) ?_
       refine oS (d := .val (.bool true)) (fun _ => Want.plain rfl) (fun _ => rfl) (fun _ _ _ => rfl) (fun _ _ => OpR.pickT rfl (not_f (eq_false_of_ne_true c31)) rfl) (fun _ _ _ _ _ _ _ => rfl) ?_
       refine oS (d := .val (.bool true)) (fun _ => Want.plain rfl) (fun _ => rfl) (fun _ _ _ => rfl) (fun _ _ => OpR.pure rfl) (fun _ _ _ _ _ _ _ => rfl) ?_
       refine OpsS.cons' false (fun D env28 hA => OpS.no (Want.bool rfl rfl rfl rfl rfl) rfl rfl) (fun _ _ _ _ _ _ _ => rfl) ?_
       refine OpsS.cons' false (fun D env28 hA => OpS.no (Want.bool rfl rfl rfl rfl rfl) rfl rfl) (fun _ _ _ _ _ _ _ => rfl) ?_
       refine OpsS.cons' false (fun D env28 hA => OpS.no (Want.bool rfl rfl rfl rfl rfl) rfl rfl) (fun _ _ _ _ _ _ _ => rfl) ?_
       refine OpsS.cons' false (fun D env28 hA => OpS.no (Want.bool rfl rfl rfl rfl rfl) rfl rfl) (fun _ _ _ _ _ _ _ => rfl) ?_
       refine OpsS.cons' false (fun D env28 hA => OpS.no (Want.bool rfl rfl rfl rfl rfl) rfl rfl) (fun _ _ _ _ _ _ _ => rfl) ?_
       refine OpsS.cons' false (fun D env28 hA => OpS.no (Want.bool rfl rfl rfl rfl rfl) rfl rfl) (fun _ _ _ _ _ _ _ => rfl) ?_
       refine OpsS.cons' false (fun D env28 hA => OpS.no (Want.bool rfl rfl rfl rfl rfl) rfl rfl) (fun _ _ _ _ _ _ _ => rfl) ?_
       refine OpsS.cons' false (fun D env28 hA => OpS.no (Want.bool rfl rfl rfl rfl rfl) rfl rfl) (fun _ _ _ _ _ _ _ => rfl) ?_
       refine OpsS.cons' false (fun D env28 hA => OpS.no (Want.bool rfl rfl rfl rfl rfl) rfl rfl) (fun _ _ _ _ _ _ _ => rfl) ?_
       refine oS (d := .val (.bool true)) (fun _ => Want.plain rfl) (fun _ => rfl) (fun _ _ _ => rfl) (fun _ _ => OpR.pickT rfl rfl rfl) (fun _ _ _ _ _ _ _ => rfl) ?_
       exact trivial
     obtain ⟨x32, hx32, ht27⟩ := bnd_some ht27
     rcases ite_some ht27 with ⟨c33, ht27⟩ | ⟨c33, ht27⟩
     rotate_left
     · refine T.drawS drawsX (fun env28 => [.val (.pointer none), .val (.pointer (some ⟨(blk (vn w5 0)), 0, none⟩)), .val (.pointer (some ⟨(blk p25), 0, none⟩)), .val (.string (bs x24.fText)), .val (.string (bs x29)), .val (.pointer (some ⟨(blk p25), 1, none⟩)), .val (.bool x24.fKeep), .val (.bool x30.1), .val (.bool (!x30.1)), .val (.bool (!x30.1)), .val (.pointer none), .val (.int .i64 x32), .val (.pointer (some ⟨(blk (vn w5 0)), 0, none⟩)), .val (.pointer (some ⟨(blk (vn w5 0)), 0, none⟩)), .val (.pointer (some ⟨(blk (vn w5 0)), 0, none⟩)), .val (.string (bs x30.2)), .val (.int .i64 (x30.2.length : Int)), .val (.bool (!(x32 == (x30.2.length : Int)))), .val (.bool (!(x32 == (x30.2.length : Int)))), .val (.bool (!(x32 == (x30.2.length : Int)))), .tup [], .tup [], .tup [], .tup [], .tup [], .tup [], .tup [], .tup [], .tup [], .val (.bool true)]) (fun D env28 => [(bif D 7 then .var (blk (vn w5 0)) [.val (.string (bs x30.2))] 58 else .var (blk (vn w5 0)) [.val (.string (bs s15.2))] 58), .var (blk p25) [.val (.string (bs x24.fText)), .val (.bool x24.fKeep)] 55]) [0, 0, 0, 4, 12, 0, 32, 127, 255, 511, 1023, 2047, 1023, 5119, 13311, 29695, 62463, 131071, 262143, 524287, 1048575, 2097151, 1048575, 5242879, 13631487, 30408703, 63963135, 131071999, 268435455, 536870911] [5, 6, 7, 9, 11, 12, 42, 43, 44, 45, 46, 47, 48, 49, 50, 51, 52, 53, 54, 55, 56, 57, 58, 59, 60, 61, 62, 63, 64, 65, 66, 67, 68, 69, 70, 71, 72, 73, 74, 75, 76, 77, 78, 79, 80] (fun env28 => [.var (blk (vn w5 0)) [.val (.string (bs x30.2))] 58, .var (blk p25) [.val (.string (bs x24.fText)), .val (.bool x24.fKeep)] 55]) (by decide +kernel) (by decide +kernel) (fun _ => rfl) (fun _ => rfl) ?_ (fun _ => rfl) (fun _ => rfl) ?_
       rotate_left
       · intro env28
         obtain rfl := Option.some.inj ht27
         exact ⟨_, Gst.trans (Gst.only [5, 6, 7, 9, 42, 43, 44, 80] rfl) (Gst.pick [0] rfl rfl), rfl⟩
       refine oS (d := .val (.pointer none)) (fun _ => Want.plain rfl) (fun _ => rfl) (fun _ _ _ => rfl) (fun _ _ => OpR.pure rfl) (fun _ _ _ _ _ _ _ => rfl) ?_
       refine oS (d := .val (.pointer (some ⟨(blk (vn w5 0)), 0, none⟩))) (fun _ => Want.plain rfl) (fun _ => rfl) (fun _ _ _ => rfl) (fun _ _ => OpR.pure rfl) (fun _ _ _ _ _ _ _ => rfl) ?_
       refine oS (d := .val (.pointer (some ⟨(blk p25), 0, none⟩))) (fun _ => Want.plain rfl) (fun _ => rfl) (fun _ _ _ => rfl) (fun _ _ => OpR.pure rfl) (fun _ _ _ _ _ _ _ => rfl) ?_
       refine oS (d := .val (.string (bs x24.fText))) (fun _ => Want.plain rfl) (fun _ => rfl) (fun _ _ _ => rfl) (fun _ _ => OpR.loadPtr 1 rfl rfl rfl rfl) (fun _ _ _ _ _ _ _ => rfl) ?_
       refine oS (d := .val (.string (bs x29))) (fun _ => Want.plain rfl) (fun _ => rfl) (fun _ _ _ => rfl) (fun _ _ => OpR.call0 fn16 (law03_cut_c hx29) rfl) (fun _ _ _ _ _ _ _ => rfl) ?_
       refine oS (d := .val (.pointer (some ⟨(blk p25), 1, none⟩))) (fun _ => Want.plain rfl) (fun _ => rfl) (fun _ _ _ => rfl) (fun _ _ => OpR.pure rfl) (fun _ _ _ _ _ _ _ => rfl) ?_
       refine oS (d := .val (.bool x24.fKeep)) (fun _ => Want.plain rfl) (fun _ => rfl) (fun _ _ _ => rfl) (fun _ _ => OpR.loadPtr 1 rfl rfl rfl rfl) (fun _ _ _ _ _ _ _ => rfl) ?_
       refine OpsS.cons' true ?_ (fun _ _ _ _ _ _ _ => rfl) ?_
       · intro D env28 hA
         exact OpS.yes (o0 := [.var (blk (vn w5 0)) [.val (.string (bs s15.2))] 58, .var (blk p25) [.val (.string (bs x24.fText)), .val (.bool x24.fKeep)] 55]) (o1 := fun x => [.var (blk (vn w5 0)) [.val (.string (bs x30.2))] 58, .var (blk p25) [.val (.string (bs x24.fText)), .val (.bool x24.fKeep)] 55]) (d := fun x => .val (.bool x30.1)) (Want.plain rfl) (by first | rfl | simp only [hA.me, cond_true, cond_false, List.cons_append, List.nil_append, List.append_nil]) (fun x => by first | rfl | simp only [ins_self, upd_self, hA.me, cond_true, cond_false, List.cons_append, List.nil_append, List.append_nil]) (fun x => rfl) (OpR.call [0] fn22 (law03_put_c hx30) rfl rfl rfl (fun _ => rfl))
       refine oS (d := .val (.bool (!x30.1))) (fun _ => Want.plain rfl) (fun _ => rfl) (fun _ _ _ => rfl) (fun _ _ => OpR.pure rfl) (fun _ _ _ _ _ _ _ => rfl) ?_
       refine oS (d := .val (.bool (!x30.1))) (fun _ => Want.plain rfl) (fun _ => rfl) (fun _ _ _ => rfl) (fun _ _ => OpR.pure rfl) (fun _ _ _ _ _ _ _ => rfl) ?_
       refine oS (d := .val (.pointer none)) (fun _ => Want.bool rfl rfl rfl rfl (by rw [(not_t (c31))]; rfl)) (fun _ => rfl) (fun _ _ _ => rfl) (fun _ _ => OpR.pure rfl) (fun _ _ _ _ _ _ _ => rfl) ?_
       refine oS (d := .val (.int .i64 x32)) (fun _ => Want.bool rfl rfl rfl rfl (by rw [(not_t (c31))]; rfl)) (fun _ => rfl) (fun _ _ _ => rfl) (fun _ _ => OpR.call0 fn19 (arena_Arena_Len_2_c hx32) rfl) (fun _ _ _ _ _ _ _ => rfl) ?_
       refine oS (d := .val (.pointer (some ⟨(blk (vn w5 0)), 0, none⟩))) (fun _ => Want.bool rfl rfl rfl rfl (by rw [(not_t (c31))]; rfl)) (fun _ => rfl) (fun _ _ _ => rfl) (fun _ _ => OpR.pure rfl) (fun _ _ _ _ _ _ _ => rfl) ?_
       refine oS (d := .val (.pointer (some ⟨(blk (vn w5 0)), 0, none⟩))) (fun _ => Want.bool rfl rfl rfl rfl (by rw [(not_t (c31))]; rfl)) (fun _ => rfl) (fun _ _ _ => rfl) (fun _ _ => OpR.pure rfl) (fun _ _ _ _ _ _ _ => rfl) ?_
       refine oS (d := .val (.pointer (some ⟨(blk (vn w5 0)), 0, none⟩))) (fun _ => Want.bool rfl rfl rfl rfl (by rw [(not_t (c31))]; rfl)) (fun _ => rfl) (fun _ _ _ => rfl) (fun _ _ => OpR.pure rfl) (fun _ _ _ _ _ _ _ => rfl) ?_
       refine OpsS.cons' true ?_ (fun _ _ _ _ _ _ _ => rfl) ?_
       · intro D env28 hA
         have e7 : D 7 = true := hA.yes 7 _ rfl rfl
         exact OpS.yes (o0 := [.var (blk (vn w5 0)) [.val (.string (bs x30.2))] 58, .var (blk p25) [.val (.string (bs x24.fText)), .val (.bool x24.fKeep)] 55]) (o1 := fun x => [.var (blk (vn w5 0)) [.val (.string (bs x30.2))] 58, .var (blk p25) [.val (.string (bs x24.fText)), .val (.bool x24.fKeep)] 55]) (d := fun x => .val (.string (bs x30.2))) (Want.bool rfl rfl rfl rfl (by rw [(not_t (c31))]; rfl)) (by first | rfl | simp only [e7, cond_true, cond_false, List.cons_append, List.nil_append, List.append_nil]) (fun x => by first | rfl | simp only [ins_self, ins_ne D (show 15 ≠ 7 by decide), upd_self, e7, cond_true, cond_false, List.cons_append, List.nil_append, List.append_nil]) (fun x => rfl) (OpR.loadPtr 0 rfl rfl rfl rfl)
       refine oS (d := .val (.int .i64 (x30.2.length : Int))) (fun _ => Want.bool rfl rfl rfl rfl (by rw [(not_t (c31))]; rfl)) (fun _ => rfl) (fun _ _ _ => rfl) (fun _ _ => OpR.cast (OpR.pure rfl) (intE (lenS _))) (fun _ _ _ _ _ _ _ => rfl) ?_
       refine oS (d := .val (.bool (!(x32 == (x30.2.length : Int))))) (fun _ => Want.bool rfl rfl rfl rfl (by rw [(not_t (c31))]; rfl)) (fun _ => rfl) (fun _ _ _ => rfl) (fun _ _ => OpR.pure rfl) (fun _ _ _ _ _ _ _ => rfl) ?_
       refine oS (d := .val (.bool (!(x32 == (x30.2.length : Int))))) (fun _ => Want.plain rfl) (fun _ => rfl) (fun _ _ _ => rfl) (fun _ _ => OpR.pickF rfl (not_t (c31)) rfl) (fun _ _ _ _ _ _ _ => rfl) ?_
       refine oS (d := .val (.bool (!(x32 == (x30.2.length : Int))))) (fun _ => Want.plain rfl) (fun _ => rfl) (fun _ _ _ => rfl) (fun _ _ => OpR.pure rfl) (fun _ _ _ _ _ _ _ => rfl) ?_
       refine OpsS.cons' false (fun D env28 hA => OpS.no (Want.bool rfl rfl rfl rfl (by rw [(not_f (beq_eq_false_iff_ne.2 c33))]; rfl)) rfl rfl) (fun _ _ _ _ _ _ _ => rfl) ?_
       refine OpsS.cons' false (fun D env28 hA => OpS.no (Want.bool rfl rfl rfl rfl (by rw [(not_f (beq_eq_false_iff_ne.2 c33))]; rfl)) rfl rfl) (fun _ _ _ _ _ _ _ => rfl) ?_
       refine OpsS.cons' false (fun D env28 hA => OpS.no (Want.bool rfl rfl rfl rfl (by rw [(not_f (beq_eq_false_iff_ne.2 c33))]; rfl)) rfl rfl) (fun _ _ _ _ _ _ _ => rfl) ?_
       refine OpsS.cons' false (fun D env28 hA => OpS.no (Want.bool rfl rfl rfl rfl (by rw [(not_f (beq_eq_false_iff_ne.2 c33))]; rfl)) rfl rfl) (fun _ _ _ _ _ _ _ => rfl) ?_
       refine OpsS.cons' false (fun D env28 hA => OpS.no (Want.bool rfl rfl rfl rfl (by rw [(not_f (beq_eq_false_iff_ne.2 c33))]; rfl)) rfl rfl) (fun _ _ _ _ _ _ _ => rfl) ?_
       refine OpsS.cons' false (fun D env28 hA => OpS.no (Want.bool rfl rfl rfl rfl (by rw [(not_f (beq_eq_false_iff_ne.2 c33))]; rfl)) rfl rfl) (fun _ _ _ _ _ _ _ => rfl) ?_
       refine OpsS.cons' false (fun D env28 hA => OpS.no (Want.bool rfl rfl rfl rfl (by rw [(not_f (beq_eq_false_iff_ne.2 c33))]; rfl)) rfl rfl) (fun _ _ _ _ _ _ _ => rfl) ?_
       refine OpsS.cons' false (fun D env28 hA => OpS.no (Want.bool rfl rfl rfl rfl (by rw [(not_f (beq_eq_false_iff_ne.2 c33))]; rfl)) rfl rfl) (fun _ _ _ _ _ _ _ => rfl) ?_
       refine OpsS.cons' false (fun D env28 hA => OpS.no (Want.bool rfl rfl rfl rfl (by rw [(not_f (beq_eq_false_iff_ne.2 c33))]; rfl)) rfl rfl) (fun _ _ _ _ _ _ _ => rfl) ?_
       refine oS (d := .val (.bool true)) (fun _ => Want.plain rfl) (fun _ => rfl) (fun _ _ _ => rfl) (fun _ _ => OpR.pickT rfl (not_f (beq_eq_false_iff_ne.2 c33)) rfl) (fun _ _ _ _ _ _ _ => rfl) ?_
       exact trivial
     obtain ⟨x34, hx34, ht27⟩ := bnd_some ht27
     refine T.drawS drawsX (fun env28 => [.val (.pointer none), .val (.pointer (some ⟨(blk (vn w5 0)), 0, none⟩)), .val (.pointer (some ⟨(blk p25), 0, none⟩)), .val (.string (bs x24.fText)), .val (.string (bs x29)), .val (.pointer (some ⟨(blk p25), 1, none⟩)), .val (.bool x24.fKeep), .val (.bool x30.1), .val (.bool (!x30.1)), .val (.bool (!x30.1)), .val (.pointer none), .val (.int .i64 x32), .val (.pointer (some ⟨(blk (vn w5 0)), 0, none⟩)), .val (.pointer (some ⟨(blk (vn w5 0)), 0, none⟩)), .val (.pointer (some ⟨(blk (vn w5 0)), 0, none⟩)), .val (.string (bs x30.2)), .val (.int .i64 (x30.2.length : Int)), .val (.bool (!(x32 == (x30.2.length : Int)))), .val (.bool (!(x32 == (x30.2.length : Int)))), .val (.bool (!(x32 == (x30.2.length : Int)))), .val (.pointer none), .val (.int .i64 x34), .val (.pointer (some ⟨(blk (vn w5 0)), 0, none⟩)), .val (.pointer (some ⟨(blk (vn w5 0)), 0, none⟩)), .val (.pointer (some ⟨(blk (vn w5 0)), 0, none⟩)), .val (.string (bs x30.2)), .val (.int .i64 (x30.2.length : Int)), .val (.int .i64 (w64 (16384 - (x30.2.length : Int)))), .val (.bool (!(x34 == (w64 (16384 - (x30.2.length : Int)))))), .val (.bool (!(x34 == (w64 (16384 - (x30.2.length : Int))))))]) (fun D env28 => [(bif D 7 then .var (blk (vn w5 0)) [.val (.string (bs x30.2))] 58 else .var (blk (vn w5 0)) [.val (.string (bs s15.2))] 58), .var (blk p25) [.val (.string (bs x24.fText)), .val (.bool x24.fKeep)] 55]) [0, 0, 0, 4, 12, 0, 32, 127, 255, 511, 1023, 2047, 1023, 5119, 13311, 29695, 62463, 131071, 262143, 524287, 1048575, 2097151, 1048575, 5242879, 13631487, 30408703, 63963135, 131071999, 268435455, 536870911] [5, 6, 7, 9, 11, 12, 42, 43, 44, 45, 46, 47, 48, 49, 50, 51, 52, 53, 54, 55, 56, 57, 58, 59, 60, 61, 62, 63, 64, 65, 66, 67, 68, 69, 70, 71, 72, 73, 74, 75, 76, 77, 78, 79, 80] (fun env28 => [.var (blk (vn w5 0)) [.val (.string (bs x30.2))] 58, .var (blk p25) [.val (.string (bs x24.fText)), .val (.bool x24.fKeep)] 55]) (by decide +kernel) (by decide +kernel) (fun _ => rfl) (fun _ => rfl) ?_ (fun _ => rfl) (fun _ => rfl) ?_
     rotate_left
     · intro env28
       obtain rfl := Option.some.inj ht27
       exact ⟨_, Gst.trans (Gst.only [5, 6, 7, 9, 42, 43, 44, 80] rfl) (Gst.pick [0] rfl rfl), rfl⟩
     refine oS (d := .val (.pointer none)) (fun _ => Want.plain rfl) (fun _ => rfl) (fun _ _ _ => rfl) (fun _ _ => OpR.pure rfl) (fun _ _ _ _ _ _ _ => rfl) ?_
     refine oS (d := .val (.pointer (some ⟨(blk (vn w5 0)), 0, none⟩))) (fun _ => Want.plain rfl) (fun _ => rfl) (fun _ _ _ => rfl) (fun _ _ => OpR.pure rfl) (fun _ _ _ _ _ _ _ => rfl) ?_
     refine oS (d := .val (.pointer (some ⟨(blk p25), 0, none⟩))) (fun _ => Want.plain rfl) (fun _ => rfl) (fun _ _ _ => rfl) (fun _ _ => OpR.pure rfl) (fun _ _ _ _ _ _ _ => rfl) ?_
     refine oS (d := .val (.string (bs x24.fText))) (fun _ => Want.plain rfl) (fun _ => rfl) (fun _ _ _ => rfl) (fun _ _ => OpR.loadPtr 1 rfl rfl rfl rfl) (fun _ _ _ _ _ _ _ => rfl) ?_
     refine oS (d := .val (.string (bs x29))) (fun _ => Want.plain rfl) (fun _ => rfl) (fun _ _ _ => rfl) (fun _ _ => OpR.call0 fn16 (law03_cut_c hx29) rfl) (fun _ _ _ _ _ _ _ => rfl) ?_
     refine oS (d := .val (.pointer (some ⟨(blk p25), 1, none⟩))) (fun _ => Want.plain rfl) (fun _ => rfl) (fun _ _ _ => rfl) (fun _ _ => OpR.pure rfl) (fun _ _ _ _ _ _ _ => rfl) ?_
     refine oS (d := .val (.bool x24.fKeep)) (fun _ => Want.plain rfl) (fun _ => rfl) (fun _ _ _ => rfl) (fun _ _ => OpR.loadPtr 1 rfl rfl rfl rfl) (fun _ _ _ _ _ _ _ => rfl) ?_
     refine OpsS.cons' true ?_ (fun _ _ _ _ _ _ _ => rfl) ?_
     · intro D env28 hA
       exact OpS.yes (o0 := [.var (blk (vn w5 0)) [.val (.string (bs s15.2))] 58, .var (blk p25) [.val (.string (bs x24.fText)), .val (.bool x24.fKeep)] 55]) (o1 := fun x => [.var (blk (vn w5 0)) [.val (.string (bs x30.2))] 58, .var (blk p25) [.val (.string (bs x24.fText)), .val (.bool x24.fKeep)] 55]) (d := fun x => .val (.bool x30.1)) (Want.plain rfl) (by first | rfl | simp only [hA.me, cond_true, cond_false, List.cons_append, List.nil_append, List.append_nil]) (fun x => by first | rfl | simp only [ins_self, upd_self, hA.me, cond_true, cond_false, List.cons_append, List.nil_append, List.append_nil]) (fun x => rfl) (OpR.call [0] fn22 (law03_put_c hx30) rfl rfl rfl (fun _ => rfl))
     refine oS (d := .val (.bool (!x30.1))) (fun _ => Want.plain rfl) (fun _ => rfl) (fun _ _ _ => rfl) (fun _ _ => OpR.pure rfl) (fun _ _ _ _ _ _ _ => rfl) ?_
     refine oS (d := .val (.bool (!x30.1))) (fun _ => Want.plain rfl) (fun _ => rfl) (fun _ _ _ => rfl) (fun _ _ => OpR.pure rfl) (fun _ _ _ _ _ _ _ => rfl) ?_
     refine oS (d := .val (.pointer none)) (fun _ => Want.bool rfl rfl rfl rfl (by rw [(not_t (c31))]; rfl)) (fun _ => rfl) (fun _ _ _ => rfl) (fun _ _ => OpR.pure rfl) (fun _ _ _ _ _ _ _ => rfl) ?_
     refine oS (d := .val (.int .i64 x32)) (fun _ => Want.bool rfl rfl rfl rfl (by rw [(not_t (c31))]; rfl)) (fun _ => rfl) (fun _ _ _ => rfl) (fun _ _ => OpR.call0 fn19 (arena_Arena_Len_2_c hx32) rfl) (fun _ _ _ _ _ _ _ => rfl) ?_
     refine oS (d := .val (.pointer (some ⟨(blk (vn w5 0)), 0, none⟩))) (fun _ => Want.bool rfl rfl rfl rfl (by rw [(not_t (c31))]; rfl)) (fun _ => rfl) (fun _ _ _ => rfl) (fun _ _ => OpR.pure rfl) (fun _ _ _ _ _ _ _ => rfl) ?_
     refine oS (d := .val (.pointer (some ⟨(blk (vn w5 0)), 0, none⟩))) (fun _ => Want.bool rfl rfl rfl rfl (by rw [(not_t (c31))]; rfl)) (fun _ => rfl) (fun _ _ _ => rfl) (fun _ _ => OpR.pure rfl) (fun _ _ _ _ _ _ _ => rfl) ?_
     refine oS (d := .val (.pointer (some ⟨(blk (vn w5 0)), 0, none⟩))) (fun _ => Want.bool rfl rfl rfl rfl (by rw [(not_t (c31))]; rfl)) (fun _ => rfl) (fun _ _ _ => rfl) (fun _ _ => OpR.pure rfl) (fun _ _ _ _ _ _ _ => rfl) ?_
     refine OpsS.cons' true ?_ (fun _ _ _ _ _ _ _ => rfl) ?_
     · intro D env28 hA
       have e7 : D 7 = true := hA.yes 7 _ rfl rfl
       exact OpS.yes (o0 := [.var (blk (vn w5 0)) [.val (.string (bs x30.2))] 58, .var (blk p25) [.val (.string (bs x24.fText)), .val (.bool x24.fKeep)] 55]) (o1 := fun x => [.var (blk (vn w5 0)) [.val (.string (bs x30.2))] 58, .var (blk p25) [.val (.string (bs x24.fText)), .val (.bool x24.fKeep)] 55]) (d := fun x => .val (.string (bs x30.2))) (Want.bool rfl rfl rfl rfl (by rw [(not_t (c31))]; rfl)) (by first | rfl | simp only [e7, cond_true, cond_false, List.cons_append, List.nil_append, List.append_nil]) (fun x => by first | rfl | simp only [ins_self, ins_ne D (show 15 ≠ 7 by decide), upd_self, e7, cond_true, cond_false, List.cons_append, List.nil_append, List.append_nil]) (fun x => rfl) (OpR.loadPtr 0 rfl rfl rfl rfl)
     refine oS (d := .val (.int .i64 (x30.2.length : Int))) (fun _ => Want.bool rfl rfl rfl rfl (by rw [(not_t (c31))]; rfl)) (fun _ => rfl) (fun _ _ _ => rfl) (fun _ _ => OpR.cast (OpR.pure rfl) (intE (lenS _))) (fun _ _ _ _ _ _ _ => rfl) ?_
     refine oS (d := .val (.bool (!(x32 == (x30.2.length : Int))))) (fun _ => Want.bool rfl rfl rfl rfl (by rw [(not_t (c31))]; rfl)) (fun _ => rfl) (fun _ _ _ => rfl) (fun _ _ => OpR.pure rfl) (fun _ _ _ _ _ _ _ => rfl) ?_
     refine oS (d := .val (.bool (!(x32 == (x30.2.length : Int))))) (fun _ => Want.plain rfl) (fun _ => rfl) (fun _ _ _ => rfl) (fun _ _ => OpR.pickF rfl (not_t (c31)) rfl) (fun _ _ _ _ _ _ _ => rfl) ?_
     refine oS (d := .val (.bool (!(x32 == (x30.2.length : Int))))) (fun _ => Want.plain rfl) (fun _ => rfl) (fun _ _ _ => rfl) (fun _ _ => OpR.pure rfl) (fun _ _ _ _ _ _ _ => rfl) ?_
     refine oS (d := .val (.pointer none)) (fun _ => Want.bool rfl rfl rfl rfl (by rw [(not_t (beq_iff_eq.2 c33))]; rfl)) (fun _ => rfl) (fun _ _ _ => rfl) (fun _ _ => OpR.pure rfl) (fun _ _ _ _ _ _ _ => rfl) ?_
     refine oS (d := .val (.int .i64 x34)) (fun _ => Want.bool rfl rfl rfl rfl (by rw [(not_t (beq_iff_eq.2 c33))]; rfl)) (fun _ => rfl) (fun _ _ _ => rfl) (fun _ _ => OpR.call0 fn23 (arena_Arena_Room_2_c hx34) rfl) (fun _ _ _ _ _ _ _ => rfl) ?_
     refine oS (d := .val (.pointer (some ⟨(blk (vn w5 0)), 0, none⟩))) (fun _ => Want.bool rfl rfl rfl rfl (by rw [(not_t (beq_iff_eq.2 c33))]; rfl)) (fun _ => rfl) (fun _ _ _ => rfl) (fun _ _ => OpR.pure rfl) (fun _ _ _ _ _ _ _ => rfl) ?_
     refine oS (d := .val (.pointer (some ⟨(blk (vn w5 0)), 0, none⟩))) (fun _ => Want.bool rfl rfl rfl rfl (by rw [(not_t (beq_iff_eq.2 c33))]; rfl)) (fun _ => rfl) (fun _ _ _ => rfl) (fun _ _ => OpR.pure rfl) (fun _ _ _ _ _ _ _ => rfl) ?_
     refine oS (d := .val (.pointer (some ⟨(blk (vn w5 0)), 0, none⟩))) (fun _ => Want.bool rfl rfl rfl rfl (by rw [(not_t (beq_iff_eq.2 c33))]; rfl)) (fun _ => rfl) (fun _ _ _ => rfl) (fun _ _ => OpR.pure rfl) (fun _ _ _ _ _ _ _ => rfl) ?_
     refine OpsS.cons' true ?_ (fun _ _ _ _ _ _ _ => rfl) ?_
     · intro D env28 hA
       have e7 : D 7 = true := hA.yes 7 _ rfl rfl
       exact OpS.yes (o0 := [.var (blk (vn w5 0)) [.val (.string (bs x30.2))] 58, .var (blk p25) [.val (.string (bs x24.fText)), .val (.bool x24.fKeep)] 55]) (o1 := fun x => [.var (blk (vn w5 0)) [.val (.string (bs x30.2))] 58, .var (blk p25) [.val (.string (bs x24.fText)), .val (.bool x24.fKeep)] 55]) (d := fun x => .val (.string (bs x30.2))) (Want.bool rfl rfl rfl rfl (by rw [(not_t (beq_iff_eq.2 c33))]; rfl)) (by first | rfl | simp only [e7, cond_true, cond_false, List.cons_append, List.nil_append, List.append_nil]) (fun x => by first | rfl | simp only [ins_self, ins_ne D (show 25 ≠ 7 by decide), upd_self, e7, cond_true, cond_false, List.cons_append, List.nil_append, List.append_nil]) (fun x => rfl) (OpR.loadPtr 0 rfl rfl rfl rfl)
     refine oS (d := .val (.int .i64 (x30.2.length : Int))) (fun _ => Want.bool rfl rfl rfl rfl (by rw [(not_t (beq_iff_eq.2 c33))]; rfl)) (fun _ => rfl) (fun _ _ _ => rfl) (fun _ _ => OpR.cast (OpR.pure rfl) (intE (lenS _))) (fun _ _ _ _ _ _ _ => rfl) ?_
     refine oS (d := .val (.int .i64 (w64 (16384 - (x30.2.length : Int))))) (fun _ => Want.bool rfl rfl rfl rfl (by rw [(not_t (beq_iff_eq.2 c33))]; rfl)) (fun _ => rfl) (fun _ _ _ => rfl) (fun _ _ => OpR.pure rfl) (fun _ _ _ _ _ _ _ => rfl) ?_
     refine oS (d := .val (.bool (!(x34 == (w64 (16384 - (x30.2.length : Int))))))) (fun _ => Want.bool rfl rfl rfl rfl (by rw [(not_t (beq_iff_eq.2 c33))]; rfl)) (fun _ => rfl) (fun _ _ _ => rfl) (fun _ _ => OpR.pure rfl) (fun _ _ _ _ _ _ _ => rfl) ?_
     refine oS (d := .val (.bool (!(x34 == (w64 (16384 - (x30.2.length : Int))))))) (fun _ => Want.plain rfl) (fun _ => rfl) (fun _ _ _ => rfl) (fun _ _ => OpR.pickF rfl (not_t (beq_iff_eq.2 c33)) rfl) (fun _ _ _ _ _ _ _ => rfl) ?_
     exact trivial
   rintro _ ⟨u14, rfl, rfl⟩
   show T X _ _ _
   refine T.seq ?_
   refine T.region ?_
   refine TL.op1 (OpR.pure rfl) rfl ?_
   refine TL.op1 (OpR.pure rfl) rfl ?_
   refine TL.op1 (OpR.pure rfl) rfl ?_
   obtain ⟨x36, hx36, h0⟩ := bnd_some h0
   refine TL.op1 (OpR.call0 fn24 (arena_Arena_Byte_c hx36) rfl) rfl ?_
   refine TL.op1 (OpR.pure rfl) rfl ?_
   refine TL.op1 (OpR.pure rfl) rfl ?_
   refine TL.op1 (OpR.pure rfl) rfl ?_
   refine TL.op1 (OpR.pure rfl) rfl ?_
   refine TL.op1 (OpR.pure rfl) rfl ?_
   refine TL.nil ?_
   show T X _ _ _
   refine T.seq ?_
   refine T.region ?_
   refine TL.op1 (OpR.pure rfl) rfl ?_
   refine TL.op1 (OpR.pure rfl) rfl ?_
   refine TL.op1 (OpR.pure rfl) rfl ?_
   refine TL.op1 (OpR.build rfl rfl rfl rfl rfl) rfl ?_
   obtain ⟨x37, hx37, h0⟩ := bnd_some h0
   refine TL.op1 (OpR.call [0] fn25 (ref03_Arena_Bytes_c hx37) rfl rfl rfl (fun _ => rfl)) rfl ?_
   refine TL.op1 (OpR.pure rfl) rfl ?_
   refine TL.nil ?_
   show T X _ _ _
   refine T.seq ?_
   obtain ⟨t38, ht38, h0⟩ := bnd_some h0
   refine T.cutC (fun S' => S' = ⟨[(6, .val (.bool t38))], [], 141⟩) (fun _ h => h) ?_ ?_
   rotate_left
   · rintro _ rfl
     show T X _ _ _
     refine T.ret ?_
     obtain rfl := Option.some.inj h0
     exact PostG.retP (ks := []) (Gst.only [6] rfl) undef (ResL.cons (ResV.tmp rfl) ResL.nil) rfl rfl rfl rfl
   obtain ⟨x40, hx40, ht38⟩ := bnd_some ht38
   obtain ⟨x41, hx41, ht38⟩ := bnd_some ht38
   obtain ⟨x42, hx42, ht38⟩ := bnd_some ht38
   rcases ite_some ht38 with ⟨c43, ht38⟩ | ⟨c43, ht38⟩
   rotate_left
   · refine T.drawQ drawsX [.val (.pointer none), .agg [.val (.int .i64 a2.fAt), .val (.int .i64 a2.fN)], .val (.bool x40), .val (.pointer (some ⟨(blk (vn w5 0)), 0, none⟩)), .agg [.val (.int .i64 a2.fAt), .val (.int .i64 a2.fN)], .agg [.val (.int .i64 x41.fAt), .val (.int .i64 x41.fN)], .val (.bool x42), .val (.bool (x40 == x42)), .val (.bool (x40 == x42)), .tup [], .tup [], .tup [], .tup [], .tup [], .tup [], .tup [], .tup [], .tup [], .val (.bool false), .val (.bool false), .tup [], .tup [], .tup [], .tup [], .tup [], .val (.bool false), .val (.bool false), .tup [], .tup [], .tup [], .tup [], .tup [], .tup [], .tup [], .tup [], .tup [], .tup [], .tup [], .tup [], .tup [], .tup [], .tup [], .tup [], .val (.bool false), .val (.bool false), .tup [], .val (.bool false), .val (.bool false)] [5, 6, 7, 9, 13, 14, 15, 82, 83, 84, 85, 86, 87, 88, 89, 90, 91, 92, 93, 94, 95, 96, 97, 98, 99, 100, 101, 102, 103, 104, 105, 106, 107, 108, 109, 110, 111, 112, 113, 114, 115, 116, 117, 118, 119, 120, 121, 122, 123, 124, 125, 126, 127, 128, 129, 130, 131, 132, 133, 134, 135, 136, 137, 138, 139, 140] (by decide +kernel) rfl ?_ rfl ?_
     rotate_left
     · obtain rfl := Option.some.inj ht38
       exact ⟨_, Gst.trans (Gst.only [6] rfl) (Gst.pick [] rfl rfl), rfl⟩
     refine OpsQ.yes (Want.plain rfl) rfl (OpR.pure rfl) ?_
     refine OpsQ.yes (Want.plain rfl) rfl (OpR.pure rfl) ?_
     refine OpsQ.yes (Want.plain rfl) rfl (OpR.call0 fn26 (arena_Arena_Right_2_c hx40) rfl) ?_
     refine OpsQ.yes (Want.plain rfl) rfl (OpR.pure rfl) ?_
     refine OpsQ.yes (Want.plain rfl) rfl (OpR.pure rfl) ?_
     refine OpsQ.yes (Want.plain rfl) rfl (OpR.call0 fn28 (law03_ours_c hx41) rfl) ?_
     refine OpsQ.yes (Want.plain rfl) rfl (OpR.call [0] fn27 (ref03_Arena_Right_c hx42) rfl rfl rfl (fun _ => rfl)) ?_
     refine OpsQ.yes (Want.plain rfl) rfl (OpR.eqBool rfl rfl rfl rfl) ?_
     refine OpsQ.yes (Want.plain rfl) rfl (OpR.pure rfl) ?_
     refine OpsQ.no (Want.bool rfl rfl rfl rfl (by rw [(eq_false_of_ne_true c43)]; rfl)) rfl ?_
     refine OpsQ.no (Want.bool rfl rfl rfl rfl (by rw [(eq_false_of_ne_true c43)]; rfl)) rfl ?_
     refine OpsQ.no (Want.bool rfl rfl rfl rfl (by rw [(eq_false_of_ne_true c43)]; rfl)) rfl ?_
     refine OpsQ.no (Want.bool rfl rfl rfl rfl (by rw [(eq_false_of_ne_true c43)]; rfl)) rfl ?_
     refine OpsQ.no (Want.bool rfl rfl rfl rfl (by rw [(eq_false_of_ne_true c43)]; rfl)) rfl ?_
     refine OpsQ.no (Want.bool rfl rfl rfl rfl (by rw [(eq_false_of_ne_true c43)]; rfl)) rfl ?_
     refine OpsQ.no (Want.bool rfl rfl rfl rfl (by rw [(eq_false_of_ne_true c43)]; rfl)) rfl ?_
     refine OpsQ.no (Want.bool rfl rfl rfl rfl (by rw [(eq_false_of_ne_true c43)]; rfl)) rfl ?_
     refine OpsQ.no (Want.bool rfl rfl rfl rfl (by rw [(eq_false_of_ne_true c43)]; rfl)) rfl ?_
     refine OpsQ.yes (Want.plain rfl) rfl (OpR.pickF rfl (eq_false_of_ne_true c43) rfl) ?_
     refine OpsQ.yes (Want.plain rfl) rfl (OpR.pure rfl) ?_
     refine OpsQ.no (Want.bool rfl rfl rfl rfl rfl) rfl ?_
     refine OpsQ.no (Want.bool rfl rfl rfl rfl rfl) rfl ?_
     refine OpsQ.no (Want.bool rfl rfl rfl rfl rfl) rfl ?_
     refine OpsQ.no (Want.bool rfl rfl rfl rfl rfl) rfl ?_
     refine OpsQ.no (Want.bool rfl rfl rfl rfl rfl) rfl ?_
     refine OpsQ.yes (Want.plain rfl) rfl (OpR.pickF rfl rfl rfl) ?_
     refine OpsQ.yes (Want.plain rfl) rfl (OpR.pure rfl) ?_
     refine OpsQ.no (Want.bool rfl rfl rfl rfl rfl) rfl ?_
     refine OpsQ.no (Want.bool rfl rfl rfl rfl rfl) rfl ?_
     refine OpsQ.no (Want.bool rfl rfl rfl rfl rfl) rfl ?_
     refine OpsQ.no (Want.unit rfl rfl rfl rfl) rfl ?_
     refine OpsQ.no (Want.unit rfl rfl rfl rfl) rfl ?_
     refine OpsQ.no (Want.bool rfl rfl rfl rfl rfl) rfl ?_
     refine OpsQ.no (Want.bool rfl rfl rfl rfl rfl) rfl ?_
     refine OpsQ.no (Want.unit rfl rfl rfl rfl) rfl ?_
     refine OpsQ.no (Want.unit rfl rfl rfl rfl) rfl ?_
     refine OpsQ.no (Want.unit rfl rfl rfl rfl) rfl ?_
     refine OpsQ.no (Want.unit rfl rfl rfl rfl) rfl ?_
     refine OpsQ.no (Want.unit rfl rfl rfl rfl) rfl ?_
     refine OpsQ.no (Want.unit rfl rfl rfl rfl) rfl ?_
     refine OpsQ.no (Want.unit rfl rfl rfl rfl) rfl ?_
     refine OpsQ.no (Want.unit rfl rfl rfl rfl) rfl ?_
     refine OpsQ.no (Want.bool rfl rfl rfl rfl rfl) rfl ?_
     refine OpsQ.yes (Want.plain rfl) rfl (OpR.pickF rfl rfl rfl) ?_
     refine OpsQ.yes (Want.plain rfl) rfl (OpR.pure rfl) ?_
     refine OpsQ.no (Want.bool rfl rfl rfl rfl rfl) rfl ?_
     refine OpsQ.yes (Want.plain rfl) rfl (OpR.pickF rfl rfl rfl) ?_
     refine OpsQ.yes (Want.plain rfl) rfl (OpR.pure rfl) ?_
     exact OpsQ.nil
   obtain ⟨x44, hx44, ht38⟩ := bnd_some ht38
   obtain ⟨x45, hx45, ht38⟩ := bnd_some ht38
   obtain ⟨x46, hx46, ht38⟩ := bnd_some ht38
   rcases ite_some ht38 with ⟨c47, ht38⟩ | ⟨c47, ht38⟩
   rotate_left
   · refine T.drawS drawsX (fun env39 => [.val (.pointer none), .agg [.val (.int .i64 a2.fAt), .val (.int .i64 a2.fN)], .val (.bool x40), .val (.pointer (some ⟨(blk (vn w5 0)), 0, none⟩)), .agg [.val (.int .i64 a2.fAt), .val (.int .i64 a2.fN)], .agg [.val (.int .i64 x41.fAt), .val (.int .i64 x41.fN)], .val (.bool x42), .val (.bool (x40 == x42)), .val (.bool (x40 == x42)), .val (.pointer none), .agg [.val (.int .i64 a2.fAt), .val (.int .i64 a2.fN)], .val (vn (env39 11) 0), .val (.string (bs x44)), .val (.pointer (some ⟨(blk (vn w5 0)), 0, none⟩)), .agg [.val (.int .i64 a2.fAt), .val (.int .i64 a2.fN)], .agg [.val (.int .i64 x45.fAt), .val (.int .i64 x45.fN)], .val (.string (bs x46)), .val (.bool (x44 == x46)), .val (.bool (x44 == x46)), .val (.bool (x44 == x46)), .tup [], .tup [], .tup [], .tup [], .tup [], .val (.bool false), .val (.bool false), .tup [], .tup [], .tup [], .tup [], .tup [], .tup [], .tup [], .tup [], .tup [], .tup [], .tup [], .tup [], .tup [], .tup [], .tup [], .tup [], .val (.bool false), .val (.bool false), .tup [], .val (.bool false), .val (.bool false)]) (fun D env39 => [.var (blk (vn w5 0)) [.val (.string (bs u14))] 58] ++ bif D 11 then [.row (vn (env39 11) 0) (List.map byteD x44) 1 5] else []) [0, 0, 3, 0, 0, 23, 63, 127, 255, 511, 511, 2047, 4095, 511, 511, 20479, 61439, 131071, 262143, 524287, 1048575, 1048575, 3145727, 7340031, 16777215, 33554431, 67108863, 134217727, 268435455, 536870911, 1073741823, 2147483647, 4294967295, 8589934591, 17179869183, 34359738367, 68719476735, 137438953471, 274877906943, 68719476735, 1099511627775, 2199023255551, 4398046511103, 8796093022207, 17592186044415, 35184372088831, 70368744177663, 140737488355327] [5, 6, 7, 9, 13, 14, 15, 82, 83, 84, 85, 86, 87, 88, 89, 90, 91, 92, 93, 94, 95, 96, 97, 98, 99, 100, 101, 102, 103, 104, 105, 106, 107, 108, 109, 110, 111, 112, 113, 114, 115, 116, 117, 118, 119, 120, 121, 122, 123, 124, 125, 126, 127, 128, 129, 130, 131, 132, 133, 134, 135, 136, 137, 138, 139, 140] (fun env39 => [.var (blk (vn w5 0)) [.val (.string (bs u14))] 58, .row (vn (env39 11) 0) (List.map byteD x44) 1 5]) (by decide +kernel) (by decide +kernel) (fun _ => rfl) (fun _ => rfl) ?_ (fun _ => rfl) (fun _ => rfl) ?_
     rotate_left
     · intro env39
       obtain rfl := Option.some.inj ht38
       exact ⟨_, Gst.trans (Gst.only [6] rfl) (Gst.pick [] rfl rfl), rfl⟩
     refine oS (d := .val (.pointer none)) (fun _ => Want.plain rfl) (fun _ => rfl) (fun _ _ _ => rfl) (fun _ _ => OpR.pure rfl) (fun _ _ _ _ _ _ _ => rfl) ?_
     refine oS (d := .agg [.val (.int .i64 a2.fAt), .val (.int .i64 a2.fN)]) (fun _ => Want.plain rfl) (fun _ => rfl) (fun _ _ _ => rfl) (fun _ _ => OpR.pure rfl) (fun _ _ _ _ _ _ _ => rfl) ?_
     refine oS (d := .val (.bool x40)) (fun _ => Want.plain rfl) (fun _ => rfl) (fun _ _ _ => rfl) (fun _ _ => OpR.call0 fn26 (arena_Arena_Right_2_c hx40) rfl) (fun _ _ _ _ _ _ _ => rfl) ?_
     refine oS (d := .val (.pointer (some ⟨(blk (vn w5 0)), 0, none⟩))) (fun _ => Want.plain rfl) (fun _ => rfl) (fun _ _ _ => rfl) (fun _ _ => OpR.pure rfl) (fun _ _ _ _ _ _ _ => rfl) ?_
     refine oS (d := .agg [.val (.int .i64 a2.fAt), .val (.int .i64 a2.fN)]) (fun _ => Want.plain rfl) (fun _ => rfl) (fun _ _ _ => rfl) (fun _ _ => OpR.pure rfl) (fun _ _ _ _ _ _ _ => rfl) ?_
     refine oS (d := .agg [.val (.int .i64 x41.fAt), .val (.int .i64 x41.fN)]) (fun _ => Want.plain rfl) (fun _ => rfl) (fun _ _ _ => rfl) (fun _ _ => OpR.call0 fn28 (law03_ours_c hx41) rfl) (fun _ _ _ _ _ _ _ => rfl) ?_
     refine OpsS.cons' true ?_ (fun _ _ _ _ _ _ _ => rfl) ?_
     · intro D env39 hA
       have e11 : D 11 = false := hA.no 11 _ rfl rfl
       exact OpS.yes (o0 := [.var (blk (vn w5 0)) [.val (.string (bs u14))] 58]) (o1 := fun x => [.var (blk (vn w5 0)) [.val (.string (bs u14))] 58]) (d := fun x => .val (.bool x42)) (Want.plain rfl) (by first | rfl | simp only [e11, cond_true, cond_false, List.cons_append, List.nil_append, List.append_nil]) (fun x => by first | rfl | simp only [ins_self, ins_ne D (show 6 ≠ 11 by decide), upd_self, upd_ne env39 x (show 6 ≠ 11 by decide), e11, cond_true, cond_false, List.cons_append, List.nil_append, List.append_nil]) (fun x => rfl) (OpR.call [0] fn27 (ref03_Arena_Right_c hx42) rfl rfl rfl (fun _ => rfl))
     refine oS (d := .val (.bool (x40 == x42))) (fun _ => Want.plain rfl) (fun _ => rfl) (fun _ _ _ => rfl) (fun _ _ => OpR.eqBool rfl rfl rfl rfl) (fun _ _ _ _ _ _ _ => rfl) ?_
     refine oS (d := .val (.bool (x40 == x42))) (fun _ => Want.plain rfl) (fun _ => rfl) (fun _ _ _ => rfl) (fun _ _ => OpR.pure rfl) (fun _ _ _ _ _ _ _ => rfl) ?_
     refine oS (d := .val (.pointer none)) (fun _ => Want.bool rfl rfl rfl rfl (by rw [(c43)]; rfl)) (fun _ => rfl) (fun _ _ _ => rfl) (fun _ _ => OpR.pure rfl) (fun _ _ _ _ _ _ _ => rfl) ?_
     refine oS (d := .agg [.val (.int .i64 a2.fAt), .val (.int .i64 a2.fN)]) (fun _ => Want.bool rfl rfl rfl rfl (by rw [(c43)]; rfl)) (fun _ => rfl) (fun _ _ _ => rfl) (fun _ _ => OpR.pure rfl) (fun _ _ _ _ _ _ _ => rfl) ?_
     refine OpsS.cons' true ?_ (fun D hA env39 x j hj hD => match j, hj, hD with | 0, _, _ => rfl | 1, _, _ => rfl | 2, _, _ => rfl | 3, _, _ => rfl | 4, _, _ => rfl | 5, _, _ => rfl | 6, _, _ => rfl | 7, _, _ => rfl | 8, _, _ => rfl | 9, _, _ => rfl | 10, _, _ => rfl | 11, hj, _ => absurd rfl hj | 12, _, _ => rfl | 13, _, _ => rfl | 14, _, _ => rfl | 15, _, _ => rfl | 16, _, _ => rfl | 17, _, _ => rfl | 18, _, _ => rfl | 19, _, _ => rfl | 20, _, _ => rfl | 21, _, _ => rfl | 22, _, _ => rfl | 23, _, _ => rfl | 24, _, _ => rfl | 25, _, _ => rfl | 26, _, _ => rfl | 27, _, _ => rfl | 28, _, _ => rfl | 29, _, _ => rfl | 30, _, _ => rfl | 31, _, _ => rfl | 32, _, _ => rfl | 33, _, _ => rfl | 34, _, _ => rfl | 35, _, _ => rfl | 36, _, _ => rfl | 37, _, _ => rfl | 38, _, _ => rfl | 39, _, _ => rfl | 40, _, _ => rfl | 41, _, _ => rfl | 42, _, _ => rfl | 43, _, _ => rfl | 44, _, _ => rfl | 45, _, _ => rfl | 46, _, _ => rfl | 47, _, _ => rfl | _ + 48, _, _ => rfl) ?_
     · intro D env39 hA
       exact OpS.yes (o0 := [.var (blk (vn w5 0)) [.val (.string (bs u14))] 58]) (o1 := fun x => [.var (blk (vn w5 0)) [.val (.string (bs u14))] 58, .row (vn x 0) (List.map byteD x44) 1 5]) (d := fun x => .val (vn x 0)) (Want.bool rfl rfl rfl rfl (by rw [(c43)]; rfl)) (by first | rfl | simp only [hA.me, cond_true, cond_false, List.cons_append, List.nil_append, List.append_nil]) (fun x => by first | rfl | simp only [ins_self, upd_self, hA.me, cond_true, cond_false, List.cons_append, List.nil_append, List.append_nil]) (fun x => rfl) (OpR.call [] fn18 (arena_Arena_Bytes_2_c hx44) rfl rfl rfl (fun _ => rfl))
     refine OpsS.cons' true ?_ (fun _ _ _ _ _ _ _ => rfl) ?_
     · intro D env39 hA
       have e11 : D 11 = true := hA.yes 11 _ rfl rfl
       exact OpS.yes (o0 := [.var (blk (vn w5 0)) [.val (.string (bs u14))] 58, .row (vn (env39 11) 0) (List.map byteD x44) 1 5]) (o1 := fun x => [.var (blk (vn w5 0)) [.val (.string (bs u14))] 58, .row (vn (env39 11) 0) (List.map byteD x44) 1 5]) (d := fun x => .val (.string (bs x44))) (Want.bool rfl rfl rfl rfl (by rw [(c43)]; rfl)) (by first | rfl | simp only [e11, cond_true, cond_false, List.cons_append, List.nil_append, List.append_nil]) (fun x => by first | rfl | simp only [ins_self, ins_ne D (show 12 ≠ 11 by decide), upd_self, upd_ne env39 x (show 12 ≠ 11 by decide), e11, cond_true, cond_false, List.cons_append, List.nil_append, List.append_nil]) (fun x => rfl) (OpR.toStrF (l := x44) (Src.row 1 rfl rfl) rfl rfl rfl rfl rfl rfl)
     refine oS (d := .val (.pointer (some ⟨(blk (vn w5 0)), 0, none⟩))) (fun _ => Want.bool rfl rfl rfl rfl (by rw [(c43)]; rfl)) (fun _ => rfl) (fun _ _ _ => rfl) (fun _ _ => OpR.pure rfl) (fun _ _ _ _ _ _ _ => rfl) ?_
     refine oS (d := .agg [.val (.int .i64 a2.fAt), .val (.int .i64 a2.fN)]) (fun _ => Want.bool rfl rfl rfl rfl (by rw [(c43)]; rfl)) (fun _ => rfl) (fun _ _ _ => rfl) (fun _ _ => OpR.pure rfl) (fun _ _ _ _ _ _ _ => rfl) ?_
     refine oS (d := .agg [.val (.int .i64 x45.fAt), .val (.int .i64 x45.fN)]) (fun _ => Want.bool rfl rfl rfl rfl (by rw [(c43)]; rfl)) (fun _ => rfl) (fun _ _ _ => rfl) (fun _ _ => OpR.call0 fn28 (law03_ours_c hx45) rfl) (fun _ _ _ _ _ _ _ => rfl) ?_
     refine OpsS.cons' true ?_ (fun _ _ _ _ _ _ _ => rfl) ?_
     · intro D env39 hA
       have e11 : D 11 = true := hA.yes 11 _ rfl rfl
       exact OpS.yes (o0 := [.var (blk (vn w5 0)) [.val (.string (bs u14))] 58, .row (vn (env39 11) 0) (List.map byteD x44) 1 5]) (o1 := fun x => [.var (blk (vn w5 0)) [.val (.string (bs u14))] 58, .row (vn (env39 11) 0) (List.map byteD x44) 1 5]) (d := fun x => .val (.string (bs x46))) (Want.bool rfl rfl rfl rfl (by rw [(c43)]; rfl)) (by first | rfl | simp only [e11, cond_true, cond_false, List.cons_append, List.nil_append, List.append_nil]) (fun x => by first | rfl | simp only [ins_self, ins_ne D (show 16 ≠ 11 by decide), upd_self, upd_ne env39 x (show 16 ≠ 11 by decide), e11, cond_true, cond_false, List.cons_append, List.nil_append, List.append_nil]) (fun x => rfl) (OpR.call [0] fn25 (ref03_Arena_Bytes_c hx46) rfl rfl rfl (fun _ => rfl))
     refine oS (d := .val (.bool (x44 == x46))) (fun _ => Want.bool rfl rfl rfl rfl (by rw [(c43)]; rfl)) (fun _ => rfl) (fun _ _ _ => rfl) (fun _ _ => OpR.cast (OpR.pure rfl) (boolE (strEq _ _))) (fun _ _ _ _ _ _ _ => rfl) ?_
     refine oS (d := .val (.bool (x44 == x46))) (fun _ => Want.plain rfl) (fun _ => rfl) (fun _ _ _ => rfl) (fun _ _ => OpR.pickT rfl (c43) rfl) (fun _ _ _ _ _ _ _ => rfl) ?_
     refine oS (d := .val (.bool (x44 == x46))) (fun _ => Want.plain rfl) (fun _ => rfl) (fun _ _ _ => rfl) (fun _ _ => OpR.pure rfl) (fun _ _ _ _ _ _ _ => rfl) ?_
     refine OpsS.cons' false (fun D env39 hA => OpS.no (Want.bool rfl rfl rfl rfl (by rw [(beq_eq_false_iff_ne.2 c47)]; rfl)) rfl rfl) (fun _ _ _ _ _ _ _ => rfl) ?_
     refine OpsS.cons' false (fun D env39 hA => OpS.no (Want.bool rfl rfl rfl rfl (by rw [(beq_eq_false_iff_ne.2 c47)]; rfl)) rfl rfl) (fun _ _ _ _ _ _ _ => rfl) ?_
     refine OpsS.cons' false (fun D env39 hA => OpS.no (Want.bool rfl rfl rfl rfl (by rw [(beq_eq_false_iff_ne.2 c47)]; rfl)) rfl rfl) (fun _ _ _ _ _ _ _ => rfl) ?_
     refine OpsS.cons' false (fun D env39 hA => OpS.no (Want.bool rfl rfl rfl rfl (by rw [(beq_eq_false_iff_ne.2 c47)]; rfl)) rfl rfl) (fun _ _ _ _ _ _ _ => rfl) ?_
     refine OpsS.cons' false (fun D env39 hA => OpS.no (Want.bool rfl rfl rfl rfl (by rw [(beq_eq_false_iff_ne.2 c47)]; rfl)) rfl rfl) (fun _ _ _ _ _ _ _ => rfl) ?_
     refine oS (d := .val (.bool false)) (fun _ => Want.plain rfl) (fun _ => rfl) (fun _ _ _ => rfl) (fun _ _ => OpR.pickF rfl (beq_eq_false_iff_ne.2 c47) rfl) (fun _ _ _ _ _ _ _ => rfl) ?_
     refine oS (d := .val (.bool false)) (fun _ => Want.plain rfl) (fun _ => rfl) (fun _ _ _ => rfl) (fun _ _ => OpR.pure rfl) (fun _ _ _ _ _ _ _ => rfl) ?_
     refine OpsS.cons' false (fun D env39 hA => OpS.no (Want.bool rfl rfl rfl rfl rfl) rfl rfl) (fun _ _ _ _ _ _ _ => rfl) ?_
     refine OpsS.cons' false (fun D env39 hA => OpS.no (Want.bool rfl rfl rfl rfl rfl) rfl rfl) (fun _ _ _ _ _ _ _ => rfl) ?_
     refine OpsS.cons' false (fun D env39 hA => OpS.no (Want.bool rfl rfl rfl rfl rfl) rfl rfl) (fun _ _ _ _ _ _ _ => rfl) ?_
     refine OpsS.cons' false (fun D env39 hA => OpS.no (Want.unit rfl rfl rfl rfl) rfl rfl) (fun _ _ _ _ _ _ _ => rfl) ?_
     refine OpsS.cons' false (fun D env39 hA => OpS.no (Want.unit rfl rfl rfl rfl) rfl rfl) (fun _ _ _ _ _ _ _ => rfl) ?_
     refine OpsS.cons' false (fun D env39 hA => OpS.no (Want.bool rfl rfl rfl rfl rfl) rfl rfl) (fun _ _ _ _ _ _ _ => rfl) ?_
     refine OpsS.cons' false (fun D env39 hA => OpS.no (Want.bool rfl rfl rfl rfl rfl) rfl rfl) (fun _ _ _ _ _ _ _ => rfl) ?_
     refine OpsS.cons' false (fun D env39 hA => OpS.no (Want.unit rfl rfl rfl rfl) rfl rfl) (fun _ _ _ _ _ _ _ => rfl) ?_
     refine OpsS.cons' false (fun D env39 hA => OpS.no (Want.unit rfl rfl rfl rfl) rfl rfl) (fun _ _ _ _ _ _ _ => rfl) ?_
     refine OpsS.cons' false (fun D env39 hA => OpS.no (Want.unit rfl rfl rfl rfl) rfl rfl) (fun _ _ _ _ _ _ _ => rfl) ?_
     refine OpsS.cons' false (fun D env39 hA => OpS.no (Want.unit rfl rfl rfl rfl) rfl rfl) (fun _ _ _ _ _ _ _ => rfl) ?_
     refine OpsS.cons' false (fun D env39 hA => OpS.no (Want.unit rfl rfl rfl rfl) rfl rfl) (fun _ _ _ _ _ _ _ => rfl) ?_
     refine OpsS.cons' false (fun D env39 hA => OpS.no (Want.unit rfl rfl rfl rfl) rfl rfl) (fun _ _ _ _ _ _ _ => rfl) ?_
     refine OpsS.cons' false (fun D env39 hA => OpS.no (Want.unit rfl rfl rfl rfl) rfl rfl) (fun _ _ _ _ _ _ _ => rfl) ?_
     refine OpsS.cons' false (fun D env39 hA => OpS.no (Want.unit rfl rfl rfl rfl) rfl rfl) (fun _ _ _ _ _ _ _ => rfl) ?_
     refine OpsS.cons' false (fun D env39 hA => OpS.no (Want.bool rfl rfl rfl rfl rfl) rfl rfl) (fun _ _ _ _ _ _ _ => rfl) ?_
     refine oS (d := .val (.bool false)) (fun _ => Want.plain rfl) (fun _ => rfl) (fun _ _ _ => rfl) (fun _ _ => OpR.pickF rfl rfl rfl) (fun _ _ _ _ _ _ _ => rfl) ?_
     refine oS (d := .val (.bool false)) (fun _ => Want.plain rfl) (fun _ => rfl) (fun _ _ _ => rfl) (fun _ _ => OpR.pure rfl) (fun _ _ _ _ _ _ _ => rfl) ?_
     refine OpsS.cons' false (fun D env39 hA => OpS.no (Want.bool rfl rfl rfl rfl rfl) rfl rfl) (fun _ _ _ _ _ _ _ => rfl) ?_
     refine oS (d := .val (.bool false)) (fun _ => Want.plain rfl) (fun _ => rfl) (fun _ _ _ => rfl) (fun _ _ => OpR.pickF rfl rfl rfl) (fun _ _ _ _ _ _ _ => rfl) ?_
     refine oS (d := .val (.bool false)) (fun _ => Want.plain rfl) (fun _ => rfl) (fun _ _ _ => rfl) (fun _ _ => OpR.pure rfl) (fun _ _ _ _ _ _ _ => rfl) ?_
     exact trivial
   rcases ite_some ht38 with ⟨c48, ht38⟩ | ⟨c48, ht38⟩
   rotate_left
   · refine T.drawS drawsX (fun env39 => [.val (.pointer none), .agg [.val (.int .i64 a2.fAt), .val (.int .i64 a2.fN)], .val (.bool x40), .val (.pointer (some ⟨(blk (vn w5 0)), 0, none⟩)), .agg [.val (.int .i64 a2.fAt), .val (.int .i64 a2.fN)], .agg [.val (.int .i64 x41.fAt), .val (.int .i64 x41.fN)], .val (.bool x42), .val (.bool (x40 == x42)), .val (.bool (x40 == x42)), .val (.pointer none), .agg [.val (.int .i64 a2.fAt), .val (.int .i64 a2.fN)], .val (vn (env39 11) 0), .val (.string (bs x44)), .val (.pointer (some ⟨(blk (vn w5 0)), 0, none⟩)), .agg [.val (.int .i64 a2.fAt), .val (.int .i64 a2.fN)], .agg [.val (.int .i64 x45.fAt), .val (.int .i64 x45.fN)], .val (.string (bs x46)), .val (.bool (x44 == x46)), .val (.bool (x44 == x46)), .val (.bool (x44 == x46)), .val (.bool x36.2), .val (.string (bs x37)), .val (.int .i64 (x37.length : Int)), .val (.bool ((x37.length : Int) == 1)), .val (.bool (x36.2 == ((x37.length : Int) == 1))), .val (.bool (x36.2 == ((x37.length : Int) == 1))), .val (.bool (x36.2 == ((x37.length : Int) == 1))), .tup [], .tup [], .tup [], .tup [], .tup [], .tup [], .tup [], .tup [], .tup [], .tup [], .tup [], .tup [], .tup [], .tup [], .tup [], .tup [], .val (.bool false), .val (.bool false), .tup [], .val (.bool false), .val (.bool false)]) (fun D env39 => [.var (blk (vn w5 0)) [.val (.string (bs u14))] 58] ++ bif D 11 then [.row (vn (env39 11) 0) (List.map byteD x44) 1 5] else []) [0, 0, 3, 0, 0, 23, 63, 127, 255, 511, 511, 2047, 4095, 511, 511, 20479, 61439, 131071, 262143, 524287, 1048575, 1048575, 3145727, 7340031, 16777215, 33554431, 67108863, 134217727, 268435455, 536870911, 1073741823, 2147483647, 4294967295, 8589934591, 17179869183, 34359738367, 68719476735, 137438953471, 274877906943, 68719476735, 1099511627775, 2199023255551, 4398046511103, 8796093022207, 17592186044415, 35184372088831, 70368744177663, 140737488355327] [5, 6, 7, 9, 13, 14, 15, 82, 83, 84, 85, 86, 87, 88, 89, 90, 91, 92, 93, 94, 95, 96, 97, 98, 99, 100, 101, 102, 103, 104, 105, 106, 107, 108, 109, 110, 111, 112, 113, 114, 115, 116, 117, 118, 119, 120, 121, 122, 123, 124, 125, 126, 127, 128, 129, 130, 131, 132, 133, 134, 135, 136, 137, 138, 139, 140] (fun env39 => [.var (blk (vn w5 0)) [.val (.string (bs u14))] 58, .row (vn (env39 11) 0) (List.map byteD x44) 1 5]) (by decide +kernel) (by decide +kernel) (fun _ => rfl) (fun _ => rfl) ?_ (fun _ => rfl) (fun _ => rfl) ?_
     rotate_left
     · intro env39
       obtain rfl := Option.some.inj ht38
       exact ⟨_, Gst.trans (Gst.only [6] rfl) (Gst.pick [] rfl rfl), rfl⟩
     refine oS (d := .val (.pointer none)) (fun _ => Want.plain rfl) (fun _ => rfl) (fun _ _ _ => rfl) (fun _ _ => OpR.pure rfl) (fun _ _ _ _ _ _ _ => rfl) ?_
     refine oS (d := .agg [.val (.int .i64 a2.fAt), .val (.int .i64 a2.fN)]) (fun _ => Want.plain rfl) (fun _ => rfl) (fun _ _ _ => rfl) (fun _ _ => OpR.pure rfl) (fun _ _ _ _ _ _ _ => rfl) ?_
     refine oS (d := .val (.bool x40)) (fun _ => Want.plain rfl) (fun _ => rfl) (fun _ _ _ => rfl) (fun _ _ => OpR.call0 fn26 (arena_Arena_Right_2_c hx40) rfl) (fun _ _ _ _ _ _ _ => rfl) ?_
     refine oS (d := .val (.pointer (some ⟨(blk (vn w5 0)), 0, none⟩))) (fun _ => Want.plain rfl) (fun _ => rfl) (fun _ _ _ => rfl) (fun _ _ => OpR.pure rfl) (fun _ _ _ _ _ _ _ => rfl) ?_
     refine oS (d := .agg [.val (.int .i64 a2.fAt), .val (.int .i64 a2.fN)]) (fun _ => Want.plain rfl) (fun _ => rfl) (fun _ _ _ => rfl) (fun _ _ => OpR.pure rfl) (fun _ _ _ _ _ _ _ => rfl) ?_
     refine oS (d := .agg [.val (.int .i64 x41.fAt), .val (.int .i64 x41.fN)]) (fun _ => Want.plain rfl) (fun _ => rfl) (fun _ _ _ => rfl) (fun _ _ => OpR.call0 fn28 (law03_ours_c hx41) rfl) (fun _ _ _ _ _ _ _ => rfl) ?_
     refine OpsS.cons' true ?_ (fun _ _ _ _ _ _ _ => rfl) ?_
     · intro D env39 hA
       have e11 : D 11 = false := hA.no 11 _ rfl rfl
       exact OpS.yes (o0 := [.var (blk (vn w5 0)) [.val (.string (bs u14))] 58]) (o1 := fun x => [.var (blk (vn w5 0)) [.val (.string (bs u14))] 58]) (d := fun x => .val (.bool x42)) (Want.plain rfl) (by first | rfl | simp only [e11, cond_true, cond_false, List.cons_append, List.nil_append, List.append_nil]) (fun x => by first | rfl | simp only [ins_self, ins_ne D (show 6 ≠ 11 by decide), upd_self, upd_ne env39 x (show 6 ≠ 11 by decide), e11, cond_true, cond_false, List.cons_append, List.nil_append, List.append_nil]) (fun x => rfl) (OpR.call [0] fn27 (ref03_Arena_Right_c hx42) rfl rfl rfl (fun _ => rfl))
     refine oS (d := .val (.bool (x40 == x42))) (fun _ => Want.plain rfl) (fun _ => rfl) (fun _ _ _ => rfl) (fun _ _ => OpR.eqBool rfl rfl rfl rfl) (fun _ _ _ _ _ _ _ => rfl) ?_
     refine oS (d := .val (.bool (x40 == x42))) (fun _ => Want.plain rfl) (fun _ => rfl) (fun _ _ _ => rfl) (fun _ _ => OpR.pure rfl) (fun _ _ _ _ _ _ _ => rfl) ?_
     refine oS (d := .val (.pointer none)) (fun _ => Want.bool rfl rfl rfl rfl (by rw [(c43)]; rfl)) (fun _ => rfl) (fun _ _ _ => rfl) (fun _ _ => OpR.pure rfl) (fun _ _ _ _ _ _ _ => rfl) ?_
     refine oS (d := .agg [.val (.int .i64 a2.fAt), .val (.int .i64 a2.fN)]) (fun _ => Want.bool rfl rfl rfl rfl (by rw [(c43)]; rfl)) (fun _ => rfl) (fun _ _ _ => rfl) (fun _ _ => OpR.pure rfl) (fun _ _ _ _ _ _ _ => rfl) ?_
     refine OpsS.cons' true ?_ (fun D hA env39 x j hj hD => match j, hj, hD with | 0, _, _ => rfl | 1, _, _ => rfl | 2, _, _ => rfl | 3, _, _ => rfl | 4, _, _ => rfl | 5, _, _ => rfl | 6, _, _ => rfl | 7, _, _ => rfl | 8, _, _ => rfl | 9, _, _ => rfl | 10, _, _ => rfl | 11, hj, _ => absurd rfl hj | 12, _, _ => rfl | 13, _, _ => rfl | 14, _, _ => rfl | 15, _, _ => rfl | 16, _, _ => rfl | 17, _, _ => rfl | 18, _, _ => rfl | 19, _, _ => rfl | 20, _, _ => rfl | 21, _, _ => rfl | 22, _, _ => rfl | 23, _, _ => rfl | 24, _, _ => rfl | 25, _, _ => rfl | 26, _, _ => rfl | 27, _, _ => rfl | 28, _, _ => rfl | 29, _, _ => rfl | 30, _, _ => rfl | 31, _, _ => rfl | 32, _, _ => rfl | 33, _, _ => rfl | 34, _, _ => rfl | 35, _, _ => rfl | 36, _, _ => rfl | 37, _, _ => rfl | 38, _, _ => rfl | 39, _, _ => rfl | 40, _, _ => rfl | 41, _, _ => rfl | 42, _, _ => rfl | 43, _, _ => rfl | 44, _, _ => rfl | 45, _, _ => rfl | 46, _, _ => rfl | 47, _, _ => rfl | _ + 48, _, _ => rfl) ?_
     · intro D env39 hA
       exact OpS.yes (o0 := [.var (blk (vn w5 0)) [.val (.string (bs u14))] 58]) (o1 := fun x => [.var (blk (vn w5 0)) [.val (.string (bs u14))] 58, .row (vn x 0) (List.map byteD x44) 1 5]) (d := fun x => .val (vn x 0)) (Want.bool rfl rfl rfl rfl (by rw [(c43)]; rfl)) (by first | rfl | simp only [hA.me, cond_true, cond_false, List.cons_append, List.nil_append, List.append_nil]) (fun x => by first | rfl | simp only [ins_self, upd_self, hA.me, cond_true, cond_false, List.cons_append, List.nil_append, List.append_nil]) (fun x => rfl) (OpR.call [] fn18 (arena_Arena_Bytes_2_c hx44) rfl rfl rfl (fun _ => rfl))
     refine OpsS.cons' true ?_ (fun _ _ _ _ _ _ _ => rfl) ?_
     · intro D env39 hA
       have e11 : D 11 = true := hA.yes 11 _ rfl rfl
       exact OpS.yes (o0 := [.var (blk (vn w5 0)) [.val (.string (bs u14))] 58, .row (vn (env39 11) 0) (List.map byteD x44) 1 5]) (o1 := fun x => [.var (blk (vn w5 0)) [.val (.string (bs u14))] 58, .row (vn (env39 11) 0) (List.map byteD x44) 1 5]) (d := fun x => .val (.string (bs x44))) (Want.bool rfl rfl rfl rfl (by rw [(c43)]; rfl)) (by first | rfl | simp only [e11, cond_true, cond_false, List.cons_append, List.nil_append, List.append_nil]) (fun x => by first | rfl | simp only [ins_self, ins_ne D (show 12 ≠ 11 by decide), upd_self, upd_ne env39 x (show 12 ≠ 11 by decide), e11, cond_true, cond_false, List.cons_append, List.nil_append, List.append_nil]) (fun x => rfl) (OpR.toStrF (l := x44) (Src.row 1 rfl rfl) rfl rfl rfl rfl rfl rfl)
     refine oS (d := .val (.pointer (some ⟨(blk (vn w5 0)), 0, none⟩))) (fun _ => Want.bool rfl rfl rfl rfl (by rw [(c43)]; rfl)) (fun _ => rfl) (fun _ _ _ => rfl) (fun _ _ => OpR.pure rfl) (fun _ _ _ _ _ _ _ => rfl) ?_
     refine oS (d := .agg [.val (.int .i64 a2.fAt), .val (.int .i64 a2.fN)]) (fun _ => Want.bool rfl rfl rfl rfl (by rw [(c43)]; rfl)) (fun _ => rfl) (fun _ _ _ => rfl) (fun _ _ => OpR.pure rfl) (fun _ _ _ _ _ _ _ => rfl) ?_
     refine oS (d := .agg [.val (.int .i64 x45.fAt), .val (.int .i64 x45.fN)]) (fun _ => Want.bool rfl rfl rfl rfl (by rw [(c43)]; rfl)) (fun _ => rfl) (fun _ _ _ => rfl) (fun _ _ => OpR.call0 fn28 (law03_ours_c hx45) rfl) (fun _ _ _ _ _ _ _ => rfl) ?_
     refine OpsS.cons' true ?_ (fun _ _ _ _ _ _ _ => rfl) ?_
     · intro D env39 hA
       have e11 : D 11 = true := hA.yes 11 _ rfl rfl
       exact OpS.yes (o0 := [.var (blk (vn w5 0)) [.val (.string (bs u14))] 58, .row (vn (env39 11) 0) (List.map byteD x44) 1 5]) (o1 := fun x => [.var (blk (vn w5 0)) [.val (.string (bs u14))] 58, .row (vn (env39 11) 0) (List.map byteD x44) 1 5]) (d := fun x => .val (.string (bs x46))) (Want.bool rfl rfl rfl rfl (by rw [(c43)]; rfl)) (by first | rfl | simp only [e11, cond_true, cond_false, List.cons_append, List.nil_append, List.append_nil]) (fun x => by first | rfl | simp only [ins_self, ins_ne D (show 16 ≠ 11 by decide), upd_self, upd_ne env39 x (show 16 ≠ 11 by decide), e11, cond_true, cond_false, List.cons_append, List.nil_append, List.append_nil]) (fun x => rfl) (OpR.call [0] fn25 (ref03_Arena_Bytes_c hx46) rfl rfl rfl (fun _ => rfl))
     refine oS (d := .val (.bool (x44 == x46))) (fun _ => Want.bool rfl rfl rfl rfl (by rw [(c43)]; rfl)) (fun _ => rfl) (fun _ _ _ => rfl) (fun _ _ => OpR.cast (OpR.pure rfl) (boolE (strEq _ _))) (fun _ _ _ _ _ _ _ => rfl) ?_
     refine oS (d := .val (.bool (x44 == x46))) (fun _ => Want.plain rfl) (fun _ => rfl) (fun _ _ _ => rfl) (fun _ _ => OpR.pickT rfl (c43) rfl) (fun _ _ _ _ _ _ _ => rfl) ?_
     refine oS (d := .val (.bool (x44 == x46))) (fun _ => Want.plain rfl) (fun _ => rfl) (fun _ _ _ => rfl) (fun _ _ => OpR.pure rfl) (fun _ _ _ _ _ _ _ => rfl) ?_
     refine oS (d := .val (.bool x36.2)) (fun _ => Want.bool rfl rfl rfl rfl (by rw [(beq_iff_eq.2 c47)]; rfl)) (fun _ => rfl) (fun _ _ _ => rfl) (fun _ _ => OpR.pure rfl) (fun _ _ _ _ _ _ _ => rfl) ?_
     refine oS (d := .val (.string (bs x37))) (fun _ => Want.bool rfl rfl rfl rfl (by rw [(beq_iff_eq.2 c47)]; rfl)) (fun _ => rfl) (fun _ _ _ => rfl) (fun _ _ => OpR.pure rfl) (fun _ _ _ _ _ _ _ => rfl) ?_
     refine oS (d := .val (.int .i64 (x37.length : Int))) (fun _ => Want.bool rfl rfl rfl rfl (by rw [(beq_iff_eq.2 c47)]; rfl)) (fun _ => rfl) (fun _ _ _ => rfl) (fun _ _ => OpR.cast (OpR.pure rfl) (intE (lenS _))) (fun _ _ _ _ _ _ _ => rfl) ?_
     refine oS (d := .val (.bool ((x37.length : Int) == 1))) (fun _ => Want.bool rfl rfl rfl rfl (by rw [(beq_iff_eq.2 c47)]; rfl)) (fun _ => rfl) (fun _ _ _ => rfl) (fun _ _ => OpR.pure rfl) (fun _ _ _ _ _ _ _ => rfl) ?_
     refine oS (d := .val (.bool (x36.2 == ((x37.length : Int) == 1)))) (fun _ => Want.bool rfl rfl rfl rfl (by rw [(beq_iff_eq.2 c47)]; rfl)) (fun _ => rfl) (fun _ _ _ => rfl) (fun _ _ => OpR.eqBool rfl rfl rfl rfl) (fun _ _ _ _ _ _ _ => rfl) ?_
     refine oS (d := .val (.bool (x36.2 == ((x37.length : Int) == 1)))) (fun _ => Want.plain rfl) (fun _ => rfl) (fun _ _ _ => rfl) (fun _ _ => OpR.pickT rfl (beq_iff_eq.2 c47) rfl) (fun _ _ _ _ _ _ _ => rfl) ?_
     refine oS (d := .val (.bool (x36.2 == ((x37.length : Int) == 1)))) (fun _ => Want.plain rfl) (fun _ => rfl) (fun _ _ _ => rfl) (fun _ _ => OpR.pure rfl) (fun _ _ _ _ _ _ _ => rfl) ?_
     refine OpsS.cons' false (fun D env39 hA => OpS.no (Want.bool rfl rfl rfl rfl (by rw [(eq_false_of_ne_true c48)]; rfl)) rfl rfl) (fun _ _ _ _ _ _ _ => rfl) ?_
     refine OpsS.cons' false (fun D env39 hA => OpS.no (Want.bool rfl rfl rfl rfl (by rw [(eq_false_of_ne_true c48)]; rfl)) rfl rfl) (fun _ _ _ _ _ _ _ => rfl) ?_
     refine OpsS.cons' false (fun D env39 hA => OpS.no (Want.bool rfl rfl rfl rfl (by rw [(eq_false_of_ne_true c48)]; rfl)) rfl rfl) (fun _ _ _ _ _ _ _ => rfl) ?_
     refine OpsS.cons' false (fun D env39 hA => OpS.no (Want.unit rfl rfl rfl rfl) rfl rfl) (fun _ _ _ _ _ _ _ => rfl) ?_
     refine OpsS.cons' false (fun D env39 hA => OpS.no (Want.unit rfl rfl rfl rfl) rfl rfl) (fun _ _ _ _ _ _ _ => rfl) ?_
     refine OpsS.cons' false (fun D env39 hA => OpS.no (Want.bool rfl rfl rfl rfl (by rw [(eq_false_of_ne_true c48)]; rfl)) rfl rfl) (fun _ _ _ _ _ _ _ => rfl) ?_
     refine OpsS.cons' false (fun D env39 hA => OpS.no (Want.bool rfl rfl rfl rfl (by rw [(eq_false_of_ne_true c48)]; rfl)) rfl rfl) (fun _ _ _ _ _ _ _ => rfl) ?_
     refine OpsS.cons' false (fun D env39 hA => OpS.no (Want.unit rfl rfl rfl rfl) rfl rfl) (fun _ _ _ _ _ _ _ => rfl) ?_
     refine OpsS.cons' false (fun D env39 hA => OpS.no (Want.unit rfl rfl rfl rfl) rfl rfl) (fun _ _ _ _ _ _ _ => rfl) ?_
     refine OpsS.cons' false (fun D env39 hA => OpS.no (Want.unit rfl rfl rfl rfl) rfl rfl) (fun _ _ _ _ _ _ _ => rfl) ?_
     refine OpsS.cons' false (fun D env39 hA => OpS.no (Want.unit rfl rfl rfl rfl) rfl rfl) (fun _ _ _ _ _ _ _ => rfl) ?_
     refine OpsS.cons' false (fun D env39 hA => OpS.no (Want.unit rfl rfl rfl rfl) rfl rfl) (fun _ _ _ _ _ _ _ => rfl) ?_
     refine OpsS.cons' false (fun D env39 hA => OpS.no (Want.unit rfl rfl rfl rfl) rfl rfl) (fun _ _ _ _ _ _ _ => rfl) ?_
     refine OpsS.cons' false (fun D env39 hA => OpS.no (Want.unit rfl rfl rfl rfl) rfl rfl) (fun _ _ _ _ _ _ _ => rfl) ?_
     refine OpsS.cons' false (fun D env39 hA => OpS.no (Want.unit rfl rfl rfl rfl) rfl rfl) (fun _ _ _ _ _ _ _ => rfl) ?_
     refine OpsS.cons' false (fun D env39 hA => OpS.no (Want.bool rfl rfl rfl rfl (by rw [(eq_false_of_ne_true c48)]; rfl)) rfl rfl) (fun _ _ _ _ _ _ _ => rfl) ?_
     refine oS (d := .val (.bool false)) (fun _ => Want.plain rfl) (fun _ => rfl) (fun _ _ _ => rfl) (fun _ _ => OpR.pickF rfl (eq_false_of_ne_true c48) rfl) (fun _ _ _ _ _ _ _ => rfl) ?_
     refine oS (d := .val (.bool false)) (fun _ => Want.plain rfl) (fun _ => rfl) (fun _ _ _ => rfl) (fun _ _ => OpR.pure rfl) (fun _ _ _ _ _ _ _ => rfl) ?_
     refine OpsS.cons' false (fun D env39 hA => OpS.no (Want.bool rfl rfl rfl rfl rfl) rfl rfl) (fun _ _ _ _ _ _ _ => rfl) ?_
     refine oS (d := .val (.bool false)) (fun _ => Want.plain rfl) (fun _ => rfl) (fun _ _ _ => rfl) (fun _ _ => OpR.pickF rfl rfl rfl) (fun _ _ _ _ _ _ _ => rfl) ?_
     refine oS (d := .val (.bool false)) (fun _ => Want.plain rfl) (fun _ => rfl) (fun _ _ _ => rfl) (fun _ _ => OpR.pure rfl) (fun _ _ _ _ _ _ _ => rfl) ?_
     exact trivial
   rcases ite_some ht38 with ⟨c49, ht38⟩ | ⟨c49, ht38⟩
   rotate_left
   · rcases ite_some ht38 with ⟨c52, ht38⟩ | ⟨c52, ht38⟩
     · obtain ⟨x53, hx53, ht38⟩ := bnd_some ht38
       refine T.drawS drawsX (fun env39 => [.val (.pointer none), .agg [.val (.int .i64 a2.fAt), .val (.int .i64 a2.fN)], .val (.bool x40), .val (.pointer (some ⟨(blk (vn w5 0)), 0, none⟩)), .agg [.val (.int .i64 a2.fAt), .val (.int .i64 a2.fN)], .agg [.val (.int .i64 x41.fAt), .val (.int .i64 x41.fN)], .val (.bool x42), .val (.bool (x40 == x42)), .val (.bool (x40 == x42)), .val (.pointer none), .agg [.val (.int .i64 a2.fAt), .val (.int .i64 a2.fN)], .val (vn (env39 11) 0), .val (.string (bs x44)), .val (.pointer (some ⟨(blk (vn w5 0)), 0, none⟩)), .agg [.val (.int .i64 a2.fAt), .val (.int .i64 a2.fN)], .agg [.val (.int .i64 x45.fAt), .val (.int .i64 x45.fN)], .val (.string (bs x46)), .val (.bool (x44 == x46)), .val (.bool (x44 == x46)), .val (.bool (x44 == x46)), .val (.bool x36.2), .val (.string (bs x37)), .val (.int .i64 (x37.length : Int)), .val (.bool ((x37.length : Int) == 1)), .val (.bool (x36.2 == ((x37.length : Int) == 1))), .val (.bool (x36.2 == ((x37.length : Int) == 1))), .val (.bool (x36.2 == ((x37.length : Int) == 1))), .val (.bool x36.2), .val (.bool (!x36.2)), .val (.bool (!x36.2)), .val (.int .u8 (x36.1.toNat : Int)), .val (.bool ((x36.1.toNat : Int) == 0)), .val (.bool ((x36.1.toNat : Int) == 0)), .val (.bool ((x36.1.toNat : Int) == 0)), .tup [], .tup [], .tup [], .tup [], .tup [], .tup [], .tup [], .tup [], .val (.bool true), .val (.bool true), .val (.bool true), .val (.bool x53), .val (.bool x53), .val (.bool x53)]) (fun D env39 => [.var (blk (vn w5 0)) [.val (.string (bs u14))] 58] ++ bif D 11 then [.row (vn (env39 11) 0) (List.map byteD x44) 1 5] else []) [0, 0, 3, 0, 0, 23, 63, 127, 255, 511, 511, 2047, 4095, 511, 511, 20479, 61439, 131071, 262143, 524287, 1048575, 1048575, 3145727, 7340031, 16777215, 33554431, 67108863, 134217727, 268435455, 536870911, 1073741823, 2147483647, 4294967295, 8589934591, 17179869183, 34359738367, 68719476735, 137438953471, 274877906943, 68719476735, 1099511627775, 2199023255551, 4398046511103, 8796093022207, 17592186044415, 35184372088831, 70368744177663, 140737488355327] [5, 6, 7, 9, 13, 14, 15, 82, 83, 84, 85, 86, 87, 88, 89, 90, 91, 92, 93, 94, 95, 96, 97, 98, 99, 100, 101, 102, 103, 104, 105, 106, 107, 108, 109, 110, 111, 112, 113, 114, 115, 116, 117, 118, 119, 120, 121, 122, 123, 124, 125, 126, 127, 128, 129, 130, 131, 132, 133, 134, 135, 136, 137, 138, 139, 140] (fun env39 => [.var (blk (vn w5 0)) [.val (.string (bs u14))] 58, .row (vn (env39 11) 0) (List.map byteD x44) 1 5]) (by decide +kernel) (by decide +kernel) (fun _ => rfl) (fun _ => rfl) ?_ (fun _ => rfl) (fun _ => rfl) ?_
       rotate_left
       · intro env39
         obtain rfl := Option.some.inj ht38
         exact ⟨_, Gst.trans (Gst.only [6] rfl) (Gst.pick [] rfl rfl), rfl⟩
       refine oS (d := .val (.pointer none)) (fun _ => Want.plain rfl) (fun _ => rfl) (fun _ _ _ => rfl) (fun _ _ => OpR.pure rfl) (fun _ _ _ _ _ _ _ => rfl) ?_
       refine oS (d := .agg [.val (.int .i64 a2.fAt), .val (.int .i64 a2.fN)]) (fun _ => Want.plain rfl) (fun _ => rfl) (fun _ _ _ => rfl) (fun _ _ => OpR.pure rfl) (fun _ _ _ _ _ _ _ => rfl) ?_
       refine oS (d := .val (.bool x40)) (fun _ => Want.plain rfl) (fun _ => rfl) (fun _ _ _ => rfl) (fun _ _ => OpR.call0 fn26 (arena_Arena_Right_2_c hx40) rfl) (fun _ _ _ _ _ _ _ => rfl) ?_
       refine oS (d := .val (.pointer (some ⟨(blk (vn w5 0)), 0, none⟩))) (fun _ => Want.plain rfl) (fun _ => rfl) (fun _ _ _ => rfl) (fun _ _ => OpR.pure rfl) (fun _ _ _ _ _ _ _ => rfl) ?_
       refine oS (d := .agg [.val (.int .i64 a2.fAt), .val (.int .i64 a2.fN)]) (fun _ => Want.plain rfl) (fun _ => rfl) (fun _ _ _ => rfl) (fun _ _ => OpR.pure rfl) (fun _ _ _ _ _ _ _ => rfl) ?_
       refine oS (d := .agg [.val (.int .i64 x41.fAt), .val (.int .i64 x41.fN)]) (fun _ => Want.plain rfl) (fun _ => rfl) (fun _ _ _ => rfl) (fun _ _ => OpR.call0 fn28 (law03_ours_c hx41) rfl) (fun _ _ _ _ _ _ _ => rfl) ?_
       refine OpsS.cons' true ?_ (fun _ _ _ _ _ _ _ => rfl) ?_
       · intro D env39 hA
         have e11 : D 11 = false := hA.no 11 _ rfl rfl
         exact OpS.yes (o0 := [.var (blk (vn w5 0)) [.val (.string (bs u14))] 58]) (o1 := fun x => [.var (blk (vn w5 0)) [.val (.string (bs u14))] 58]) (d := fun x => .val (.bool x42)) (Want.plain rfl) (by first | rfl | simp only [e11, cond_true, cond_false, List.cons_append, List.nil_append, List.append_nil]) (fun x => by first | rfl | simp only [ins_self, ins_ne D (show 6 ≠ 11 by decide), upd_self, upd_ne env39 x (show 6 ≠ 11 by decide), e11, cond_true, cond_false, List.cons_append, List.nil_append, List.append_nil]) (fun x => rfl) (OpR.call [0] fn27 (ref03_Arena_Right_c hx42) rfl rfl rfl (fun _ => rfl))
       refine oS (d := .val (.bool (x40 == x42))) (fun _ => Want.plain rfl) (fun _ => rfl) (fun _ _ _ => rfl) (fun _ _ => OpR.eqBool rfl rfl rfl rfl) (fun _ _ _ _ _ _ _ => rfl) ?_
       refine oS (d := .val (.bool (x40 == x42))) (fun _ => Want.plain rfl) (fun _ => rfl) (fun _ _ _ => rfl) (fun _ _ => OpR.pure rfl) (fun _ _ _ _ _ _ _ => rfl) ?_
       refine oS (d := .val (.pointer none)) (fun _ => Want.bool rfl rfl rfl rfl (by rw [(c43)]; rfl)) (fun _ => rfl) (fun _ _ _ => rfl) (fun _ _ => OpR.pure rfl) (fun _ _ _ _ _ _ _ => rfl) ?_
       refine oS (d := .agg [.val (.int .i64 a2.fAt), .val (.int .i64 a2.fN)]) (fun _ => Want.bool rfl rfl rfl rfl (by rw [(c43)]; rfl)) (fun _ => rfl) (fun _ _ _ => rfl) (fun _ _ => OpR.pure rfl) (fun _ _ _ _ _ _ _ => rfl) ?_
       refine OpsS.cons' true ?_ (fun D hA env39 x j hj hD => match j, hj, hD with | 0, _, _ => rfl | 1, _, _ => rfl | 2, _, _ => rfl | 3, _, _ => rfl | 4, _, _ => rfl | 5, _, _ => rfl | 6, _, _ => rfl | 7, _, _ => rfl | 8, _, _ => rfl | 9, _, _ => rfl | 10, _, _ => rfl | 11, hj, _ => absurd rfl hj | 12, _, _ => rfl | 13, _, _ => rfl | 14, _, _ => rfl | 15, _, _ => rfl | 16, _, _ => rfl | 17, _, _ => rfl | 18, _, _ => rfl | 19, _, _ => rfl | 20, _, _ => rfl | 21, _, _ => rfl | 22, _, _ => rfl | 23, _, _ => rfl | 24, _, _ => rfl | 25, _, _ => rfl | 26, _, _ => rfl | 27, _, _ => rfl | 28, _, _ => rfl | 29, _, _ => rfl | 30, _, _ => rfl | 31, _, _ => rfl | 32, _, _ => rfl | 33, _, _ => rfl | 34, _, _ => rfl | 35, _, _ => rfl | 36, _, _ => rfl | 37, _, _ => rfl | 38, _, _ => rfl | 39, _, _ => rfl | 40, _, _ => rfl | 41, _, _ => rfl | 42, _, _ => rfl | 43, _, _ => rfl | 44, _, _ => rfl | 45, _, _ => rfl | 46, _, _ => rfl | 47, _, _ => rfl | _ + 48, _, _ => rfl) ?_
       · intro D env39 hA
         exact OpS.yes (o0 := [.var (blk (vn w5 0)) [.val (.string (bs u14))] 58]) (o1 := fun x => [.var (blk (vn w5 0)) [.val (.string (bs u14))] 58, .row (vn x 0) (List.map byteD x44) 1 5]) (d := fun x => .val (vn x 0)) (Want.bool rfl rfl rfl rfl (by rw [(c43)]; rfl)) (by first | rfl | simp only [hA.me, cond_true, cond_false, List.cons_append, List.nil_append, List.append_nil]) (fun x => by first | rfl | simp only [ins_self, upd_self, hA.me, cond_true, cond_false, List.cons_append, List.nil_append, List.append_nil]) (fun x => rfl) (OpR.call [] fn18 (arena_Arena_Bytes_2_c hx44) rfl rfl rfl (fun _ => rfl))
       refine OpsS.cons' true ?_ (fun _ _ _ _ _ _ _ => rfl) ?_
       · intro D env39 hA
         have e11 : D 11 = true := hA.yes 11 _ rfl rfl
         exact OpS.yes (o0 := [.var (blk (vn w5 0)) [.val (.string (bs u14))] 58, .row (vn (env39 11) 0) (List.map byteD x44) 1 5]) (o1 := fun x => [.var (blk (vn w5 0)) [.val (.string (bs u14))] 58, .row (vn (env39 11) 0) (List.map byteD x44) 1 5]) (d := fun x => .val (.string (bs x44))) (Want.bool rfl rfl rfl rfl (by rw [(c43)]; rfl)) (by first | rfl | simp only [e11, cond_true, cond_false, List.cons_append, List.nil_append, List.append_nil]) (fun x => by first | rfl | simp only [ins_self, ins_ne D (show 12 ≠ 11 by decide), upd_self, upd_ne env39 x (show 12 ≠ 11 by decide), e11, cond_true, cond_false, List.cons_append, List.nil_append, List.append_nil]) (fun x => rfl) (OpR.toStrF (l := x44) (Src.row 1 rfl rfl) rfl rfl rfl rfl rfl rfl)
       refine oS (d := .val (.pointer (some ⟨(blk (vn w5 0)), 0, none⟩))) (fun _ => Want.bool rfl rfl rfl rfl (by rw [(c43)]; rfl)) (fun _ => rfl) (fun _ _ _ => rfl) (fun _ _ => OpR.pure rfl) (fun _ _ _ _ _ _ _ => rfl) ?_
       refine oS (d := .agg [.val (.int .i64 a2.fAt), .val (.int .i64 a2.fN)]) (fun _ => Want.bool rfl rfl rfl rfl (by rw [(c43)]; rfl)) (fun _ => rfl) (fun _ _ _ => rfl) (fun _ _ => OpR.pure rfl) (fun _ _ _ _ _ _ _ => rfl) ?_
       refine oS (d := .agg [.val (.int .i64 x45.fAt), .val (.int .i64 x45.fN)]) (fun _ => Want.bool rfl rfl rfl rfl (by rw [(c43)]; rfl)) (fun _ => rfl) (fun _ _ _ => rfl) (fun _ _ => OpR.call0 fn28 (law03_ours_c hx45) rfl) (fun _ _ _ _ _ _ _ => rfl) ?_
       refine OpsS.cons' true ?_ (fun _ _ _ _ _ _ _ => rfl) ?_
       · intro D env39 hA
         have e11 : D 11 = true := hA.yes 11 _ rfl rfl
         exact OpS.yes (o0 := [.var (blk (vn w5 0)) [.val (.string (bs u14))] 58, .row (vn (env39 11) 0) (List.map byteD x44) 1 5]) (o1 := fun x => [.var (blk (vn w5 0)) [.val (.string (bs u14))] 58, .row (vn (env39 11) 0) (List.map byteD x44) 1 5]) (d := fun x => .val (.string (bs x46))) (Want.bool rfl rfl rfl rfl (by rw [(c43)]; rfl)) (by first | rfl | simp only [e11, cond_true, cond_false, List.cons_append, List.nil_append, List.append_nil]) (fun x => by first | rfl | simp only [ins_self, ins_ne D (show 16 ≠ 11 by decide), upd_self, upd_ne env39 x (show 16 ≠ 11 by decide), e11, cond_true, cond_false, List.cons_append, List.nil_append, List.append_nil]) (fun x => rfl) (OpR.call [0] fn25 (ref03_Arena_Bytes_c hx46) rfl rfl rfl (fun _ => rfl))
       refine oS (d := .val (.bool (x44 == x46))) (fun _ => Want.bool rfl rfl rfl rfl (by rw [(c43)]; rfl)) (fun _ => rfl) (fun _ _ _ => rfl) (fun _ _ => OpR.cast (OpR.pure rfl) (boolE (strEq _ _))) (fun _ _ _ _ _ _ _ => rfl) ?_
       refine oS (d := .val (.bool (x44 == x46))) (fun _ => Want.plain rfl) (fun _ => rfl) (fun _ _ _ => rfl) (fun _ _ => OpR.pickT rfl (c43) rfl) (fun _ _ _ _ _ _ _ => rfl) ?_
       refine oS (d := .val (.bool (x44 == x46))) (fun _ => Want.plain rfl) (fun _ => rfl) (fun _ _ _ => rfl) (fun _ _ => OpR.pure rfl) (fun _ _ _ _ _ _ _ => rfl) ?_
       refine oS (d := .val (.bool x36.2)) (fun _ => Want.bool rfl rfl rfl rfl (by rw [(beq_iff_eq.2 c47)]; rfl)) (fun _ => rfl) (fun _ _ _ => rfl) (fun _ _ => OpR.pure rfl) (fun _ _ _ _ _ _ _ => rfl) ?_
       refine oS (d := .val (.string (bs x37))) (fun _ => Want.bool rfl rfl rfl rfl (by rw [(beq_iff_eq.2 c47)]; rfl)) (fun _ => rfl) (fun _ _ _ => rfl) (fun _ _ => OpR.pure rfl) (fun _ _ _ _ _ _ _ => rfl) ?_
       refine oS (d := .val (.int .i64 (x37.length : Int))) (fun _ => Want.bool rfl rfl rfl rfl (by rw [(beq_iff_eq.2 c47)]; rfl)) (fun _ => rfl) (fun _ _ _ => rfl) (fun _ _ => OpR.cast (OpR.pure rfl) (intE (lenS _))) (fun _ _ _ _ _ _ _ => rfl) ?_
       refine oS (d := .val (.bool ((x37.length : Int) == 1))) (fun _ => Want.bool rfl rfl rfl rfl (by rw [(beq_iff_eq.2 c47)]; rfl)) (fun _ => rfl) (fun _ _ _ => rfl) (fun _ _ => OpR.pure rfl) (fun _ _ _ _ _ _ _ => rfl) ?_
       refine oS (d := .val (.bool (x36.2 == ((x37.length : Int) == 1)))) (fun _ => Want.bool rfl rfl rfl rfl (by rw [(beq_iff_eq.2 c47)]; rfl)) (fun _ => rfl) (fun _ _ _ => rfl) (fun _ _ => OpR.eqBool rfl rfl rfl rfl) (fun _ _ _ _ _ _ _ => rfl) ?_
       refine oS (d := .val (.bool (x36.2 == ((x37.length : Int) == 1)))) (fun _ => Want.plain rfl) (fun _ => rfl) (fun _ _ _ => rfl) (fun _ _ => OpR.pickT rfl (beq_iff_eq.2 c47) rfl) (fun _ _ _ _ _ _ _ => rfl) ?_
       refine oS (d := .val (.bool (x36.2 == ((x37.length : Int) == 1)))) (fun _ => Want.plain rfl) (fun _ => rfl) (fun _ _ _ => rfl) (fun _ _ => OpR.pure rfl) (fun _ _ _ _ _ _ _ => rfl) ?_
       refine oS (d := .val (.bool x36.2)) (fun _ => Want.bool rfl rfl rfl rfl (by rw [(c48)]; rfl)) (fun _ => rfl) (fun _ _ _ => rfl) (fun _ _ => OpR.pure rfl) (fun _ _ _ _ _ _ _ => rfl) ?_
       refine oS (d := .val (.bool (!x36.2))) (fun _ => Want.bool rfl rfl rfl rfl (by rw [(c48)]; rfl)) (fun _ => rfl) (fun _ _ _ => rfl) (fun _ _ => OpR.pure rfl) (fun _ _ _ _ _ _ _ => rfl) ?_
       refine oS (d := .val (.bool (!x36.2))) (fun _ => Want.bool rfl rfl rfl rfl (by rw [(c48)]; rfl)) (fun _ => rfl) (fun _ _ _ => rfl) (fun _ _ => OpR.pure rfl) (fun _ _ _ _ _ _ _ => rfl) ?_
       refine oS (d := .val (.int .u8 (x36.1.toNat : Int))) (fun _ => Want.bool rfl rfl rfl rfl (by rw [(not_f (eq_false_of_ne_true c49))]; rfl)) (fun _ => rfl) (fun _ _ _ => rfl) (fun _ _ => OpR.pure rfl) (fun _ _ _ _ _ _ _ => rfl) ?_
       refine oS (d := .val (.bool ((x36.1.toNat : Int) == 0))) (fun _ => Want.bool rfl rfl rfl rfl (by rw [(not_f (eq_false_of_ne_true c49))]; rfl)) (fun _ => rfl) (fun _ _ _ => rfl) (fun _ _ => OpR.pure rfl) (fun _ _ _ _ _ _ _ => rfl) ?_
       refine oS (d := .val (.bool ((x36.1.toNat : Int) == 0))) (fun _ => Want.bool rfl rfl rfl rfl (by rw [(c48)]; rfl)) (fun _ => rfl) (fun _ _ _ => rfl) (fun _ _ => OpR.pickT rfl (not_f (eq_false_of_ne_true c49)) rfl) (fun _ _ _ _ _ _ _ => rfl) ?_
       refine oS (d := .val (.bool ((x36.1.toNat : Int) == 0))) (fun _ => Want.bool rfl rfl rfl rfl (by rw [(c48)]; rfl)) (fun _ => rfl) (fun _ _ _ => rfl) (fun _ _ => OpR.pure rfl) (fun _ _ _ _ _ _ _ => rfl) ?_
       refine OpsS.cons' false (fun D env39 hA => OpS.no (Want.bool rfl rfl rfl rfl (by rw [(beq_iff_eq.2 c52)]; rfl)) rfl rfl) (fun _ _ _ _ _ _ _ => rfl) ?_
       refine OpsS.cons' false (fun D env39 hA => OpS.no (Want.bool rfl rfl rfl rfl (by rw [(beq_iff_eq.2 c52)]; rfl)) rfl rfl) (fun _ _ _ _ _ _ _ => rfl) ?_
       refine OpsS.cons' false (fun D env39 hA => OpS.no (Want.unit rfl rfl rfl rfl) rfl rfl) (fun _ _ _ _ _ _ _ => rfl) ?_
       refine OpsS.cons' false (fun D env39 hA => OpS.no (Want.unit rfl rfl rfl rfl) rfl rfl) (fun _ _ _ _ _ _ _ => rfl) ?_
       refine OpsS.cons' false (fun D env39 hA => OpS.no (Want.unit rfl rfl rfl rfl) rfl rfl) (fun _ _ _ _ _ _ _ => rfl) ?_
       refine OpsS.cons' false (fun D env39 hA => OpS.no (Want.unit rfl rfl rfl rfl) rfl rfl) (fun _ _ _ _ _ _ _ => rfl) ?_
       refine OpsS.cons' false (fun D env39 hA => OpS.no (Want.unit rfl rfl rfl rfl) rfl rfl) (fun _ _ _ _ _ _ _ => rfl) ?_
       refine OpsS.cons' false (fun D env39 hA => OpS.no (Want.bool rfl rfl rfl rfl (by rw [(beq_iff_eq.2 c52)]; rfl)) rfl rfl) (fun _ _ _ _ _ _ _ => rfl) ?_
       refine oS (d := .val (.bool true)) (fun _ => Want.bool rfl rfl rfl rfl (by rw [(c48)]; rfl)) (fun _ => rfl) (fun _ _ _ => rfl) (fun _ _ => OpR.pickT rfl (beq_iff_eq.2 c52) rfl) (fun _ _ _ _ _ _ _ => rfl) ?_
       refine oS (d := .val (.bool true)) (fun _ => Want.plain rfl) (fun _ => rfl) (fun _ _ _ => rfl) (fun _ _ => OpR.pickT rfl (c48) rfl) (fun _ _ _ _ _ _ _ => rfl) ?_
       refine oS (d := .val (.bool true)) (fun _ => Want.plain rfl) (fun _ => rfl) (fun _ _ _ => rfl) (fun _ _ => OpR.pure rfl) (fun _ _ _ _ _ _ _ => rfl) ?_
       refine oS (d := .val (.bool x53)) (fun _ => Want.bool rfl rfl rfl rfl rfl) (fun _ => rfl) (fun _ _ _ => rfl) (fun _ _ => OpR.call0 fn20 (law03_awake_c hx53) rfl) (fun _ _ _ _ _ _ _ => rfl) ?_
       refine oS (d := .val (.bool x53)) (fun _ => Want.plain rfl) (fun _ => rfl) (fun _ _ _ => rfl) (fun _ _ => OpR.pickT rfl rfl rfl) (fun _ _ _ _ _ _ _ => rfl) ?_
       refine oS (d := .val (.bool x53)) (fun _ => Want.plain rfl) (fun _ => rfl) (fun _ _ _ => rfl) (fun _ _ => OpR.pure rfl) (fun _ _ _ _ _ _ _ => rfl) ?_
       exact trivial
     refine T.drawS drawsX (fun env39 => [.val (.pointer none), .agg [.val (.int .i64 a2.fAt), .val (.int .i64 a2.fN)], .val (.bool x40), .val (.pointer (some ⟨(blk (vn w5 0)), 0, none⟩)), .agg [.val (.int .i64 a2.fAt), .val (.int .i64 a2.fN)], .agg [.val (.int .i64 x41.fAt), .val (.int .i64 x41.fN)], .val (.bool x42), .val (.bool (x40 == x42)), .val (.bool (x40 == x42)), .val (.pointer none), .agg [.val (.int .i64 a2.fAt), .val (.int .i64 a2.fN)], .val (vn (env39 11) 0), .val (.string (bs x44)), .val (.pointer (some ⟨(blk (vn w5 0)), 0, none⟩)), .agg [.val (.int .i64 a2.fAt), .val (.int .i64 a2.fN)], .agg [.val (.int .i64 x45.fAt), .val (.int .i64 x45.fN)], .val (.string (bs x46)), .val (.bool (x44 == x46)), .val (.bool (x44 == x46)), .val (.bool (x44 == x46)), .val (.bool x36.2), .val (.string (bs x37)), .val (.int .i64 (x37.length : Int)), .val (.bool ((x37.length : Int) == 1)), .val (.bool (x36.2 == ((x37.length : Int) == 1))), .val (.bool (x36.2 == ((x37.length : Int) == 1))), .val (.bool (x36.2 == ((x37.length : Int) == 1))), .val (.bool x36.2), .val (.bool (!x36.2)), .val (.bool (!x36.2)), .val (.int .u8 (x36.1.toNat : Int)), .val (.bool ((x36.1.toNat : Int) == 0)), .val (.bool ((x36.1.toNat : Int) == 0)), .val (.bool ((x36.1.toNat : Int) == 0)), .val (.bool x36.2), .val (.bool x36.2), .tup [], .tup [], .tup [], .tup [], .tup [], .val (.bool false), .val (.bool false), .val (.bool false), .val (.bool false), .tup [], .val (.bool false), .val (.bool false)]) (fun D env39 => [.var (blk (vn w5 0)) [.val (.string (bs u14))] 58] ++ bif D 11 then [.row (vn (env39 11) 0) (List.map byteD x44) 1 5] else []) [0, 0, 3, 0, 0, 23, 63, 127, 255, 511, 511, 2047, 4095, 511, 511, 20479, 61439, 131071, 262143, 524287, 1048575, 1048575, 3145727, 7340031, 16777215, 33554431, 67108863, 134217727, 268435455, 536870911, 1073741823, 2147483647, 4294967295, 8589934591, 17179869183, 34359738367, 68719476735, 137438953471, 274877906943, 68719476735, 1099511627775, 2199023255551, 4398046511103, 8796093022207, 17592186044415, 35184372088831, 70368744177663, 140737488355327] [5, 6, 7, 9, 13, 14, 15, 82, 83, 84, 85, 86, 87, 88, 89, 90, 91, 92, 93, 94, 95, 96, 97, 98, 99, 100, 101, 102, 103, 104, 105, 106, 107, 108, 109, 110, 111, 112, 113, 114, 115, 116, 117, 118, 119, 120, 121, 122, 123, 124, 125, 126, 127, 128, 129, 130, 131, 132, 133, 134, 135, 136, 137, 138, 139, 140] (fun env39 => [.var (blk (vn w5 0)) [.val (.string (bs u14))] 58, .row (vn (env39 11) 0) (List.map byteD x44) 1 5]) (by decide +kernel) (by decide +kernel) (fun _ => rfl) (fun _ => rfl) ?_ (fun _ => rfl) (fun _ => rfl) ?_
     rotate_left
     · intro env39
       obtain rfl := Option.some.inj ht38
       exact ⟨_, Gst.trans (Gst.only [6] rfl) (Gst.pick [] rfl rfl), rfl⟩
     refine oS (d := .val (.pointer none)) (fun _ => Want.plain rfl) (fun _ => rfl) (fun _ _ _ => rfl) (fun _ _ => OpR.pure rfl) (fun _ _ _ _ _ _ _ => rfl) ?_
     refine oS (d := .agg [.val (.int .i64 a2.fAt), .val (.int .i64 a2.fN)]) (fun _ => Want.plain rfl) (fun _ => rfl) (fun _ _ _ => rfl) (fun _ _ => OpR.pure rfl) (fun _ _ _ _ _ _ _ => rfl) ?_
     refine oS (d := .val (.bool x40)) (fun _ => Want.plain rfl) (fun _ => rfl) (fun _ _ _ => rfl) (fun _ _ => OpR.call0 fn26 (arena_Arena_Right_2_c hx40) rfl) (fun _ _ _ _ _ _ _ => rfl) ?_
     refine oS (d := .val (.pointer (some ⟨(blk (vn w5 0)), 0, none⟩))) (fun _ => Want.plain rfl) (fun _ => rfl) (fun _ _ _ => rfl) (fun _ _ => OpR.pure rfl) (fun _ _ _ _ _ _ _ => rfl) ?_
     refine oS (d := .agg [.val (.int .i64 a2.fAt), .val (.int .i64 a2.fN)]) (fun _ => Want.plain rfl) (fun _ => rfl) (fun _ _ _ => rfl) (fun _ _ => OpR.pure rfl) (fun _ _ _ _ _ _ _ => rfl) ?_
     refine oS (d := .agg [.val (.int .i64 x41.fAt), .val (.int .i64 x41.fN)]) (fun _ => Want.plain rfl) (fun _ => rfl) (fun _ _ _ => rfl) (fun _ _ => OpR.call0 fn28 (law03_ours_c hx41) rfl) (fun _ _ _ _ _ _ _ => rfl) ?_
     refine OpsS.cons' true ?_ (fun _ _ _ _ _ _ _ => rfl) ?_
     · intro D env39 hA
       have e11 : D 11 = false := hA.no 11 _ rfl rfl
       exact OpS.yes (o0 := [.var (blk (vn w5 0)) [.val (.string (bs u14))] 58]) (o1 := fun x => [.var (blk (vn w5 0)) [.val (.string (bs u14))] 58]) (d := fun x => .val (.bool x42)) (Want.plain rfl) (by first | rfl | simp only [e11, cond_true, cond_false, List.cons_append, List.nil_append, List.append_nil]) (fun x => by first | rfl | simp only [ins_self, ins_ne D (show 6 ≠ 11 by decide), upd_self, upd_ne env39 x (show 6 ≠ 11 by decide), e11, cond_true, cond_false, List.cons_append, List.nil_append, List.append_nil]) (fun x => rfl) (OpR.call [0] fn27 (ref03_Arena_Right_c hx42) rfl rfl rfl (fun _ => rfl))
     refine oS (d := .val (.bool (x40 == x42))) (fun _ => Want.plain rfl) (fun _ => rfl) (fun _ _ _ => rfl) (fun _ _ => OpR.eqBool rfl rfl rfl rfl) (fun _ _ _ _ _ _ _ => rfl) ?_
     refine oS (d := .val (.bool (x40 == x42))) (fun _ => Want.plain rfl) (fun _ => rfl) (fun _ _ _ => rfl) (fun _ _ => OpR.pure rfl) (fun _ _ _ _ _ _ _ => rfl) ?_
     refine oS (d := .val (.pointer none)) (fun _ => Want.bool rfl rfl rfl rfl (by rw [(c43)]; rfl)) (fun _ => rfl) (fun _ _ _ => rfl) (fun _ _ => OpR.pure rfl) (fun _ _ _ _ _ _ _ => rfl) ?_
     refine oS (d := .agg [.val (.int .i64 a2.fAt), .val (.int .i64 a2.fN)]) (fun _ => Want.bool rfl rfl rfl rfl (by rw [(c43)]; rfl)) (fun _ => rfl) (fun _ _ _ => rfl) (fun _ _ => OpR.pure rfl) (fun _ _ _ _ _ _ _ => rfl) ?_
     refine OpsS.cons' true ?_ (fun D hA env39 x j hj hD => match j, hj, hD with | 0, _, _ => rfl | 1, _, _ => rfl | 2, _, _ => rfl | 3, _, _ => rfl | 4, _, _ => rfl | 5, _, _ => rfl | 6, _, _ => rfl | 7, _, _ => rfl | 8, _, _ => rfl | 9, _, _ => rfl | 10, _, _ => rfl | 11, hj, _ => absurd rfl hj | 12, _, _ => rfl | 13, _, _ => rfl | 14, _, _ => rfl | 15, _, _ => rfl | 16, _, _ => rfl | 17, _, _ => rfl | 18, _, _ => rfl | 19, _, _ => rfl | 20, _, _ => rfl | 21, _, _ => rfl | 22, _, _ => rfl | 23, _, _ => rfl | 24, _, _ => rfl | 25, _, _ => rfl | 26, _, _ => rfl | 27, _, _ => rfl | 28, _, _ => rfl | 29, _, _ => rfl | 30, _, _ => rfl | 31, _, _ => rfl | 32, _, _ => rfl | 33, _, _ => rfl | 34, _, _ => rfl | 35, _, _ => rfl | 36, _, _ => rfl | 37, _, _ => rfl | 38, _, _ => rfl | 39, _, _ => rfl | 40, _, _ => rfl | 41, _, _ => rfl | 42, _, _ => rfl | 43, _, _ => rfl | 44, _, _ => rfl | 45, _, _ => rfl | 46, _, _ => rfl | 47, _, _ => rfl | _ + 48, _, _ => rfl) ?_
     · intro D env39 hA
       exact OpS.yes (o0 := [.var (blk (vn w5 0)) [.val (.string (bs u14))] 58]) (o1 := fun x => [.var (blk (vn w5 0)) [.val (.string (bs u14))] 58, .row (vn x 0) (List.map byteD x44) 1 5]) (d := fun x => .val (vn x 0)) (Want.bool rfl rfl rfl rfl (by rw [(c43)]; rfl)) (by first | rfl | simp only [hA.me, cond_true, cond_false, List.cons_append, List.nil_append, List.append_nil]) (fun x => by first | rfl | simp only [ins_self, upd_self, hA.me, cond_true, cond_false, List.cons_append, List.nil_append, List.append_nil]) (fun x => rfl) (OpR.call [] fn18 (arena_Arena_Bytes_2_c hx44) rfl rfl rfl (fun _ => rfl))
     refine OpsS.cons' true ?_ (fun _ _ _ _ _ _ _ => rfl) ?_
     · intro D env39 hA
       have e11 : D 11 = true := hA.yes 11 _ rfl rfl
       exact OpS.yes (o0 := [.var (blk (vn w5 0)) [.val (.string (bs u14))] 58, .row (vn (env39 11) 0) (List.map byteD x44) 1 5]) (o1 := fun x => [.var (blk (vn w5 0)) [.val (.string (bs u14))] 58, .row (vn (env39 11) 0) (List.map byteD x44) 1 5]) (d := fun x => .val (.string (bs x44))) (Want.bool rfl rfl rfl rfl (by rw [(c43)]; rfl)) (by first | rfl | simp only [e11, cond_true, cond_false, List.cons_append, List.nil_append, List.append_nil]) (fun x => by first | rfl | simp only [ins_self, ins_ne D (show 12 ≠ 11 by decide), upd_self, upd_ne env39 x (show 12 ≠ 11 by decide), e11, cond_true, cond_false, List.cons_append, List.nil_append, List.append_nil]) (fun x => rfl) (OpR.toStrF (l := x44) (Src.row 1 rfl rfl) rfl rfl rfl rfl rfl rfl)
     refine oS (d := .val (.pointer (some ⟨(blk (vn w5 0)), 0, none⟩))) (fun _ => Want.bool rfl rfl rfl rfl (by rw [(c43)]; rfl)) (fun _ => rfl) (fun _ _ _ => rfl) (fun _ _ => OpR.pure rfl) (fun _ _ _ _ _ _ _ => rfl) ?_
     refine oS (d := .agg [.val (.int .i64 a2.fAt), .val (.int .i64 a2.fN)]) (fun _ => Want.bool rfl rfl rfl rfl (by rw [(c43)]; rfl)) (fun _ => rfl) (fun _ _ _ => rfl) (fun _ _ => OpR.pure rfl) (fun _ _ _ _ _ _ _ => rfl) ?_
     refine oS (d := .agg [.val (.int .i64 x45.fAt), .val (.int .i64 x45.fN)]) (fun _ => Want.bool rfl rfl rfl rfl (by rw [(c43)]; rfl)) (fun _ => rfl) (fun _ _ _ => rfl) (fun _ _ => OpR.call0 fn28 (law03_ours_c hx45) rfl) (fun _ _ _ _ _ _ _ => rfl) ?_
     refine OpsS.cons' true ?_ (fun _ _ _ _ _ _ _ => rfl) ?_
     · intro D env39 hA
       have e11 : D 11 = true := hA.yes 11 _ rfl rfl
       exact OpS.yes (o0 := [.var (blk (vn w5 0)) [.val (.string (bs u14))] 58, .row (vn (env39 11) 0) (List.map byteD x44) 1 5]) (o1 := fun x => [.var (blk (vn w5 0)) [.val (.string (bs u14))] 58, .row (vn (env39 11) 0) (List.map byteD x44) 1 5]) (d := fun x => .val (.string (bs x46))) (Want.bool rfl rfl rfl rfl (by rw [(c43)]; rfl)) (by first | rfl | simp only [e11, cond_true, cond_false, List.cons_append, List.nil_append, List.append_nil]) (fun x => by first | rfl | simp only [ins_self, ins_ne D (show 16 ≠ 11 by decide), upd_self, upd_ne env39 x (show 16 ≠ 11 by decide), e11, cond_true, cond_false, List.cons_append, List.nil_append, List.append_nil]) (fun x => rfl) (OpR.call [0] fn25 (ref03_Arena_Bytes_c hx46) rfl rfl rfl (fun _ => rfl))
     refine oS (d := .val (.bool (x44 == x46))) (fun _ => Want.bool rfl rfl rfl rfl (by rw [(c43)]; rfl)) (fun _ => rfl) (fun _ _ _ => rfl) (fun _ _ => OpR.cast (OpR.pure rfl) (boolE (strEq _ _))) (fun _ _ _ _ _ _ _ => rfl) ?_
     refine oS (d := .val (.bool (x44 == x46))) (fun _ => Want.plain rfl) (fun _ => rfl) (fun _ _ _ => rfl) (fun _ _ => OpR.pickT rfl (c43) rfl) (fun _ _ _ _ _ _ _ => rfl) ?_
     refine oS (d := .val (.bool (x44 == x46))) (fun _ => Want.plain rfl) (fun _ => rfl) (fun _ _ _ => rfl) (fun _ _ => OpR.pure rfl) (fun _ _ _ _ _ _ _ => rfl) ?_
     refine oS (d := .val (.bool x36.2)) (fun _ => Want.bool rfl rfl rfl rfl (by rw [(beq_iff_eq.2 c47)]; rfl)) (fun _ => rfl) (fun _ _ _ => rfl) (fun _ _ => OpR.pure rfl) (fun _ _ _ _ _ _ _ => rfl) ?_
     refine oS (d := .val (.string (bs x37))) (fun _ => Want.bool rfl rfl rfl rfl (by rw [(beq_iff_eq.2 c47)]; rfl)) (fun _ => rfl) (fun _ _ _ => rfl) (fun _ _ => OpR.pure rfl) (fun _ _ _ _ _ _ _ => rfl) ?_
     refine oS (d := .val (.int .i64 (x37.length : Int))) (fun _ => Want.bool rfl rfl rfl rfl (by rw [(beq_iff_eq.2 c47)]; rfl)) (fun _ => rfl) (fun _ _ _ => rfl) (fun _ _ => OpR.cast (OpR.pure rfl) (intE (lenS _))) (fun _ _ _ _ _ _ _ => rfl) ?_
     refine oS (d := .val (.bool ((x37.length : Int) == 1))) (fun _ => Want.bool rfl rfl rfl rfl (by rw [(beq_iff_eq.2 c47)]; rfl)) (fun _ => rfl) (fun _ _ _ => rfl) (fun _ _ => OpR.pure rfl) (fun _ _ _ _ _ _ _ => rfl) ?_
     refine oS (d := .val (.bool (x36.2 == ((x37.length : Int) == 1)))) (fun _ => Want.bool rfl rfl rfl rfl (by rw [(beq_iff_eq.2 c47)]; rfl)) (fun _ => rfl) (fun _ _ _ => rfl) (fun _ _ => OpR.eqBool rfl rfl rfl rfl) (fun _ _ _ _ _ _ _ => rfl) ?_
     refine oS (d := .val (.bool (x36.2 == ((x37.length : Int) == 1)))) (fun _ => Want.plain rfl) (fun _ => rfl) (fun _ _ _ => rfl) (fun _ _ => OpR.pickT rfl (beq_iff_eq.2 c47) rfl) (fun _ _ _ _ _ _ _ => rfl) ?_
     refine oS (d := .val (.bool (x36.2 == ((x37.length : Int) == 1)))) (fun _ => Want.plain rfl) (fun _ => rfl) (fun _ _ _ => rfl) (fun _ _ => OpR.pure rfl) (fun _ _ _ _ _ _ _ => rfl) ?_
     refine oS (d := .val (.bool x36.2)) (fun _ => Want.bool rfl rfl rfl rfl (by rw [(c48)]; rfl)) (fun _ => rfl) (fun _ _ _ => rfl) (fun _ _ => OpR.pure rfl) (fun _ _ _ _ _ _ _ => rfl) ?_
     refine oS (d := .val (.bool (!x36.2))) (fun _ => Want.bool rfl rfl rfl rfl (by rw [(c48)]; rfl)) (fun _ => rfl) (fun _ _ _ => rfl) (fun _ _ => OpR.pure rfl) (fun _ _ _ _ _ _ _ => rfl) ?_
     refine oS (d := .val (.bool (!x36.2))) (fun _ => Want.bool rfl rfl rfl rfl (by rw [(c48)]; rfl)) (fun _ => rfl) (fun _ _ _ => rfl) (fun _ _ => OpR.pure rfl) (fun _ _ _ _ _ _ _ => rfl) ?_
     refine oS (d := .val (.int .u8 (x36.1.toNat : Int))) (fun _ => Want.bool rfl rfl rfl rfl (by rw [(not_f (eq_false_of_ne_true c49))]; rfl)) (fun _ => rfl) (fun _ _ _ => rfl) (fun _ _ => OpR.pure rfl) (fun _ _ _ _ _ _ _ => rfl) ?_
     refine oS (d := .val (.bool ((x36.1.toNat : Int) == 0))) (fun _ => Want.bool rfl rfl rfl rfl (by rw [(not_f (eq_false_of_ne_true c49))]; rfl)) (fun _ => rfl) (fun _ _ _ => rfl) (fun _ _ => OpR.pure rfl) (fun _ _ _ _ _ _ _ => rfl) ?_
     refine oS (d := .val (.bool ((x36.1.toNat : Int) == 0))) (fun _ => Want.bool rfl rfl rfl rfl (by rw [(c48)]; rfl)) (fun _ => rfl) (fun _ _ _ => rfl) (fun _ _ => OpR.pickT rfl (not_f (eq_false_of_ne_true c49)) rfl) (fun _ _ _ _ _ _ _ => rfl) ?_
     refine oS (d := .val (.bool ((x36.1.toNat : Int) == 0))) (fun _ => Want.bool rfl rfl rfl rfl (by rw [(c48)]; rfl)) (fun _ => rfl) (fun _ _ _ => rfl) (fun _ _ => OpR.pure rfl) (fun _ _ _ _ _ _ _ => rfl) ?_
     refine oS (d := .val (.bool x36.2)) (fun _ => Want.bool rfl rfl rfl rfl (by rw [(beq_eq_false_iff_ne.2 c52)]; rfl)) (fun _ => rfl) (fun _ _ _ => rfl) (fun _ _ => OpR.pure rfl) (fun _ _ _ _ _ _ _ => rfl) ?_
     refine oS (d := .val (.bool x36.2)) (fun _ => Want.bool rfl rfl rfl rfl (by rw [(beq_eq_false_iff_ne.2 c52)]; rfl)) (fun _ => rfl) (fun _ _ _ => rfl) (fun _ _ => OpR.pure rfl) (fun _ _ _ _ _ _ _ => rfl) ?_
     refine OpsS.cons' false (fun D env39 hA => OpS.no (Want.bool rfl rfl rfl rfl (by rw [(eq_false_of_ne_true c49)]; rfl)) rfl rfl) (fun _ _ _ _ _ _ _ => rfl) ?_
     refine OpsS.cons' false (fun D env39 hA => OpS.no (Want.bool rfl rfl rfl rfl (by rw [(eq_false_of_ne_true c49)]; rfl)) rfl rfl) (fun _ _ _ _ _ _ _ => rfl) ?_
     refine OpsS.cons' false (fun D env39 hA => OpS.no (Want.bool rfl rfl rfl rfl (by rw [(eq_false_of_ne_true c49)]; rfl)) rfl rfl) (fun _ _ _ _ _ _ _ => rfl) ?_
     refine OpsS.cons' false (fun D env39 hA => OpS.no (Want.bool rfl rfl rfl rfl (by rw [(eq_false_of_ne_true c49)]; rfl)) rfl rfl) (fun _ _ _ _ _ _ _ => rfl) ?_
     refine OpsS.cons' false (fun D env39 hA => OpS.no (Want.bool rfl rfl rfl rfl (by rw [(eq_false_of_ne_true c49)]; rfl)) rfl rfl) (fun _ _ _ _ _ _ _ => rfl) ?_
     refine oS (d := .val (.bool false)) (fun _ => Want.bool rfl rfl rfl rfl (by rw [(beq_eq_false_iff_ne.2 c52)]; rfl)) (fun _ => rfl) (fun _ _ _ => rfl) (fun _ _ => OpR.pickF rfl (eq_false_of_ne_true c49) rfl) (fun _ _ _ _ _ _ _ => rfl) ?_
     refine oS (d := .val (.bool false)) (fun _ => Want.bool rfl rfl rfl rfl (by rw [(c48)]; rfl)) (fun _ => rfl) (fun _ _ _ => rfl) (fun _ _ => OpR.pickF rfl (beq_eq_false_iff_ne.2 c52) rfl) (fun _ _ _ _ _ _ _ => rfl) ?_
     refine oS (d := .val (.bool false)) (fun _ => Want.plain rfl) (fun _ => rfl) (fun _ _ _ => rfl) (fun _ _ => OpR.pickT rfl (c48) rfl) (fun _ _ _ _ _ _ _ => rfl) ?_
     refine oS (d := .val (.bool false)) (fun _ => Want.plain rfl) (fun _ => rfl) (fun _ _ _ => rfl) (fun _ _ => OpR.pure rfl) (fun _ _ _ _ _ _ _ => rfl) ?_
     refine OpsS.cons' false (fun D env39 hA => OpS.no (Want.bool rfl rfl rfl rfl rfl) rfl rfl) (fun _ _ _ _ _ _ _ => rfl) ?_
     refine oS (d := .val (.bool false)) (fun _ => Want.plain rfl) (fun _ => rfl) (fun _ _ _ => rfl) (fun _ _ => OpR.pickF rfl rfl rfl) (fun _ _ _ _ _ _ _ => rfl) ?_
     refine oS (d := .val (.bool false)) (fun _ => Want.plain rfl) (fun _ => rfl) (fun _ _ _ => rfl) (fun _ _ => OpR.pure rfl) (fun _ _ _ _ _ _ _ => rfl) ?_
     exact trivial
   rcases ite_some ht38 with ⟨c50, ht38⟩ | ⟨c50, ht38⟩
   rotate_left
   · refine T.drawS drawsX (fun env39 => [.val (.pointer none), .agg [.val (.int .i64 a2.fAt), .val (.int .i64 a2.fN)], .val (.bool x40), .val (.pointer (some ⟨(blk (vn w5 0)), 0, none⟩)), .agg [.val (.int .i64 a2.fAt), .val (.int .i64 a2.fN)], .agg [.val (.int .i64 x41.fAt), .val (.int .i64 x41.fN)], .val (.bool x42), .val (.bool (x40 == x42)), .val (.bool (x40 == x42)), .val (.pointer none), .agg [.val (.int .i64 a2.fAt), .val (.int .i64 a2.fN)], .val (vn (env39 11) 0), .val (.string (bs x44)), .val (.pointer (some ⟨(blk (vn w5 0)), 0, none⟩)), .agg [.val (.int .i64 a2.fAt), .val (.int .i64 a2.fN)], .agg [.val (.int .i64 x45.fAt), .val (.int .i64 x45.fN)], .val (.string (bs x46)), .val (.bool (x44 == x46)), .val (.bool (x44 == x46)), .val (.bool (x44 == x46)), .val (.bool x36.2), .val (.string (bs x37)), .val (.int .i64 (x37.length : Int)), .val (.bool ((x37.length : Int) == 1)), .val (.bool (x36.2 == ((x37.length : Int) == 1))), .val (.bool (x36.2 == ((x37.length : Int) == 1))), .val (.bool (x36.2 == ((x37.length : Int) == 1))), .val (.bool x36.2), .val (.bool (!x36.2)), .val (.bool (!x36.2)), .tup [], .tup [], .val (.bool false), .val (.bool false), .val (.bool x36.2), .val (.bool x36.2), .val (.int .u8 (x36.1.toNat : Int)), .sl 1 (List.map byteD [x36.1]), .val (.string (bs [x36.1])), .val (.string (bs x37)), .val (.bool ([x36.1] == x37)), .val (.bool ([x36.1] == x37)), .val (.bool ([x36.1] == x37)), .val (.bool ([x36.1] == x37)), .val (.bool ([x36.1] == x37)), .tup [], .val (.bool false), .val (.bool false)]) (fun D env39 => [.var (blk (vn w5 0)) [.val (.string (bs u14))] 58] ++ bif D 11 then [.row (vn (env39 11) 0) (List.map byteD x44) 1 5] else []) [0, 0, 3, 0, 0, 23, 63, 127, 255, 511, 511, 2047, 4095, 511, 511, 20479, 61439, 131071, 262143, 524287, 1048575, 1048575, 3145727, 7340031, 16777215, 33554431, 67108863, 134217727, 268435455, 536870911, 1073741823, 2147483647, 4294967295, 8589934591, 17179869183, 34359738367, 68719476735, 137438953471, 274877906943, 68719476735, 1099511627775, 2199023255551, 4398046511103, 8796093022207, 17592186044415, 35184372088831, 70368744177663, 140737488355327] [5, 6, 7, 9, 13, 14, 15, 82, 83, 84, 85, 86, 87, 88, 89, 90, 91, 92, 93, 94, 95, 96, 97, 98, 99, 100, 101, 102, 103, 104, 105, 106, 107, 108, 109, 110, 111, 112, 113, 114, 115, 116, 117, 118, 119, 120, 121, 122, 123, 124, 125, 126, 127, 128, 129, 130, 131, 132, 133, 134, 135, 136, 137, 138, 139, 140] (fun env39 => [.var (blk (vn w5 0)) [.val (.string (bs u14))] 58, .row (vn (env39 11) 0) (List.map byteD x44) 1 5]) (by decide +kernel) (by decide +kernel) (fun _ => rfl) (fun _ => rfl) ?_ (fun _ => rfl) (fun _ => rfl) ?_
     rotate_left
     · intro env39
       obtain rfl := Option.some.inj ht38
       exact ⟨_, Gst.trans (Gst.only [6] rfl) (Gst.pick [] rfl rfl), rfl⟩
     refine oS (d := .val (.pointer none)) (fun _ => Want.plain rfl) (fun _ => rfl) (fun _ _ _ => rfl) (fun _ _ => OpR.pure rfl) (fun _ _ _ _ _ _ _ => rfl) ?_
     refine oS (d := .agg [.val (.int .i64 a2.fAt), .val (.int .i64 a2.fN)]) (fun _ => Want.plain rfl) (fun _ => rfl) (fun _ _ _ => rfl) (fun _ _ => OpR.pure rfl) (fun _ _ _ _ _ _ _ => rfl) ?_
     refine oS (d := .val (.bool x40)) (fun _ => Want.plain rfl) (fun _ => rfl) (fun _ _ _ => rfl) (fun _ _ => OpR.call0 fn26 (arena_Arena_Right_2_c hx40) rfl) (fun _ _ _ _ _ _ _ => rfl) ?_
     refine oS (d := .val (.pointer (some ⟨(blk (vn w5 0)), 0, none⟩))) (fun _ => Want.plain rfl) (fun _ => rfl) (fun _ _ _ => rfl) (fun _ _ => OpR.pure rfl) (fun _ _ _ _ _ _ _ => rfl) ?_
     refine oS (d := .agg [.val (.int .i64 a2.fAt), .val (.int .i64 a2.fN)]) (fun _ => Want.plain rfl) (fun _ => rfl) (fun _ _ _ => rfl) (fun _ _ => OpR.pure rfl) (fun _ _ _ _ _ _ _ => rfl) ?_
     refine oS (d := .agg [.val (.int .i64 x41.fAt), .val (.int .i64 x41.fN)]) (fun _ => Want.plain rfl) (fun _ => rfl) (fun _ _ _ => rfl) (fun _ _ => OpR.call0 fn28 (law03_ours_c hx41) rfl) (fun _ _ _ _ _ _ _ => rfl) ?_
     refine OpsS.cons' true ?_ (fun _ _ _ _ _ _ _ => rfl) ?_
     · intro D env39 hA
       have e11 : D 11 = false := hA.no 11 _ rfl rfl
       exact OpS.yes (o0 := [.var (blk (vn w5 0)) [.val (.string (bs u14))] 58]) (o1 := fun x => [.var (blk (vn w5 0)) [.val (.string (bs u14))] 58]) (d := fun x => .val (.bool x42)) (Want.plain rfl) (by first | rfl | simp only [e11, cond_true, cond_false, List.cons_append, List.nil_append, List.append_nil]) (fun x => by first | rfl | simp only [ins_self, ins_ne D (show 6 ≠ 11 by decide), upd_self, upd_ne env39 x (show 6 ≠ 11 by decide), e11, cond_true, cond_false, List.cons_append, List.nil_append, List.append_nil]) (fun x => rfl) (OpR.call [0] fn27 (ref03_Arena_Right_c hx42) rfl rfl rfl (fun _ => rfl))
     refine oS (d := .val (.bool (x40 == x42))) (fun _ => Want.plain rfl) (fun _ => rfl) (fun _ _ _ => rfl) (fun _ _ => OpR.eqBool rfl rfl rfl rfl) (fun _ _ _ _ _ _ _ => rfl) ?_
     refine oS (d := .val (.bool (x40 == x42))) (fun _ => Want.plain rfl) (fun _ => rfl) (fun _ _ _ => rfl) (fun _ _ => OpR.pure rfl) (fun _ _ _ _ _ _ _ => rfl) ?_
     refine oS (d := .val (.pointer none)) (fun _ => Want.bool rfl rfl rfl rfl (by rw [(c43)]; rfl)) (fun _ => rfl) (fun _ _ _ => rfl) (fun _ _ => OpR.pure rfl) (fun _ _ _ _ _ _ _ => rfl) ?_
     refine oS (d := .agg [.val (.int .i64 a2.fAt), .val (.int .i64 a2.fN)]) (fun _ => Want.bool rfl rfl rfl rfl (by rw [(c43)]; rfl)) (fun _ => rfl) (fun _ _ _ => rfl) (fun _ _ => OpR.pure rfl) (fun _ _ _ _ _ _ _ => rfl) ?_
     refine OpsS.cons' true ?_ (fun D hA env39 x j hj hD => match j, hj, hD with | 0, _, _ => rfl | 1, _, _ => rfl | 2, _, _ => rfl | 3, _, _ => rfl | 4, _, _ => rfl | 5, _, _ => rfl | 6, _, _ => rfl | 7, _, _ => rfl | 8, _, _ => rfl | 9, _, _ => rfl | 10, _, _ => rfl | 11, hj, _ => absurd rfl hj | 12, _, _ => rfl | 13, _, _ => rfl | 14, _, _ => rfl | 15, _, _ => rfl | 16, _, _ => rfl | 17, _, _ => rfl | 18, _, _ => rfl | 19, _, _ => rfl | 20, _, _ => rfl | 21, _, _ => rfl | 22, _, _ => rfl | 23, _, _ => rfl | 24, _, _ => rfl | 25, _, _ => rfl | 26, _, _ => rfl | 27, _, _ => rfl | 28, _, _ => rfl | 29, _, _ => rfl | 30, _, _ => rfl | 31, _, _ => rfl | 32, _, _ => rfl | 33, _, _ => rfl | 34, _, _ => rfl | 35, _, _ => rfl | 36, _, _ => rfl | 37, _, _ => rfl | 38, _, _ => rfl | 39, _, _ => rfl | 40, _, _ => rfl | 41, _, _ => rfl | 42, _, _ => rfl | 43, _, _ => rfl | 44, _, _ => rfl | 45, _, _ => rfl | 46, _, _ => rfl | 47, _, _ => rfl | _ + 48, _, _ => rfl) ?_
     · intro D env39 hA
       exact OpS.yes (o0 := [.var (blk (vn w5 0)) [.val (.string (bs u14))] 58]) (o1 := fun x => [.var (blk (vn w5 0)) [.val (.string (bs u14))] 58, .row (vn x 0) (List.map byteD x44) 1 5]) (d := fun x => .val (vn x 0)) (Want.bool rfl rfl rfl rfl (by rw [(c43)]; rfl)) (by first | rfl | simp only [hA.me, cond_true, cond_false, List.cons_append, List.nil_append, List.append_nil]) (fun x => by first | rfl | simp only [ins_self, upd_self, hA.me, cond_true, cond_false, List.cons_append, List.nil_append, List.append_nil]) (fun x => rfl) (OpR.call [] fn18 (arena_Arena_Bytes_2_c hx44) rfl rfl rfl (fun _ => rfl))
     refine OpsS.cons' true ?_ (fun _ _ _ _ _ _ _ => rfl) ?_
     · intro D env39 hA
       have e11 : D 11 = true := hA.yes 11 _ rfl rfl
       exact OpS.yes (o0 := [.var (blk (vn w5 0)) [.val (.string (bs u14))] 58, .row (vn (env39 11) 0) (List.map byteD x44) 1 5]) (o1 := fun x => [.var (blk (vn w5 0)) [.val (.string (bs u14))] 58, .row (vn (env39 11) 0) (List.map byteD x44) 1 5]) (d := fun x => .val (.string (bs x44))) (Want.bool rfl rfl rfl rfl (by rw [(c43)]; rfl)) (by first | rfl | simp only [e11, cond_true, cond_false, List.cons_append, List.nil_append, List.append_nil]) (fun x => by first | rfl | simp only [ins_self, ins_ne D (show 12 ≠ 11 by decide), upd_self, upd_ne env39 x (show 12 ≠ 11 by decide), e11, cond_true, cond_false, List.cons_append, List.nil_append, List.append_nil]) (fun x => rfl) (OpR.toStrF (l := x44) (Src.row 1 rfl rfl) rfl rfl rfl rfl rfl rfl)
     refine oS (d := .val (.pointer (some ⟨(blk (vn w5 0)), 0, none⟩))) (fun _ => Want.bool rfl rfl rfl rfl (by rw [(c43)]; rfl)) (fun _ => rfl) (fun _ _ _ => rfl) (fun _ _ => OpR.pure rfl) (fun _ _ _ _ _ _ _ => rfl) ?_
     refine oS (d := .agg [.val (.int .i64 a2.fAt), .val (.int .i64 a2.fN)]) (fun _ => Want.bool rfl rfl rfl rfl (by rw [(c43)]; rfl)) (fun _ => rfl) (fun _ _ _ => rfl) (fun _ _ => OpR.pure rfl) (fun _ _ _ _ _ _ _ => rfl) ?_
     refine oS (d := .agg [.val (.int .i64 x45.fAt), .val (.int .i64 x45.fN)]) (fun _ => Want.bool rfl rfl rfl rfl (by rw [(c43)]; rfl)) (fun _ => rfl) (fun _ _ _ => rfl) (fun _ _ => OpR.call0 fn28 (law03_ours_c hx45) rfl) (fun _ _ _ _ _ _ _ => rfl) ?_
     refine OpsS.cons' true ?_ (fun _ _ _ _ _ _ _ => rfl) ?_
     · intro D env39 hA
       have e11 : D 11 = true := hA.yes 11 _ rfl rfl
       exact OpS.yes (o0 := [.var (blk (vn w5 0)) [.val (.string (bs u14))] 58, .row (vn (env39 11) 0) (List.map byteD x44) 1 5]) (o1 := fun x => [.var (blk (vn w5 0)) [.val (.string (bs u14))] 58, .row (vn (env39 11) 0) (List.map byteD x44) 1 5]) (d := fun x => .val (.string (bs x46))) (Want.bool rfl rfl rfl rfl (by rw [(c43)]; rfl)) (by first | rfl | simp only [e11, cond_true, cond_false, List.cons_append, List.nil_append, List.append_nil]) (fun x => by first | rfl | simp only [ins_self, ins_ne D (show 16 ≠ 11 by decide), upd_self, upd_ne env39 x (show 16 ≠ 11 by decide), e11, cond_true, cond_false, List.cons_append, List.nil_append, List.append_nil]) (fun x => rfl) (OpR.call [0] fn25 (ref03_Arena_Bytes_c hx46) rfl rfl rfl (fun _ => rfl))
     refine oS (d := .val (.bool (x44 == x46))) (fun _ => Want.bool rfl rfl rfl rfl (by rw [(c43)]; rfl)) (fun _ => rfl) (fun _ _ _ => rfl) (fun _ _ => OpR.cast (OpR.pure rfl) (boolE (strEq _ _))) (fun _ _ _ _ _ _ _ => rfl) ?_
     refine oS (d := .val (.bool (x44 == x46))) (fun _ => Want.plain rfl) (fun _ => rfl) (fun _ _ _ => rfl) (fun _ _ => OpR.pickT rfl (c43) rfl) (fun _ _ _ _ _ _ _ => rfl) ?_
     refine oS (d := .val (.bool (x44 == x46))) (fun _ => Want.plain rfl) (fun _ => rfl) (fun _ _ _ => rfl) (fun _ _ => OpR.pure rfl) (fun _ _ _ _ _ _ _ => rfl) ?_
     refine oS (d := .val (.bool x36.2)) (fun _ => Want.bool rfl rfl rfl rfl (by rw [(beq_iff_eq.2 c47)]; rfl)) (fun _ => rfl) (fun _ _ _ => rfl) (fun _ _ => OpR.pure rfl) (fun _ _ _ _ _ _ _ => rfl) ?_
     refine oS (d := .val (.string (bs x37))) (fun _ => Want.bool rfl rfl rfl rfl (by rw [(beq_iff_eq.2 c47)]; rfl)) (fun _ => rfl) (fun _ _ _ => rfl) (fun _ _ => OpR.pure rfl) (fun _ _ _ _ _ _ _ => rfl) ?_
     refine oS (d := .val (.int .i64 (x37.length : Int))) (fun _ => Want.bool rfl rfl rfl rfl (by rw [(beq_iff_eq.2 c47)]; rfl)) (fun _ => rfl) (fun _ _ _ => rfl) (fun _ _ => OpR.cast (OpR.pure rfl) (intE (lenS _))) (fun _ _ _ _ _ _ _ => rfl) ?_
     refine oS (d := .val (.bool ((x37.length : Int) == 1))) (fun _ => Want.bool rfl rfl rfl rfl (by rw [(beq_iff_eq.2 c47)]; rfl)) (fun _ => rfl) (fun _ _ _ => rfl) (fun _ _ => OpR.pure rfl) (fun _ _ _ _ _ _ _ => rfl) ?_
     refine oS (d := .val (.bool (x36.2 == ((x37.length : Int) == 1)))) (fun _ => Want.bool rfl rfl rfl rfl (by rw [(beq_iff_eq.2 c47)]; rfl)) (fun _ => rfl) (fun _ _ _ => rfl) (fun _ _ => OpR.eqBool rfl rfl rfl rfl) (fun _ _ _ _ _ _ _ => rfl) ?_
     refine oS (d := .val (.bool (x36.2 == ((x37.length : Int) == 1)))) (fun _ => Want.plain rfl) (fun _ => rfl) (fun _ _ _ => rfl) (fun _ _ => OpR.pickT rfl (beq_iff_eq.2 c47) rfl) (fun _ _ _ _ _ _ _ => rfl) ?_
     refine oS (d := .val (.bool (x36.2 == ((x37.length : Int) == 1)))) (fun _ => Want.plain rfl) (fun _ => rfl) (fun _ _ _ => rfl) (fun _ _ => OpR.pure rfl) (fun _ _ _ _ _ _ _ => rfl) ?_
     refine oS (d := .val (.bool x36.2)) (fun _ => Want.bool rfl rfl rfl rfl (by rw [(c48)]; rfl)) (fun _ => rfl) (fun _ _ _ => rfl) (fun _ _ => OpR.pure rfl) (fun _ _ _ _ _ _ _ => rfl) ?_
     refine oS (d := .val (.bool (!x36.2))) (fun _ => Want.bool rfl rfl rfl rfl (by rw [(c48)]; rfl)) (fun _ => rfl) (fun _ _ _ => rfl) (fun _ _ => OpR.pure rfl) (fun _ _ _ _ _ _ _ => rfl) ?_
     refine oS (d := .val (.bool (!x36.2))) (fun _ => Want.bool rfl rfl rfl rfl (by rw [(c48)]; rfl)) (fun _ => rfl) (fun _ _ _ => rfl) (fun _ _ => OpR.pure rfl) (fun _ _ _ _ _ _ _ => rfl) ?_
     refine OpsS.cons' false (fun D env39 hA => OpS.no (Want.bool rfl rfl rfl rfl (by rw [(not_t (c49))]; rfl)) rfl rfl) (fun _ _ _ _ _ _ _ => rfl) ?_
     refine OpsS.cons' false (fun D env39 hA => OpS.no (Want.bool rfl rfl rfl rfl (by rw [(not_t (c49))]; rfl)) rfl rfl) (fun _ _ _ _ _ _ _ => rfl) ?_
     refine oS (d := .val (.bool false)) (fun _ => Want.bool rfl rfl rfl rfl (by rw [(c48)]; rfl)) (fun _ => rfl) (fun _ _ _ => rfl) (fun _ _ => OpR.pickF rfl (not_t (c49)) rfl) (fun _ _ _ _ _ _ _ => rfl) ?_
     refine oS (d := .val (.bool false)) (fun _ => Want.bool rfl rfl rfl rfl (by rw [(c48)]; rfl)) (fun _ => rfl) (fun _ _ _ => rfl) (fun _ _ => OpR.pure rfl) (fun _ _ _ _ _ _ _ => rfl) ?_
     refine oS (d := .val (.bool x36.2)) (fun _ => Want.bool rfl rfl rfl rfl rfl) (fun _ => rfl) (fun _ _ _ => rfl) (fun _ _ => OpR.pure rfl) (fun _ _ _ _ _ _ _ => rfl) ?_
     refine oS (d := .val (.bool x36.2)) (fun _ => Want.bool rfl rfl rfl rfl rfl) (fun _ => rfl) (fun _ _ _ => rfl) (fun _ _ => OpR.pure rfl) (fun _ _ _ _ _ _ _ => rfl) ?_
     refine oS (d := .val (.int .u8 (x36.1.toNat : Int))) (fun _ => Want.bool rfl rfl rfl rfl (by rw [(c49)]; rfl)) (fun _ => rfl) (fun _ _ _ => rfl) (fun _ _ => OpR.pure rfl) (fun _ _ _ _ _ _ _ => rfl) ?_
     refine oS (d := .sl 1 (List.map byteD [x36.1])) (fun _ => Want.bool rfl rfl rfl rfl (by rw [(c49)]; rfl)) (fun _ => rfl) (fun _ _ _ => rfl) (fun _ _ => OpR.lit rfl rfl rfl rfl rfl rfl rfl) (fun _ _ _ _ _ _ _ => rfl) ?_
     refine oS (d := .val (.string (bs [x36.1]))) (fun _ => Want.bool rfl rfl rfl rfl (by rw [(c49)]; rfl)) (fun _ => rfl) (fun _ _ _ => rfl) (fun _ _ => OpR.toStr (bs := [x36.1]) rfl rfl rfl rfl rfl rfl rfl) (fun _ _ _ _ _ _ _ => rfl) ?_
     refine oS (d := .val (.string (bs x37))) (fun _ => Want.bool rfl rfl rfl rfl (by rw [(c49)]; rfl)) (fun _ => rfl) (fun _ _ _ => rfl) (fun _ _ => OpR.pure rfl) (fun _ _ _ _ _ _ _ => rfl) ?_
     refine oS (d := .val (.bool ([x36.1] == x37))) (fun _ => Want.bool rfl rfl rfl rfl (by rw [(c49)]; rfl)) (fun _ => rfl) (fun _ _ _ => rfl) (fun _ _ => OpR.cast (OpR.pure rfl) (boolE (strEq _ _))) (fun _ _ _ _ _ _ _ => rfl) ?_
     refine oS (d := .val (.bool ([x36.1] == x37))) (fun _ => Want.bool rfl rfl rfl rfl rfl) (fun _ => rfl) (fun _ _ _ => rfl) (fun _ _ => OpR.pickT rfl (c49) rfl) (fun _ _ _ _ _ _ _ => rfl) ?_
     refine oS (d := .val (.bool ([x36.1] == x37))) (fun _ => Want.bool rfl rfl rfl rfl (by rw [(c48)]; rfl)) (fun _ => rfl) (fun _ _ _ => rfl) (fun _ _ => OpR.pickF rfl rfl rfl) (fun _ _ _ _ _ _ _ => rfl) ?_
     refine oS (d := .val (.bool ([x36.1] == x37))) (fun _ => Want.plain rfl) (fun _ => rfl) (fun _ _ _ => rfl) (fun _ _ => OpR.pickT rfl (c48) rfl) (fun _ _ _ _ _ _ _ => rfl) ?_
     refine oS (d := .val (.bool ([x36.1] == x37))) (fun _ => Want.plain rfl) (fun _ => rfl) (fun _ _ _ => rfl) (fun _ _ => OpR.pure rfl) (fun _ _ _ _ _ _ _ => rfl) ?_
     refine OpsS.cons' false (fun D env39 hA => OpS.no (Want.bool rfl rfl rfl rfl (by rw [(beq_eq_false_iff_ne.2 c50)]; rfl)) rfl rfl) (fun _ _ _ _ _ _ _ => rfl) ?_
     refine oS (d := .val (.bool false)) (fun _ => Want.plain rfl) (fun _ => rfl) (fun _ _ _ => rfl) (fun _ _ => OpR.pickF rfl (beq_eq_false_iff_ne.2 c50) rfl) (fun _ _ _ _ _ _ _ => rfl) ?_
     refine oS (d := .val (.bool false)) (fun _ => Want.plain rfl) (fun _ => rfl) (fun _ _ _ => rfl) (fun _ _ => OpR.pure rfl) (fun _ _ _ _ _ _ _ => rfl) ?_
     exact trivial
   obtain ⟨x51, hx51, ht38⟩ := bnd_some ht38
   refine T.drawS drawsX (fun env39 => [.val (.pointer none), .agg [.val (.int .i64 a2.fAt), .val (.int .i64 a2.fN)], .val (.bool x40), .val (.pointer (some ⟨(blk (vn w5 0)), 0, none⟩)), .agg [.val (.int .i64 a2.fAt), .val (.int .i64 a2.fN)], .agg [.val (.int .i64 x41.fAt), .val (.int .i64 x41.fN)], .val (.bool x42), .val (.bool (x40 == x42)), .val (.bool (x40 == x42)), .val (.pointer none), .agg [.val (.int .i64 a2.fAt), .val (.int .i64 a2.fN)], .val (vn (env39 11) 0), .val (.string (bs x44)), .val (.pointer (some ⟨(blk (vn w5 0)), 0, none⟩)), .agg [.val (.int .i64 a2.fAt), .val (.int .i64 a2.fN)], .agg [.val (.int .i64 x45.fAt), .val (.int .i64 x45.fN)], .val (.string (bs x46)), .val (.bool (x44 == x46)), .val (.bool (x44 == x46)), .val (.bool (x44 == x46)), .val (.bool x36.2), .val (.string (bs x37)), .val (.int .i64 (x37.length : Int)), .val (.bool ((x37.length : Int) == 1)), .val (.bool (x36.2 == ((x37.length : Int) == 1))), .val (.bool (x36.2 == ((x37.length : Int) == 1))), .val (.bool (x36.2 == ((x37.length : Int) == 1))), .val (.bool x36.2), .val (.bool (!x36.2)), .val (.bool (!x36.2)), .tup [], .tup [], .val (.bool false), .val (.bool false), .val (.bool x36.2), .val (.bool x36.2), .val (.int .u8 (x36.1.toNat : Int)), .sl 1 (List.map byteD [x36.1]), .val (.string (bs [x36.1])), .val (.string (bs x37)), .val (.bool ([x36.1] == x37)), .val (.bool ([x36.1] == x37)), .val (.bool ([x36.1] == x37)), .val (.bool ([x36.1] == x37)), .val (.bool ([x36.1] == x37)), .val (.bool x51), .val (.bool x51), .val (.bool x51)]) (fun D env39 => [.var (blk (vn w5 0)) [.val (.string (bs u14))] 58] ++ bif D 11 then [.row (vn (env39 11) 0) (List.map byteD x44) 1 5] else []) [0, 0, 3, 0, 0, 23, 63, 127, 255, 511, 511, 2047, 4095, 511, 511, 20479, 61439, 131071, 262143, 524287, 1048575, 1048575, 3145727, 7340031, 16777215, 33554431, 67108863, 134217727, 268435455, 536870911, 1073741823, 2147483647, 4294967295, 8589934591, 17179869183, 34359738367, 68719476735, 137438953471, 274877906943, 68719476735, 1099511627775, 2199023255551, 4398046511103, 8796093022207, 17592186044415, 35184372088831, 70368744177663, 140737488355327] [5, 6, 7, 9, 13, 14, 15, 82, 83, 84, 85, 86, 87, 88, 89, 90, 91, 92, 93, 94, 95, 96, 97, 98, 99, 100, 101, 102, 103, 104, 105, 106, 107, 108, 109, 110, 111, 112, 113, 114, 115, 116, 117, 118, 119, 120, 121, 122, 123, 124, 125, 126, 127, 128, 129, 130, 131, 132, 133, 134, 135, 136, 137, 138, 139, 140] (fun env39 => [.var (blk (vn w5 0)) [.val (.string (bs u14))] 58, .row (vn (env39 11) 0) (List.map byteD x44) 1 5]) (by decide +kernel) (by decide +kernel) (fun _ => rfl) (fun _ => rfl) ?_ (fun _ => rfl) (fun _ => rfl) ?_
   rotate_left
   · intro env39
     obtain rfl := Option.some.inj ht38
     exact ⟨_, Gst.trans (Gst.only [6] rfl) (Gst.pick [] rfl rfl), rfl⟩
   refine oS (d := .val (.pointer none)) (fun _ => Want.plain rfl) (fun _ => rfl) (fun _ _ _ => rfl) (fun _ _ => OpR.pure rfl) (fun _ _ _ _ _ _ _ => rfl) ?_
   refine oS (d := .agg [.val (.int .i64 a2.fAt), .val (.int .i64 a2.fN)]) (fun _ => Want.plain rfl) (fun _ => rfl) (fun _ _ _ => rfl) (fun _ _ => OpR.pure rfl) (fun _ _ _ _ _ _ _ => rfl) ?_
   refine oS (d := .val (.bool x40)) (fun _ => Want.plain rfl) (fun _ => rfl) (fun _ _ _ => rfl) (fun _ _ => OpR.call0 fn26 (arena_Arena_Right_2_c hx40) rfl) (fun _ _ _ _ _ _ _ => rfl) ?_
   refine oS (d := .val (.pointer (some ⟨(blk (vn w5 0)), 0, none⟩))) (fun _ => Want.plain rfl) (fun _ => rfl) (fun _ _ _ => rfl) (fun _ _ => OpR.pure rfl) (fun _ _ _ _ _ _ _ => rfl) ?_
   refine oS (d := .agg [.val (.int .i64 a2.fAt), .val (.int .i64 a2.fN)]) (fun _ => Want.plain rfl) (fun _ => rfl) (fun _ _ _ => rfl) (fun _ _ => OpR.pure rfl) (fun _ _ _ _ _ _ _ => rfl) ?_
   refine oS (d := .agg [.val (.int .i64 x41.fAt), .val (.int .i64 x41.fN)]) (fun _ => Want.plain rfl) (fun _ => rfl) (fun _ _ _ => rfl) (fun _ _ => OpR.call0 fn28 (law03_ours_c hx41) rfl) (fun _ _ _ _ _ _ _ => rfl) ?_
   refine OpsS.cons' true ?_ (fun _ _ _ _ _ _ _ => rfl) ?_
   · intro D env39 hA
     have e11 : D 11 = false := hA.no 11 _ rfl rfl
     exact OpS.yes (o0 := [.var (blk (vn w5 0)) [.val (.string (bs u14))] 58]) (o1 := fun x => [.var (blk (vn w5 0)) [.val (.string (bs u14))] 58]) (d := fun x => .val (.bool x42)) (Want.plain rfl) (by first | rfl | simp only [e11, cond_true, cond_false, List.cons_append, List.nil_append, List.append_nil]) (fun x => by first | rfl | simp only [ins_self, ins_ne D (show 6 ≠ 11 by decide), upd_self, upd_ne env39 x (show 6 ≠ 11 by decide), e11, cond_true, cond_false, List.cons_append, List.nil_append, List.append_nil]) (fun x => rfl) (OpR.call [0] fn27 (ref03_Arena_Right_c hx42) rfl rfl rfl (fun _ => rfl))
   refine oS (d := .val (.bool (x40 == x42))) (fun _ => Want.plain rfl) (fun _ => rfl) (fun _ _ _ => rfl) (fun _ _ => OpR.eqBool rfl rfl rfl rfl) (fun _ _ _ _ _ _ _ => rfl) ?_
   refine oS (d := .val (.bool (x40 == x42))) (fun _ => Want.plain rfl) (fun _ => rfl) (fun _ _ _ => rfl) (fun _ _ => OpR.pure rfl) (fun _ _ _ _ _ _ _ => rfl) ?_
   refine oS (d := .val (.pointer none)) (fun _ => Want.bool rfl rfl rfl rfl (by rw [(c43)]; rfl)) (fun _ => rfl) (fun _ _ _ => rfl) (fun _ _ => OpR.pure rfl) (fun _ _ _ _ _ _ _ => rfl) ?_
   refine oS (d := .agg [.val (.int .i64 a2.fAt), .val (.int .i64 a2.fN)]) (fun _ => Want.bool rfl rfl rfl rfl (by rw [(c43)]; rfl)) (fun _ => rfl) (fun _ _ _ => rfl) (fun _ _ => OpR.pure rfl) (fun _ _ _ _ _ _ _ => rfl) ?_
   refine OpsS.cons' true ?_ (fun D hA env39 x j hj hD => match j, hj, hD with | 0, _, _ => rfl | 1, _, _ => rfl | 2, _, _ => rfl | 3, _, _ => rfl | 4, _, _ => rfl | 5, _, _ => rfl | 6, _, _ => rfl | 7, _, _ => rfl | 8, _, _ => rfl | 9, _, _ => rfl | 10, _, _ => rfl | 11, hj, _ => absurd rfl hj | 12, _, _ => rfl | 13, _, _ => rfl | 14, _, _ => rfl | 15, _, _ => rfl | 16, _, _ => rfl | 17, _, _ => rfl | 18, _, _ => rfl | 19, _, _ => rfl | 20, _, _ => rfl | 21, _, _ => rfl | 22, _, _ => rfl | 23, _, _ => rfl | 24, _, _ => rfl | 25, _, _ => rfl | 26, _, _ => rfl | 27, _, _ => rfl | 28, _, _ => rfl | 29, _, _ => rfl | 30, _, _ => rfl | 31, _, _ => rfl | 32, _, _ => rfl | 33, _, _ => rfl | 34, _, _ => rfl | 35, _, _ => rfl | 36, _, _ => rfl | 37, _, _ => rfl | 38, _, _ => rfl | 39, _, _ => rfl | 40, _, _ => rfl | 41, _, _ => rfl | 42, _, _ => rfl | 43, _, _ => rfl | 44, _, _ => rfl | 45, _, _ => rfl | 46, _, _ => rfl | 47, _, _ => rfl | _ + 48, _, _ => rfl) ?_
   · intro D env39 hA
     exact OpS.yes (o0 := [.var (blk (vn w5 0)) [.val (.string (bs u14))] 58]) (o1 := fun x => [.var (blk (vn w5 0)) [.val (.string (bs u14))] 58, .row (vn x 0) (List.map byteD x44) 1 5]) (d := fun x => .val (vn x 0)) (Want.bool rfl rfl rfl rfl (by rw [(c43)]; rfl)) (by first | rfl | simp only [hA.me, cond_true, cond_false, List.cons_append, List.nil_append, List.append_nil]) (fun x => by first | rfl | simp only [ins_self, upd_self, hA.me, cond_true, cond_false, List.cons_append, List.nil_append, List.append_nil]) (fun x => rfl) (OpR.call [] fn18 (arena_Arena_Bytes_2_c hx44) rfl rfl rfl (fun _ => rfl))
   refine OpsS.cons' true ?_ (fun _ _ _ _ _ _ _ => rfl) ?_
   · intro D env39 hA
     have e11 : D 11 = true := hA.yes 11 _ rfl rfl
     exact OpS.yes (o0 := [.var (blk (vn w5 0)) [.val (.string (bs u14))] 58, .row (vn (env39 11) 0) (List.map byteD x44) 1 5]) (o1 := fun x => [.var (blk (vn w5 0)) [.val (.string (bs u14))] 58, .row (vn (env39 11) 0) (List.map byteD x44) 1 5]) (d := fun x => .val (.string (bs x44))) (Want.bool rfl rfl rfl rfl (by rw [(c43)]; rfl)) (by first | rfl | simp only [e11, cond_true, cond_false, List.cons_append, List.nil_append, List.append_nil]) (fun x => by first | rfl | simp only [ins_self, ins_ne D (show 12 ≠ 11 by decide), upd_self, upd_ne env39 x (show 12 ≠ 11 by decide), e11, cond_true, cond_false, List.cons_append, List.nil_append, List.append_nil]) (fun x => rfl) (OpR.toStrF (l := x44) (Src.row 1 rfl rfl) rfl rfl rfl rfl rfl rfl)
   refine oS (d := .val (.pointer (some ⟨(blk (vn w5 0)), 0, none⟩))) (fun _ => Want.bool rfl rfl rfl rfl (by rw [(c43)]; rfl)) (fun _ => rfl) (fun _ _ _ => rfl) (fun _ _ => OpR.pure rfl) (fun _ _ _ _ _ _ _ => rfl) ?_
   refine oS (d := .agg [.val (.int .i64 a2.fAt), .val (.int .i64 a2.fN)]) (fun _ => Want.bool rfl rfl rfl rfl (by rw [(c43)]; rfl)) (fun _ => rfl) (fun _ _ _ => rfl) (fun _ _ => OpR.pure rfl) (fun _ _ _ _ _ _ _ => rfl) ?_
   refine oS (d := .agg [.val (.int .i64 x45.fAt), .val (.int .i64 x45.fN)]) (fun _ => Want.bool rfl rfl rfl rfl (by rw [(c43)]; rfl)) (fun _ => rfl) (fun _ _ _ => rfl) (fun _ _ => OpR.call0 fn28 (law03_ours_c hx45) rfl) (fun _ _ _ _ _ _ _ => rfl) ?_
   refine OpsS.cons' true ?_ (fun _ _ _ _ _ _ _ => rfl) ?_
   · intro D env39 hA
     have e11 : D 11 = true := hA.yes 11 _ rfl rfl
     exact OpS.yes (o0 := [.var (blk (vn w5 0)) [.val (.string (bs u14))] 58, .row (vn (env39 11) 0) (List.map byteD x44) 1 5]) (o1 := fun x => [.var (blk (vn w5 0)) [.val (.string (bs u14))] 58, .row (vn (env39 11) 0) (List.map byteD x44) 1 5]) (d := fun x => .val (.string (bs x46))) (Want.bool rfl rfl rfl rfl (by rw [(c43)]; rfl)) (by first | rfl | simp only [e11, cond_true, cond_false, List.cons_append, List.nil_append, List.append_nil]) (fun x => by first | rfl | simp only [ins_self, ins_ne D (show 16 ≠ 11 by decide), upd_self, upd_ne env39 x (show 16 ≠ 11 by decide), e11, cond_true, cond_false, List.cons_append, List.nil_append, List.append_nil]) (fun x => rfl) (OpR.call [0] fn25 (ref03_Arena_Bytes_c hx46) rfl rfl rfl (fun _ => rfl))
   refine oS (d := .val (.bool (x44 == x46))) (fun _ => Want.bool rfl rfl rfl rfl (by rw [(c43)]; rfl)) (fun _ => rfl) (fun _ _ _ => rfl) (fun _ _ => OpR.cast (OpR.pure rfl) (boolE (strEq _ _))) (fun _ _ _ _ _ _ _ => rfl) ?_
   refine oS (d := .val (.bool (x44 == x46))) (fun _ => Want.plain rfl) (fun _ => rfl) (fun _ _ _ => rfl) (fun _ _ => OpR.pickT rfl (c43) rfl) (fun _ _ _ _ _ _ _ => rfl) ?_
   refine oS (d := .val (.bool (x44 == x46))) (fun _ => Want.plain rfl) (fun _ => rfl) (fun _ _ _ => rfl) (fun _ _ => OpR.pure rfl) (fun _ _ _ _ _ _ _ => rfl) ?_
   refine oS (d := .val (.bool x36.2)) (fun _ => Want.bool rfl rfl rfl rfl (by rw [(beq_iff_eq.2 c47)]; rfl)) (fun _ => rfl) (fun _ _ _ => rfl) (fun _ _ => OpR.pure rfl) (fun _ _ _ _ _ _ _ => rfl) ?_
   refine oS (d := .val (.string (bs x37))) (fun _ => Want.bool rfl rfl rfl rfl (by rw [(beq_iff_eq.2 c47)]; rfl)) (fun _ => rfl) (fun _ _ _ => rfl) (fun _ _ => OpR.pure rfl) (fun _ _ _ _ _ _ _ => rfl) ?_
   refine oS (d := .val (.int .i64 (x37.length : Int))) (fun _ => Want.bool rfl rfl rfl rfl (by rw [(beq_iff_eq.2 c47)]; rfl)) (fun _ => rfl) (fun _ _ _ => rfl) (fun _ _ => OpR.cast (OpR.pure rfl) (intE (lenS _))) (fun _ _ _ _ _ _ _ => rfl) ?_
   refine oS (d := .val (.bool ((x37.length : Int) == 1))) (fun _ => Want.bool rfl rfl rfl rfl (by rw [(beq_iff_eq.2 c47)]; rfl)) (fun _ => rfl) (fun _ _ _ => rfl) (fun _ _ => OpR.pure rfl) (fun _ _ _ _ _ _ _ => rfl) ?_
   refine oS (d := .val (.bool (x36.2 == ((x37.length : Int) == 1)))) (fun _ => Want.bool rfl rfl rfl rfl (by rw [(beq_iff_eq.2 c47)]; rfl)) (fun _ => rfl) (fun _ _ _ => rfl) (fun _ _ => OpR.eqBool rfl rfl rfl rfl) (fun _ _ _ _ _ _ _ => rfl) ?_
   refine oS (d := .val (.bool (x36.2 == ((x37.length : Int) == 1)))) (fun _ => Want.plain rfl) (fun _ => rfl) (fun _ _ _ => rfl) (fun _ _ => OpR.pickT rfl (beq_iff_eq.2 c47) rfl) (fun _ _ _ _ _ _ _ => rfl) ?_
   refine oS (d := .val (.bool (x36.2 == ((x37.length : Int) == 1)))) (fun _ => Want.plain rfl) (fun _ => rfl) (fun _ _ _ => rfl) (fun _ _ => OpR.pure rfl) (fun _ _ _ _ _ _ _ => rfl) ?_
   refine oS (d := .val (.bool x36.2)) (fun _ => Want.bool rfl rfl rfl rfl (by rw [(c48)]; rfl)) (fun _ => rfl) (fun _ _ _ => rfl) (fun _ _ => OpR.pure rfl) (fun _ _ _ _ _ _ _ => rfl) ?_
   refine oS (d := .val (.bool (!x36.2))) (fun _ => Want.bool rfl rfl rfl rfl (by rw [(c48)]; rfl)) (fun _ => rfl) (fun _ _ _ => rfl) (fun _ _ => OpR.pure rfl) (fun _ _ _ _ _ _ _ => rfl) ?_
   refine oS (d := .val (.bool (!x36.2))) (fun _ => Want.bool rfl rfl rfl rfl (by rw [(c48)]; rfl)) (fun _ => rfl) (fun _ _ _ => rfl) (fun _ _ => OpR.pure rfl) (fun _ _ _ _ _ _ _ => rfl) ?_
   refine OpsS.cons' false (fun D env39 hA => OpS.no (Want.bool rfl rfl rfl rfl (by rw [(not_t (c49))]; rfl)) rfl rfl) (fun _ _ _ _ _ _ _ => rfl) ?_
   refine OpsS.cons' false (fun D env39 hA => OpS.no (Want.bool rfl rfl rfl rfl (by rw [(not_t (c49))]; rfl)) rfl rfl) (fun _ _ _ _ _ _ _ => rfl) ?_
   refine oS (d := .val (.bool false)) (fun _ => Want.bool rfl rfl rfl rfl (by rw [(c48)]; rfl)) (fun _ => rfl) (fun _ _ _ => rfl) (fun _ _ => OpR.pickF rfl (not_t (c49)) rfl) (fun _ _ _ _ _ _ _ => rfl) ?_
   refine oS (d := .val (.bool false)) (fun _ => Want.bool rfl rfl rfl rfl (by rw [(c48)]; rfl)) (fun _ => rfl) (fun _ _ _ => rfl) (fun _ _ => OpR.pure rfl) (fun _ _ _ _ _ _ _ => rfl) ?_
   refine oS (d := .val (.bool x36.2)) (fun _ => Want.bool rfl rfl rfl rfl rfl) (fun _ => rfl) (fun _ _ _ => rfl) (fun _ _ => OpR.pure rfl) (fun _ _ _ _ _ _ _ => rfl) ?_
   refine oS (d := .val (.bool x36.2)) (fun _ => Want.bool rfl rfl rfl rfl rfl) (fun _ => rfl) (fun _ _ _ => rfl) (fun _ _ => OpR.pure rfl) (fun _ _ _ _ _ _ _ => rfl) ?_
   refine oS (d := .val (.int .u8 (x36.1.toNat : Int))) (fun _ => Want.bool rfl rfl rfl rfl (by rw [(c49)]; rfl)) (fun _ => rfl) (fun _ _ _ => rfl) (fun _ _ => OpR.pure rfl) (fun _ _ _ _ _ _ _ => rfl) ?_
   refine oS (d := .sl 1 (List.map byteD [x36.1])) (fun _ => Want.bool rfl rfl rfl rfl (by rw [(c49)]; rfl)) (fun _ => rfl) (fun _ _ _ => rfl) (fun _ _ => OpR.lit rfl rfl rfl rfl rfl rfl rfl) (fun _ _ _ _ _ _ _ => rfl) ?_
   refine oS (d := .val (.string (bs [x36.1]))) (fun _ => Want.bool rfl rfl rfl rfl (by rw [(c49)]; rfl)) (fun _ => rfl) (fun _ _ _ => rfl) (fun _ _ => OpR.toStr (bs := [x36.1]) rfl rfl rfl rfl rfl rfl rfl) (fun _ _ _ _ _ _ _ => rfl) ?_
   refine oS (d := .val (.string (bs x37))) (fun _ => Want.bool rfl rfl rfl rfl (by rw [(c49)]; rfl)) (fun _ => rfl) (fun _ _ _ => rfl) (fun _ _ => OpR.pure rfl) (fun _ _ _ _ _ _ _ => rfl) ?_
   refine oS (d := .val (.bool ([x36.1] == x37))) (fun _ => Want.bool rfl rfl rfl rfl (by rw [(c49)]; rfl)) (fun _ => rfl) (fun _ _ _ => rfl) (fun _ _ => OpR.cast (OpR.pure rfl) (boolE (strEq _ _))) (fun _ _ _ _ _ _ _ => rfl) ?_
   refine oS (d := .val (.bool ([x36.1] == x37))) (fun _ => Want.bool rfl rfl rfl rfl rfl) (fun _ => rfl) (fun _ _ _ => rfl) (fun _ _ => OpR.pickT rfl (c49) rfl) (fun _ _ _ _ _ _ _ => rfl) ?_
   refine oS (d := .val (.bool ([x36.1] == x37))) (fun _ => Want.bool rfl rfl rfl rfl (by rw [(c48)]; rfl)) (fun _ => rfl) (fun _ _ _ => rfl) (fun _ _ => OpR.pickF rfl rfl rfl) (fun _ _ _ _ _ _ _ => rfl) ?_
   refine oS (d := .val (.bool ([x36.1] == x37))) (fun _ => Want.plain rfl) (fun _ => rfl) (fun _ _ _ => rfl) (fun _ _ => OpR.pickT rfl (c48) rfl) (fun _ _ _ _ _ _ _ => rfl) ?_
   refine oS (d := .val (.bool ([x36.1] == x37))) (fun _ => Want.plain rfl) (fun _ => rfl) (fun _ _ _ => rfl) (fun _ _ => OpR.pure rfl) (fun _ _ _ _ _ _ _ => rfl) ?_
   refine oS (d := .val (.bool x51)) (fun _ => Want.bool rfl rfl rfl rfl (by rw [(beq_iff_eq.2 c50)]; rfl)) (fun _ => rfl) (fun _ _ _ => rfl) (fun _ _ => OpR.call0 fn20 (law03_awake_c hx51) rfl) (fun _ _ _ _ _ _ _ => rfl) ?_
   refine oS (d := .val (.bool x51)) (fun _ => Want.plain rfl) (fun _ => rfl) (fun _ _ _ => rfl) (fun _ _ => OpR.pickT rfl (beq_iff_eq.2 c50) rfl) (fun _ _ _ _ _ _ _ => rfl) ?_
   refine oS (d := .val (.bool x51)) (fun _ => Want.plain rfl) (fun _ => rfl) (fun _ _ _ => rfl) (fun _ _ => OpR.pure rfl) (fun _ _ _ _ _ _ _ => rfl) ?_
   exact trivial
 dsimp only at h0
 refine TL.op (OpR.call [] fn15 (arena_New_cx2 hx2) rfl rfl rfl (fun _ => rfl)) rfl (fun w3 => ?_)
 refine TL.op1 (OpR.pure rfl) rfl ?_
 refine TL.op1 (OpR.pure rfl) rfl ?_
 refine TL.op1 (OpR.pure rfl) rfl ?_
 refine TL.op1 (OpR.pure rfl) rfl ?_
 refine TL.op1 (OpR.pure rfl) rfl ?_
 refine TL.nil ?_
 show T X _ _ _
 refine T.seq ?_
 refine T.region ?_
 refine TL.op1 (OpR.pure rfl) rfl ?_
 obtain ⟨x54, hx54, h0⟩ := bnd_some h0
 rcases x54 with x54 | x54
 · dsimp only at h0
   refine TL.op1 (OpR.call0 fn21 (ref03_New_cx1 hx54) rfl) rfl ?_
   refine TL.op1 (OpR.pure rfl) rfl ?_
   refine TL.op1 (OpR.pure rfl) rfl ?_
   refine TL.op1 (OpR.pure rfl) rfl ?_
   refine TL.op1 (OpR.pure rfl) rfl ?_
   refine TL.op1 (OpR.pure rfl) rfl ?_
   refine TL.nil ?_
   show T X _ _ _
   refine T.seq ?_
   refine T.seq ?_
   obtain ⟨t56, ht56, h0⟩ := bnd_some h0
   refine T.cutC (fun S' => S' = ⟨[(38, .val (.bool t56)), (9, .val (.pointer none)), (7, .val (.pointer (some ⟨(blk (vn w3 0)), 0, none⟩))), (6, .val (.bool false)), (5, .nod [.val (.int .i64 a2.fAt), .val (.int .i64 a2.fN)]), (1, .sl 2 (List.map e_law03_Put a1))], [.var (blk (vn w3 0)) [.val (vn w3 1)] 85, .row (vn w3 1) (List.map byteD x2.2) 1 5], 141⟩) (fun _ h => h) ?_ ?_
   rotate_left
   · rintro _ rfl
     show T X _ _ _
     rcases ite_some h0 with ⟨c58, h0⟩ | ⟨c58, h0⟩
     · refine T.condT rfl (c58) ?_
       refine T.seq ?_
       refine T.region ?_
       refine TL.op1 (OpR.pure rfl) rfl ?_
       refine TL.nil ?_
       show T X _ _ _
       refine T.ret ?_
       obtain rfl := Option.some.inj h0
       exact PostG.retP (ks := []) (Gst.trans (Gst.only [6] rfl) (Gst.pick [] rfl rfl)) undef (ResL.cons (ResV.tmp rfl) ResL.nil) rfl rfl rfl rfl
     refine T.condF rfl (eq_false_of_ne_true c58) ?_
     refine T.skip ?_
     show T X _ _ _
     refine T.seq ?_
     refine T.seq ?_
     refine T.region ?_
     refine TL.op1 (OpR.pure rfl) rfl ?_
     refine TL.op1 (OpR.ptrNil rfl rfl rfl) rfl ?_
     refine TL.nil ?_
     show T X _ _ _
     refine T.condT rfl rfl ?_
     refine T.seq ?_
     refine T.region ?_
     obtain ⟨x59, hx59, h0⟩ := bnd_some h0
     refine TL.op1 (OpR.call0 fn20 (law03_awake_c hx59) rfl) rfl ?_
     refine TL.op1 (OpR.pure rfl) rfl ?_
     refine TL.nil ?_
     show T X _ _ _
     refine T.ret ?_
     obtain rfl := Option.some.inj h0
     exact PostG.retP (ks := []) (Gst.trans (Gst.only [6] rfl) (Gst.pick [] rfl rfl)) undef (ResL.cons (ResV.tmp rfl) ResL.nil) rfl rfl rfl rfl
   refine T.region ?_
   refine TL.op1 (OpR.pure rfl) rfl ?_
   refine TL.op1 (OpR.pure rfl) rfl ?_
   refine TL.op1 (OpR.pure rfl) rfl ?_
   refine TL.op1 (OpR.pure rfl) rfl ?_
   rcases ite_some ht56 with ⟨c57, ht56⟩ | ⟨c57, ht56⟩
   rotate_left
   · refine TL.off rfl rfl rfl rfl (not_f (beq_eq_false_iff_ne.2 c57)) rfl rfl ?_
     refine TL.off rfl rfl rfl rfl (not_f (beq_eq_false_iff_ne.2 c57)) rfl rfl ?_
     refine TL.off rfl rfl rfl rfl (not_f (beq_eq_false_iff_ne.2 c57)) rfl rfl ?_
     refine TL.off rfl rfl rfl rfl (not_f (beq_eq_false_iff_ne.2 c57)) rfl rfl ?_
     refine TL.off rfl rfl rfl rfl (not_f (beq_eq_false_iff_ne.2 c57)) rfl rfl ?_
     refine TL.op1 (OpR.pickT rfl (not_f (beq_eq_false_iff_ne.2 c57)) rfl) rfl ?_
     refine TL.nil ?_
     obtain rfl := Option.some.inj ht56
     exact ⟨_, Gst.only [1, 5, 6, 7, 9, 38] rfl, rfl⟩
   refine TL.on rfl rfl rfl rfl (not_t (beq_iff_eq.2 c57)) ?_
   refine TL.op1 (OpR.pure rfl) rfl ?_
   refine TL.on rfl rfl rfl rfl (not_t (beq_iff_eq.2 c57)) ?_
   refine TL.op1 (OpR.ptrNil rfl rfl rfl) rfl ?_
   refine TL.on rfl rfl rfl rfl (not_t (beq_iff_eq.2 c57)) ?_
   refine TL.op1 (OpR.pure rfl) rfl ?_
   refine TL.on rfl rfl rfl rfl (not_t (beq_iff_eq.2 c57)) ?_
   refine TL.op1 (OpR.ptrNil rfl rfl rfl) rfl ?_
   refine TL.on rfl rfl rfl rfl (not_t (beq_iff_eq.2 c57)) ?_
   refine TL.op1 (OpR.neBool rfl rfl rfl rfl) rfl ?_
   refine TL.op1 (OpR.pickF rfl (not_t (beq_iff_eq.2 c57)) rfl) rfl ?_
   refine TL.nil ?_
   obtain rfl := Option.some.inj ht56
   exact ⟨_, Gst.only [1, 5, 6, 7, 9, 38] rfl, rfl⟩
 dsimp only at h0
 refine TL.op (OpR.call [] fn21 (ref03_New_cx2 hx54) rfl rfl rfl (fun _ => rfl)) rfl (fun w55 => ?_)
 refine TL.op1 (OpR.pure rfl) rfl ?_
 refine TL.op1 (OpR.pure rfl) rfl ?_
 refine TL.op1 (OpR.pure rfl) rfl ?_
 refine TL.op1 (OpR.pure rfl) rfl ?_
 refine TL.op1 (OpR.pure rfl) rfl ?_
 refine TL.nil ?_
 show T X _ _ _
 refine T.seq ?_
 refine T.seq ?_
 obtain ⟨t60, ht60, h0⟩ := bnd_some h0
 refine T.cutC (fun S' => S' = ⟨[(38, .val (.bool t60)), (9, .val (.pointer (some ⟨(blk (vn w55 0)), 0, none⟩))), (7, .val (.pointer (some ⟨(blk (vn w3 0)), 0, none⟩))), (6, .val (.bool false)), (5, .nod [.val (.int .i64 a2.fAt), .val (.int .i64 a2.fN)]), (1, .sl 2 (List.map e_law03_Put a1))], [.var (blk (vn w3 0)) [.val (vn w3 1)] 85, .var (blk (vn w55 0)) [.val (.string (bs x54.2))] 58, .row (vn w3 1) (List.map byteD x2.2) 1 5], 141⟩) (fun _ h => h) ?_ ?_
 · refine T.region ?_
   refine TL.op1 (OpR.pure rfl) rfl ?_
   refine TL.op1 (OpR.pure rfl) rfl ?_
   refine TL.op1 (OpR.pure rfl) rfl ?_
   refine TL.op1 (OpR.pure rfl) rfl ?_
   rcases ite_some ht60 with ⟨c61, ht60⟩ | ⟨c61, ht60⟩
   rotate_left
   · refine TL.off rfl rfl rfl rfl (not_f (beq_eq_false_iff_ne.2 c61)) rfl rfl ?_
     refine TL.off rfl rfl rfl rfl (not_f (beq_eq_false_iff_ne.2 c61)) rfl rfl ?_
     refine TL.off rfl rfl rfl rfl (not_f (beq_eq_false_iff_ne.2 c61)) rfl rfl ?_
     refine TL.off rfl rfl rfl rfl (not_f (beq_eq_false_iff_ne.2 c61)) rfl rfl ?_
     refine TL.off rfl rfl rfl rfl (not_f (beq_eq_false_iff_ne.2 c61)) rfl rfl ?_
     refine TL.op1 (OpR.pickT rfl (not_f (beq_eq_false_iff_ne.2 c61)) rfl) rfl ?_
     refine TL.nil ?_
     obtain rfl := Option.some.inj ht60
     exact ⟨_, Gst.trans (Gst.only [1, 5, 6, 7, 9, 38] rfl) (Gst.pick [0, 2, 1] rfl rfl), rfl⟩
   refine TL.on rfl rfl rfl rfl (not_t (beq_iff_eq.2 c61)) ?_
   refine TL.op1 (OpR.pure rfl) rfl ?_
   refine TL.on rfl rfl rfl rfl (not_t (beq_iff_eq.2 c61)) ?_
   refine TL.op1 (OpR.ptrNil rfl rfl rfl) rfl ?_
   refine TL.on rfl rfl rfl rfl (not_t (beq_iff_eq.2 c61)) ?_
   refine TL.op1 (OpR.pure rfl) rfl ?_
   refine TL.on rfl rfl rfl rfl (not_t (beq_iff_eq.2 c61)) ?_
   refine TL.op1 (OpR.ptrNil rfl rfl rfl) rfl ?_
   refine TL.on rfl rfl rfl rfl (not_t (beq_iff_eq.2 c61)) ?_
   refine TL.op1 (OpR.neBool rfl rfl rfl rfl) rfl ?_
   refine TL.op1 (OpR.pickF rfl (not_t (beq_iff_eq.2 c61)) rfl) rfl ?_
   refine TL.nil ?_
   obtain rfl := Option.some.inj ht60
   exact ⟨_, Gst.trans (Gst.only [1, 5, 6, 7, 9, 38] rfl) (Gst.pick [0, 2, 1] rfl rfl), rfl⟩
 rintro _ rfl
 show T X _ _ _
 rcases ite_some h0 with ⟨c62, h0⟩ | ⟨c62, h0⟩
 · refine T.condT rfl (c62) ?_
   refine T.seq ?_
   refine T.region ?_
   refine TL.op1 (OpR.pure rfl) rfl ?_
   refine TL.nil ?_
   show T X _ _ _
   refine T.ret ?_
   obtain rfl := Option.some.inj h0
   exact PostG.retP (ks := []) (Gst.trans (Gst.only [6] rfl) (Gst.pick [] rfl rfl)) undef (ResL.cons (ResV.tmp rfl) ResL.nil) rfl rfl rfl rfl
 refine T.condF rfl (eq_false_of_ne_true c62) ?_
 refine T.skip ?_
 show T X _ _ _
 refine T.seq ?_
 refine T.seq ?_
 refine T.region ?_
 refine TL.op1 (OpR.pure rfl) rfl ?_
 refine TL.op1 (OpR.ptrNil rfl rfl rfl) rfl ?_
 refine TL.nil ?_
 show T X _ _ _
 refine T.condF rfl rfl ?_
 refine T.skip ?_
 show T X _ _ _
 refine T.seq ?_
 refine T.seq ?_
 refine T.region ?_
 refine TL.op1 (OpR.pure rfl) rfl ?_
 refine TL.op1 (OpR.cast (OpR.pure rfl) (intE (lenM _ _))) rfl ?_
 refine TL.op1 (OpR.pure rfl) rfl ?_
 refine TL.nil ?_
 show T X _ _ _
 obtain ⟨t63, ht63, h0⟩ := bnd_some h0
 refine T.cutC (fun S' => ∃ u64, t63 = Ex.brk u64 ∧ ∃ y65 : Value, S' = ⟨[(9, .val (.pointer (some ⟨(blk (vn w55 0)), 0, none⟩))), (7, .val (.pointer (some ⟨(blk (vn w3 0)), 0, none⟩))), (6, .val (.bool false)), (5, .nod [.val (.int .i64 a2.fAt), .val (.int .i64 a2.fN)])], [.var (blk (vn w3 0)) [.val y65] 85, .var (blk (vn w55 0)) [.val (.string (bs u64.1))] 58, .row y65 (List.map byteD u64.2) 1 5], 141⟩) (fun _ h => h) ?_ ?_
 · refine T.block ?_
   obtain ⟨n68, n73⟩ := loop_some ht63
   refine T.loop (fun n S' => ∃ S'', Gst S' S'' ∧ ∃ y66 : Value, ∃ s67 : Int × (List UInt8) × (List UInt8), S'' = ⟨[(44, .val (.int .i64 s67.1)), (43, .val (.int .i64 (a1.length : Int))), (42, .sl 2 (List.map e_law03_Put a1)), (9, .val (.pointer (some ⟨(blk (vn w55 0)), 0, none⟩))), (7, .val (.pointer (some ⟨(blk (vn w3 0)), 0, none⟩))), (6, .val (.bool false)), (5, .nod [.val (.int .i64 a2.fAt), .val (.int .i64 a2.fN)])], [.var (blk (vn w3 0)) [.val y66] 85, .var (blk (vn w55 0)) [.val (.string (bs s67.2.1))] 58, .row y66 (List.map byteD s67.2.2) 1 5], 141⟩ ∧ iter (law03_ArenaPlays.l2 a1) n s67 = some t63) n68 ?_ ?_
   · exact ⟨_, Gst.only [5, 6, 7, 9, 42, 43, 44] rfl, (vn w3 1), (0, x54.2, x2.2), rfl, n73⟩
   rintro n68 _ ⟨_, g, y66, s67, rfl, i72⟩
   refine T.ghost g ?_
   obtain ⟨m69, q70, rfl, q71, i72⟩ := iter_succ i72
   unfold law03_ArenaPlays.l2 at q71
   refine T.seq ?_
   refine T.region ?_
   refine TL.op1 (OpR.pure rfl) rfl ?_
   refine TL.nil ?_
   show T X _ _ _
   refine T.seq ?_
   rcases ite_some q71 with ⟨c75, q71⟩ | ⟨c75, q71⟩
   rotate_left
   · refine T.condF rfl (decide_eq_false c75) ?_
     refine T.exit ?_
     obtain rfl := Option.some.inj q71
     obtain rfl : _ = _ := i72
     exact ⟨_, Gst.only [5, 6, 7, 9] rfl, _, rfl, y66, rfl⟩
   refine T.condT rfl (decide_eq_true c75) ?_
   refine T.skip ?_
   show T X _ _ _
   refine T.seq ?_
   refine T.block ?_
   refine T.seq ?_
   refine T.region ?_
   refine TL.op1 (OpR.pure rfl) rfl ?_
   obtain ⟨x76, hx76, q71⟩ := bnd_some q71
   refine TL.op1 (OpR.indexM e_law03_Put hx76 rfl rfl rfl rfl rfl) rfl ?_
   refine TL.op1 (OpR.pure rfl) rfl ?_
   refine TL.op (OpR.alloc rfl rfl (fun _ => rfl)) rfl (fun p77 => ?_)
   refine TL.op1 (OpR.pure rfl) rfl ?_
   refine TL.op0 (OpR.store 3 rfl rfl rfl rfl rfl rfl rfl rfl) ?_
   refine TL.nil ?_
   show T X _ _ _
   refine T.seq ?_
   refine T.seq ?_
   refine T.region ?_
   refine TL.op1 (OpR.pure rfl) rfl ?_
   refine TL.op1 (OpR.pure rfl) rfl ?_
   refine TL.nil ?_
   show T X _ _ _
   rcases ite_some q71 with ⟨c78, q71⟩ | ⟨c78, q71⟩
   · refine T.condT rfl (decide_eq_true c78) ?_
     refine T.exit ?_
     obtain rfl := Option.some.inj q71
     obtain rfl : _ = _ := i72
     exact ⟨_, Gst.trans (Gst.only [5, 6, 7, 9] rfl) (Gst.pick [0, 1, 2] rfl rfl), _, rfl, y66, rfl⟩
   refine T.condF rfl (decide_eq_false c78) ?_
   refine T.skip ?_
   show T X _ _ _
   refine T.seq ?_
   obtain ⟨t79, ht79, q71⟩ := bnd_some q71
   refine T.cutC (fun S' => ∃ y80 : Value, S' = ⟨[(80, .val (.bool t79.1)), (44, .val (.int .i64 s67.1)), (43, .val (.int .i64 (a1.length : Int))), (42, .sl 2 (List.map e_law03_Put a1)), (9, .val (.pointer (some ⟨(blk (vn w55 0)), 0, none⟩))), (7, .val (.pointer (some ⟨(blk (vn w3 0)), 0, none⟩))), (6, .val (.bool false)), (5, .nod [.val (.int .i64 a2.fAt), .val (.int .i64 a2.fN)])], [.var (blk (vn w3 0)) [.val y80] 85, .var (blk (vn w55 0)) [.val (.string (bs t79.2.1))] 58, .row y80 (List.map byteD t79.2.2) 1 5], 141⟩) (fun _ h => h) ?_ ?_
   rotate_left
   · rintro _ ⟨y80, rfl⟩
     show T X _ _ _
     rcases ite_some q71 with ⟨c88, q71⟩ | ⟨c88, q71⟩
     rotate_left
     · refine T.condF rfl (eq_false_of_ne_true c88) ?_
       refine T.skip ?_
       show T X _ _ _
       refine T.region ?_
       refine TL.op1 (OpR.pure rfl) rfl ?_
       refine TL.op1 (OpR.pure rfl) rfl ?_
       refine TL.nil ?_
       obtain rfl := Option.some.inj q71
       exact ⟨m69, Nat.lt_succ_self _, _, Gst.only [5, 6, 7, 9, 42, 43, 44] rfl, y80, (w64 (s67.1 + 1), t79.2.1, t79.2.2), rfl, i72⟩
     refine T.condT rfl (c88) ?_
     refine T.seq ?_
     refine T.region ?_
     refine TL.op1 (OpR.pure rfl) rfl ?_
     refine TL.nil ?_
     show T X _ _ _
     refine T.ret ?_
     obtain rfl := Option.some.inj q71
     obtain rfl : _ = _ := i72
     obtain rfl := Option.some.inj h0
     exact PostG.retP (ks := []) (Gst.trans (Gst.only [6] rfl) (Gst.pick [] rfl rfl)) undef (ResL.cons (ResV.tmp rfl) ResL.nil) rfl rfl rfl rfl
   obtain ⟨x82, hx82, ht79⟩ := bnd_some ht79
   obtain ⟨x83, hx83, ht79⟩ := bnd_some ht79
   rcases ite_some ht79 with ⟨c84, ht79⟩ | ⟨c84, ht79⟩
   rotate_left
   · refine T.drawS drawsX (fun env81 => [.val (.pointer (some ⟨(blk (vn w3 0)), 0, none⟩)), .val (.pointer (some ⟨(blk (vn w55 0)), 0, none⟩)), .val (.pointer (some ⟨(blk p77), 0, none⟩)), .val (.string (bs x76.fText)), .val (.string (bs x82)), .val (.pointer (some ⟨(blk p77), 1, none⟩)), .val (.bool x76.fKeep), .val (.bool x83.1), .val (.bool (!x83.1)), .val (.bool (!x83.1)), .tup [], .tup [], .tup [], .tup [], .tup [], .tup [], .tup [], .tup [], .val (.bool true), .val (.bool true), .tup [], .tup [], .tup [], .tup [], .tup [], .tup [], .tup [], .tup [], .tup [], .val (.bool true)]) (fun D env81 => [(bif D 7 then .var (blk (vn w3 0)) [.val (vn (env81 7) 0)] 85 else .var (blk (vn w3 0)) [.val y66] 85), (bif D 7 then .var (blk (vn w55 0)) [.val (.string (bs x83.2.1))] 58 else .var (blk (vn w55 0)) [.val (.string (bs s67.2.1))] 58), (bif D 7 then .row (vn (env81 7) 0) (List.map byteD x83.2.2) 1 5 else .row y66 (List.map byteD s67.2.2) 1 5), .var (blk p77) [.val (.string (bs x76.fText)), .val (.bool x76.fKeep)] 55]) [0, 0, 0, 4, 12, 0, 32, 127, 255, 511, 1023, 2047, 1023, 5119, 13311, 29695, 62463, 131071, 262143, 524287, 1048575, 2097151, 1048575, 5242879, 13631487, 30408703, 63963135, 131071999, 268435455, 536870911] [5, 6, 7, 9, 11, 12, 42, 43, 44, 45, 46, 47, 48, 49, 50, 51, 52, 53, 54, 55, 56, 57, 58, 59, 60, 61, 62, 63, 64, 65, 66, 67, 68, 69, 70, 71, 72, 73, 74, 75, 76, 77, 78, 79, 80] (fun env81 => [.var (blk (vn w3 0)) [.val (vn (env81 7) 0)] 85, .var (blk (vn w55 0)) [.val (.string (bs x83.2.1))] 58, .row (vn (env81 7) 0) (List.map byteD x83.2.2) 1 5, .var (blk p77) [.val (.string (bs x76.fText)), .val (.bool x76.fKeep)] 55]) (by decide +kernel) (by decide +kernel) (fun _ => rfl) (fun _ => rfl) ?_ (fun _ => rfl) (fun _ => rfl) ?_
     rotate_left
     · intro env81
       obtain rfl := Option.some.inj ht79
       exact ⟨_, Gst.trans (Gst.only [5, 6, 7, 9, 42, 43, 44, 80] rfl) (Gst.pick [0, 1, 2] rfl rfl), (vn (env81 7) 0), rfl⟩
     refine oS (d := .val (.pointer (some ⟨(blk (vn w3 0)), 0, none⟩))) (fun _ => Want.plain rfl) (fun _ => rfl) (fun _ _ _ => rfl) (fun _ _ => OpR.pure rfl) (fun _ _ _ _ _ _ _ => rfl) ?_
     refine oS (d := .val (.pointer (some ⟨(blk (vn w55 0)), 0, none⟩))) (fun _ => Want.plain rfl) (fun _ => rfl) (fun _ _ _ => rfl) (fun _ _ => OpR.pure rfl) (fun _ _ _ _ _ _ _ => rfl) ?_
     refine oS (d := .val (.pointer (some ⟨(blk p77), 0, none⟩))) (fun _ => Want.plain rfl) (fun _ => rfl) (fun _ _ _ => rfl) (fun _ _ => OpR.pure rfl) (fun _ _ _ _ _ _ _ => rfl) ?_
     refine oS (d := .val (.string (bs x76.fText))) (fun _ => Want.plain rfl) (fun _ => rfl) (fun _ _ _ => rfl) (fun _ _ => OpR.loadPtr 3 rfl rfl rfl rfl) (fun _ _ _ _ _ _ _ => rfl) ?_
     refine oS (d := .val (.string (bs x82))) (fun _ => Want.plain rfl) (fun _ => rfl) (fun _ _ _ => rfl) (fun _ _ => OpR.call0 fn16 (law03_cut_c hx82) rfl) (fun _ _ _ _ _ _ _ => rfl) ?_
     refine oS (d := .val (.pointer (some ⟨(blk p77), 1, none⟩))) (fun _ => Want.plain rfl) (fun _ => rfl) (fun _ _ _ => rfl) (fun _ _ => OpR.pure rfl) (fun _ _ _ _ _ _ _ => rfl) ?_
     refine oS (d := .val (.bool x76.fKeep)) (fun _ => Want.plain rfl) (fun _ => rfl) (fun _ _ _ => rfl) (fun _ _ => OpR.loadPtr 3 rfl rfl rfl rfl) (fun _ _ _ _ _ _ _ => rfl) ?_
     refine OpsS.cons' true ?_ (fun D hA env81 x j hj hD => match j, hj, hD with | 0, _, _ => rfl | 1, _, _ => rfl | 2, _, _ => rfl | 3, _, _ => rfl | 4, _, _ => rfl | 5, _, _ => rfl | 6, _, _ => rfl | 7, hj, _ => absurd rfl hj | 8, _, _ => rfl | 9, _, _ => rfl | 10, _, _ => rfl | 11, _, _ => rfl | 12, _, _ => rfl | 13, _, _ => rfl | 14, _, _ => rfl | 15, _, _ => rfl | 16, _, _ => rfl | 17, _, _ => rfl | 18, _, _ => rfl | 19, _, _ => rfl | 20, _, _ => rfl | 21, _, _ => rfl | 22, _, _ => rfl | 23, _, _ => rfl | 24, _, _ => rfl | 25, _, _ => rfl | 26, _, _ => rfl | 27, _, _ => rfl | 28, _, _ => rfl | 29, _, _ => rfl | _ + 30, _, _ => rfl) ?_
     · intro D env81 hA
       exact OpS.yes (o0 := [.var (blk (vn w3 0)) [.val y66] 85, .var (blk (vn w55 0)) [.val (.string (bs s67.2.1))] 58, .row y66 (List.map byteD s67.2.2) 1 5, .var (blk p77) [.val (.string (bs x76.fText)), .val (.bool x76.fKeep)] 55]) (o1 := fun x => [.var (blk (vn w3 0)) [.val (vn x 0)] 85, .var (blk (vn w55 0)) [.val (.string (bs x83.2.1))] 58, .row (vn x 0) (List.map byteD x83.2.2) 1 5, .var (blk p77) [.val (.string (bs x76.fText)), .val (.bool x76.fKeep)] 55]) (d := fun x => .val (.bool x83.1)) (Want.plain rfl) (by first | rfl | simp only [hA.me, cond_true, cond_false, List.cons_append, List.nil_append, List.append_nil]) (fun x => by first | rfl | simp only [ins_self, upd_self, hA.me, cond_true, cond_false, List.cons_append, List.nil_append, List.append_nil]) (fun x => rfl) (OpR.call [0, 1, 2] fn22 (law03_put_2_c hx83) rfl rfl rfl (fun _ => rfl))
     refine oS (d := .val (.bool (!x83.1))) (fun _ => Want.plain rfl) (fun _ => rfl) (fun _ _ _ => rfl) (fun _ _ => OpR.pure rfl) (fun _ _ _ _ _ _ _ => rfl) ?_
     refine oS (d := .val (.bool (!x83.1))) (fun _ => Want.plain rfl) (fun _ => rfl) (fun _ _ _ => rfl) (fun _ _ => OpR.pure rfl) (fun _ _ _ _ _ _ _ => rfl) ?_
     refine OpsS.cons' false (fun D env81 hA => OpS.no (Want.bool rfl rfl rfl rfl (by rw [(not_f (eq_false_of_ne_true c84))]; rfl)) rfl rfl) (fun _ _ _ _ _ _ _ => rfl) ?_
     refine OpsS.cons' false (fun D env81 hA => OpS.no (Want.bool rfl rfl rfl rfl (by rw [(not_f (eq_false_of_ne_true c84))]; rfl)) rfl rfl) (fun _ _ _ _ _ _ _ => rfl) ?_
     refine OpsS.cons' false (fun D env81 hA => OpS.no (Want.bool rfl rfl rfl rfl (by rw [(not_f (eq_false_of_ne_true c84))]; rfl)) rfl rfl) (fun _ _ _ _ _ _ _ => rfl) ?_
     refine OpsS.cons' false (fun D env81 hA => OpS.no (Want.bool rfl rfl rfl rfl (by rw [(not_f (eq_false_of_ne_true c84))]; rfl)) rfl rfl) (fun _ _ _ _ _ _ _ => rfl) ?_
     refine OpsS.cons' false (fun D env81 hA => OpS.no (Want.bool rfl rfl rfl rfl (by rw [(not_f (eq_false_of_ne_true c84))]; rfl)) rfl rfl) (fun _ _ _ _ _ _ _ => rfl) ?_
     refine OpsS.cons' false (fun D env81 hA => OpS.no (Want.bool rfl rfl rfl rfl (by rw [(not_f (eq_false_of_ne_true c84))]; rfl)) rfl rfl) (fun _ _ _ _ _ _ _ => rfl) ?_
     refine OpsS.cons' false (fun D env81 hA => OpS.no (Want.bool rfl rfl rfl rfl (by rw [(not_f (eq_false_of_ne_true c84))]; rfl)) rfl rfl) (fun _ _ _ _ _ _ _ => rfl) ?_
     refine OpsS.cons' false (fun D env81 hA => OpS.no (Want.bool rfl rfl rfl rfl (by rw [(not_f (eq_false_of_ne_true c84))]; rfl)) rfl rfl) (fun _ _ _ _ _ _ _ => rfl) ?_
     refine oS (d := .val (.bool true)) (fun _ => Want.plain rfl) (fun _ => rfl) (fun _ _ _ => rfl) (fun _ _ => OpR.pickT rfl (not_f (eq_false_of_ne_true c84)) rfl) (fun _ _ _ _ _ _ _ => rfl) ?_
     refine oS (d := .val (.bool true)) (fun _ => Want.plain rfl) (fun _ => rfl) (fun _ _ _ => rfl) (fun _ _ => OpR.pure rfl) (fun _ _ _ _ _ _ _ => rfl) ?_
     refine OpsS.cons' false (fun D env81 hA => OpS.no (Want.bool rfl rfl rfl rfl rfl) rfl rfl) (fun _ _ _ _ _ _ _ => rfl) ?_
     refine OpsS.cons' false (fun D env81 hA => OpS.no (Want.bool rfl rfl rfl rfl rfl) rfl rfl) (fun _ _ _ _ _ _ _ => rfl) ?_
     refine OpsS.cons' false (fun D env81 hA => OpS.no (Want.bool rfl rfl rfl rfl rfl) rfl rfl) (fun _ _ _ _ _ _ _ => rfl) ?_
     refine OpsS.cons' false (fun D env81 hA => OpS.no (Want.bool rfl rfl rfl rfl rfl) rfl rfl) (fun _ _ _ _ _ _ _ => rfl) ?_
     refine OpsS.cons' false (fun D env81 hA => OpS.no (Want.bool rfl rfl rfl rfl rfl) rfl rfl) (fun _ _ _ _ _ _ _ => rfl) ?_
     refine OpsS.cons' false (fun D env81 hA => OpS.no (Want.bool rfl rfl rfl rfl rfl) rfl rfl) (fun _ _ _ _ _ _ _ => rfl) ?_
     refine OpsS.cons' false (fun D env81 hA => OpS.no (Want.bool rfl rfl rfl rfl rfl) rfl rfl) (fun _ _ _ _ _ _ _ => rfl) ?_
     refine OpsS.cons' false (fun D env81 hA => OpS.no (Want.bool rfl rfl rfl rfl rfl) rfl rfl) (fun _ _ _ _ _ _ _ => rfl) ?_
     refine OpsS.cons' false (fun D env81 hA => OpS.no (Want.bool rfl rfl rfl rfl rfl) rfl rfl) (fun _ _ _ _ _ _ _ => rfl) ?_
     refine oS (d := .val (.bool true)) (fun _ => Want.plain rfl) (fun _ => rfl) (fun _ _ _ => rfl) (fun _ _ => OpR.pickT rfl rfl rfl) (fun _ _ _ _ _ _ _ => rfl) ?_
     exact trivial
   obtain ⟨x85, hx85, ht79⟩ := bnd_some ht79
   rcases ite_some ht79 with ⟨c86, ht79⟩ | ⟨c86, ht79⟩
   rotate_left
   · refine T.drawS drawsX (fun env81 => [.val (.pointer (some ⟨(blk (vn w3 0)), 0, none⟩)), .val (.pointer (some ⟨(blk (vn w55 0)), 0, none⟩)), .val (.pointer (some ⟨(blk p77), 0, none⟩)), .val (.string (bs x76.fText)), .val (.string (bs x82)), .val (.pointer (some ⟨(blk p77), 1, none⟩)), .val (.bool x76.fKeep), .val (.bool x83.1), .val (.bool (!x83.1)), .val (.bool (!x83.1)), .val (.pointer (some ⟨(blk (vn w3 0)), 0, none⟩)), .val (.int .i64 x85), .val (.pointer (some ⟨(blk (vn w55 0)), 0, none⟩)), .val (.pointer (some ⟨(blk (vn w55 0)), 0, none⟩)), .val (.pointer (some ⟨(blk (vn w55 0)), 0, none⟩)), .val (.string (bs x83.2.1)), .val (.int .i64 (x83.2.1.length : Int)), .val (.bool (!(x85 == (x83.2.1.length : Int)))), .val (.bool (!(x85 == (x83.2.1.length : Int)))), .val (.bool (!(x85 == (x83.2.1.length : Int)))), .tup [], .tup [], .tup [], .tup [], .tup [], .tup [], .tup [], .tup [], .tup [], .val (.bool true)]) (fun D env81 => [(bif D 7 then .var (blk (vn w3 0)) [.val (vn (env81 7) 0)] 85 else .var (blk (vn w3 0)) [.val y66] 85), (bif D 7 then .var (blk (vn w55 0)) [.val (.string (bs x83.2.1))] 58 else .var (blk (vn w55 0)) [.val (.string (bs s67.2.1))] 58), (bif D 7 then .row (vn (env81 7) 0) (List.map byteD x83.2.2) 1 5 else .row y66 (List.map byteD s67.2.2) 1 5), .var (blk p77) [.val (.string (bs x76.fText)), .val (.bool x76.fKeep)] 55]) [0, 0, 0, 4, 12, 0, 32, 127, 255, 511, 1023, 2047, 1023, 5119, 13311, 29695, 62463, 131071, 262143, 524287, 1048575, 2097151, 1048575, 5242879, 13631487, 30408703, 63963135, 131071999, 268435455, 536870911] [5, 6, 7, 9, 11, 12, 42, 43, 44, 45, 46, 47, 48, 49, 50, 51, 52, 53, 54, 55, 56, 57, 58, 59, 60, 61, 62, 63, 64, 65, 66, 67, 68, 69, 70, 71, 72, 73, 74, 75, 76, 77, 78, 79, 80] (fun env81 => [.var (blk (vn w3 0)) [.val (vn (env81 7) 0)] 85, .var (blk (vn w55 0)) [.val (.string (bs x83.2.1))] 58, .row (vn (env81 7) 0) (List.map byteD x83.2.2) 1 5, .var (blk p77) [.val (.string (bs x76.fText)), .val (.bool x76.fKeep)] 55]) (by decide +kernel) (by decide +kernel) (fun _ => rfl) (fun _ => rfl) ?_ (fun _ => rfl) (fun _ => rfl) ?_
     rotate_left
     · intro env81
       obtain rfl := Option.some.inj ht79
       exact ⟨_, Gst.trans (Gst.only [5, 6, 7, 9, 42, 43, 44, 80] rfl) (Gst.pick [0, 1, 2] rfl rfl), (vn (env81 7) 0), rfl⟩
     refine oS (d := .val (.pointer (some ⟨(blk (vn w3 0)), 0, none⟩))) (fun _ => Want.plain rfl) (fun _ => rfl) (fun _ _ _ => rfl) (fun _ _ => OpR.pure rfl) (fun _ _ _ _ _ _ _ => rfl) ?_
     refine oS (d := .val (.pointer (some ⟨(blk (vn w55 0)), 0, none⟩))) (fun _ => Want.plain rfl) (fun _ => rfl) (fun _ _ _ => rfl) (fun _ _ => OpR.pure rfl) (fun _ _ _ _ _ _ _ => rfl) ?_
     refine oS (d := .val (.pointer (some ⟨(blk p77), 0, none⟩))) (fun _ => Want.plain rfl) (fun _ => rfl) (fun _ _ _ => rfl) (fun _ _ => OpR.pure rfl) (fun _ _ _ _ _ _ _ => rfl) ?_
     refine oS (d := .val (.string (bs x76.fText))) (fun _ => Want.plain rfl) (fun _ => rfl) (fun _ _ _ => rfl) (fun _ _ => OpR.loadPtr 3 rfl rfl rfl rfl) (fun _ _ _ _ _ _ _ => rfl) ?_
     refine oS (d := .val (.string (bs x82))) (fun _ => Want.plain rfl) (fun _ => rfl) (fun _ _ _ => rfl) (fun _ _ => OpR.call0 fn16 (law03_cut_c hx82) rfl) (fun _ _ _ _ _ _ _ => rfl) ?_
     refine oS (d := .val (.pointer (some ⟨(blk p77), 1, none⟩))) (fun _ => Want.plain rfl) (fun _ => rfl) (fun _ _ _ => rfl) (fun _ _ => OpR.pure rfl) (fun _ _ _ _ _ _ _ => rfl) ?_
     refine oS (d := .val (.bool x76.fKeep)) (fun _ => Want.plain rfl) (fun _ => rfl) (fun _ _ _ => rfl) (fun _ _ => OpR.loadPtr 3 rfl rfl rfl rfl) (fun _ _ _ _ _ _ _ => rfl) ?_
     refine OpsS.cons' true ?_ (fun D hA env81 x j hj hD => match j, hj, hD with | 0, _, _ => rfl | 1, _, _ => rfl | 2, _, _ => rfl | 3, _, _ => rfl | 4, _, _ => rfl | 5, _, _ => rfl | 6, _, _ => rfl | 7, hj, _ => absurd rfl hj | 8, _, _ => rfl | 9, _, _ => rfl | 10, _, _ => rfl | 11, _, _ => rfl | 12, _, _ => rfl | 13, _, _ => rfl | 14, _, _ => rfl | 15, _, _ => rfl | 16, _, _ => rfl | 17, _, _ => rfl | 18, _, _ => rfl | 19, _, _ => rfl | 20, _, _ => rfl | 21, _, _ => rfl | 22, _, _ => rfl | 23, _, _ => rfl | 24, _, _ => rfl | 25, _, _ => rfl | 26, _, _ => rfl | 27, _, _ => rfl | 28, _, _ => rfl | 29, _, _ => rfl | _ + 30, _, _ => rfl) ?_
     · intro D env81 hA
       exact OpS.yes (o0 := [.var (blk (vn w3 0)) [.val y66] 85, .var (blk (vn w55 0)) [.val (.string (bs s67.2.1))] 58, .row y66 (List.map byteD s67.2.2) 1 5, .var (blk p77) [.val (.string (bs x76.fText)), .val (.bool x76.fKeep)] 55]) (o1 := fun x => [.var (blk (vn w3 0)) [.val (vn x 0)] 85, .var (blk (vn w55 0)) [.val (.string (bs x83.2.1))] 58, .row (vn x 0) (List.map byteD x83.2.2) 1 5, .var (blk p77) [.val (.string (bs x76.fText)), .val (.bool x76.fKeep)] 55]) (d := fun x => .val (.bool x83.1)) (Want.plain rfl) (by first | rfl | simp only [hA.me, cond_true, cond_false, List.cons_append, List.nil_append, List.append_nil]) (fun x => by first | rfl | simp only [ins_self, upd_self, hA.me, cond_true, cond_false, List.cons_append, List.nil_append, List.append_nil]) (fun x => rfl) (OpR.call [0, 1, 2] fn22 (law03_put_2_c hx83) rfl rfl rfl (fun _ => rfl))
     refine oS (d := .val (.bool (!x83.1))) (fun _ => Want.plain rfl) (fun _ => rfl) (fun _ _ _ => rfl) (fun _ _ => OpR.pure rfl) (fun _ _ _ _ _ _ _ => rfl) ?_
     refine oS (d := .val (.bool (!x83.1))) (fun _ => Want.plain rfl) (fun _ => rfl) (fun _ _ _ => rfl) (fun _ _ => OpR.pure rfl) (fun _ _ _ _ _ _ _ => rfl) ?_
     refine oS (d := .val (.pointer (some ⟨(blk (vn w3 0)), 0, none⟩))) (fun _ => Want.bool rfl rfl rfl rfl (by rw [(not_t (c84))]; rfl)) (fun _ => rfl) (fun _ _ _ => rfl) (fun _ _ => OpR.pure rfl) (fun _ _ _ _ _ _ _ => rfl) ?_
     refine OpsS.cons' true ?_ (fun _ _ _ _ _ _ _ => rfl) ?_
     · intro D env81 hA
       have e7 : D 7 = true := hA.yes 7 _ rfl rfl
       exact OpS.yes (o0 := [.var (blk (vn w3 0)) [.val (vn (env81 7) 0)] 85, .var (blk (vn w55 0)) [.val (.string (bs x83.2.1))] 58, .row (vn (env81 7) 0) (List.map byteD x83.2.2) 1 5, .var (blk p77) [.val (.string (bs x76.fText)), .val (.bool x76.fKeep)] 55]) (o1 := fun x => [.var (blk (vn w3 0)) [.val (vn (env81 7) 0)] 85, .var (blk (vn w55 0)) [.val (.string (bs x83.2.1))] 58, .row (vn (env81 7) 0) (List.map byteD x83.2.2) 1 5, .var (blk p77) [.val (.string (bs x76.fText)), .val (.bool x76.fKeep)] 55]) (d := fun x => .val (.int .i64 x85)) (Want.bool rfl rfl rfl rfl (by rw [(not_t (c84))]; rfl)) (by first | rfl | simp only [e7, cond_true, cond_false, List.cons_append, List.nil_append, List.append_nil]) (fun x => by first | rfl | simp only [ins_self, ins_ne D (show 11 ≠ 7 by decide), upd_self, upd_ne env81 x (show 11 ≠ 7 by decide), e7, cond_true, cond_false, List.cons_append, List.nil_append, List.append_nil]) (fun x => rfl) (OpR.call [0, 2] fn19 (arena_Arena_Len_c hx85) rfl rfl rfl (fun _ => rfl))
     refine oS (d := .val (.pointer (some ⟨(blk (vn w55 0)), 0, none⟩))) (fun _ => Want.bool rfl rfl rfl rfl (by rw [(not_t (c84))]; rfl)) (fun _ => rfl) (fun _ _ _ => rfl) (fun _ _ => OpR.pure rfl) (fun _ _ _ _ _ _ _ => rfl) ?_
     refine oS (d := .val (.pointer (some ⟨(blk (vn w55 0)), 0, none⟩))) (fun _ => Want.bool rfl rfl rfl rfl (by rw [(not_t (c84))]; rfl)) (fun _ => rfl) (fun _ _ _ => rfl) (fun _ _ => OpR.pure rfl) (fun _ _ _ _ _ _ _ => rfl) ?_
     refine oS (d := .val (.pointer (some ⟨(blk (vn w55 0)), 0, none⟩))) (fun _ => Want.bool rfl rfl rfl rfl (by rw [(not_t (c84))]; rfl)) (fun _ => rfl) (fun _ _ _ => rfl) (fun _ _ => OpR.pure rfl) (fun _ _ _ _ _ _ _ => rfl) ?_
     refine OpsS.cons' true ?_ (fun _ _ _ _ _ _ _ => rfl) ?_
     · intro D env81 hA
       have e7 : D 7 = true := hA.yes 7 _ rfl rfl
       exact OpS.yes (o0 := [.var (blk (vn w3 0)) [.val (vn (env81 7) 0)] 85, .var (blk (vn w55 0)) [.val (.string (bs x83.2.1))] 58, .row (vn (env81 7) 0) (List.map byteD x83.2.2) 1 5, .var (blk p77) [.val (.string (bs x76.fText)), .val (.bool x76.fKeep)] 55]) (o1 := fun x => [.var (blk (vn w3 0)) [.val (vn (env81 7) 0)] 85, .var (blk (vn w55 0)) [.val (.string (bs x83.2.1))] 58, .row (vn (env81 7) 0) (List.map byteD x83.2.2) 1 5, .var (blk p77) [.val (.string (bs x76.fText)), .val (.bool x76.fKeep)] 55]) (d := fun x => .val (.string (bs x83.2.1))) (Want.bool rfl rfl rfl rfl (by rw [(not_t (c84))]; rfl)) (by first | rfl | simp only [e7, cond_true, cond_false, List.cons_append, List.nil_append, List.append_nil]) (fun x => by first | rfl | simp only [ins_self, ins_ne D (show 15 ≠ 7 by decide), upd_self, upd_ne env81 x (show 15 ≠ 7 by decide), e7, cond_true, cond_false, List.cons_append, List.nil_append, List.append_nil]) (fun x => rfl) (OpR.loadPtr 1 rfl rfl rfl rfl)
     refine oS (d := .val (.int .i64 (x83.2.1.length : Int))) (fun _ => Want.bool rfl rfl rfl rfl (by rw [(not_t (c84))]; rfl)) (fun _ => rfl) (fun _ _ _ => rfl) (fun _ _ => OpR.cast (OpR.pure rfl) (intE (lenS _))) (fun _ _ _ _ _ _ _ => rfl) ?_
     refine oS (d := .val (.bool (!(x85 == (x83.2.1.length : Int))))) (fun _ => Want.bool rfl rfl rfl rfl (by rw [(not_t (c84))]; rfl)) (fun _ => rfl) (fun _ _ _ => rfl) (fun _ _ => OpR.pure rfl) (fun _ _ _ _ _ _ _ => rfl) ?_
     refine oS (d := .val (.bool (!(x85 == (x83.2.1.length : Int))))) (fun _ => Want.plain rfl) (fun _ => rfl) (fun _ _ _ => rfl) (fun _ _ => OpR.pickF rfl (not_t (c84)) rfl) (fun _ _ _ _ _ _ _ => rfl) ?_
     refine oS (d := .val (.bool (!(x85 == (x83.2.1.length : Int))))) (fun _ => Want.plain rfl) (fun _ => rfl) (fun _ _ _ => rfl) (fun _ _ => OpR.pure rfl) (fun _ _ _ _ _ _ _ => rfl) ?_
     refine OpsS.cons' false (fun D env81 hA => OpS.no (Want.bool rfl rfl rfl rfl (by rw [(not_f (beq_eq_false_iff_ne.2 c86))]; rfl)) rfl rfl) (fun _ _ _ _ _ _ _ => rfl) ?_
     refine OpsS.cons' false (fun D env81 hA => OpS.no (Want.bool rfl rfl rfl rfl (by rw [(not_f (beq_eq_false_iff_ne.2 c86))]; rfl)) rfl rfl) (fun _ _ _ _ _ _ _ => rfl) ?_
     refine OpsS.cons' false (fun D env81 hA => OpS.no (Want.bool rfl rfl rfl rfl (by rw [(not_f (beq_eq_false_iff_ne.2 c86))]; rfl)) rfl rfl) (fun _ _ _ _ _ _ _ => rfl) ?_
     refine OpsS.cons' false (fun D env81 hA => OpS.no (Want.bool rfl rfl rfl rfl (by rw [(not_f (beq_eq_false_iff_ne.2 c86))]; rfl)) rfl rfl) (fun _ _ _ _ _ _ _ => rfl) ?_
     refine OpsS.cons' false (fun D env81 hA => OpS.no (Want.bool rfl rfl rfl rfl (by rw [(not_f (beq_eq_false_iff_ne.2 c86))]; rfl)) rfl rfl) (fun _ _ _ _ _ _ _ => rfl) ?_
     refine OpsS.cons' false (fun D env81 hA => OpS.no (Want.bool rfl rfl rfl rfl (by rw [(not_f (beq_eq_false_iff_ne.2 c86))]; rfl)) rfl rfl) (fun _ _ _ _ _ _ _ => rfl) ?_
     refine OpsS.cons' false (fun D env81 hA => OpS.no (Want.bool rfl rfl rfl rfl (by rw [(not_f (beq_eq_false_iff_ne.2 c86))]; rfl)) rfl rfl) (fun _ _ _ _ _ _ _ => rfl) ?_
     refine OpsS.cons' false (fun D env81 hA => OpS.no (Want.bool rfl rfl rfl rfl (by rw [(not_f (beq_eq_false_iff_ne.2 c86))]; rfl)) rfl rfl) (fun _ _ _ _ _ _ _ => rfl) ?_
     refine OpsS.cons' false (fun D env81 hA => OpS.no (Want.bool rfl rfl rfl rfl (by rw [(not_f (beq_eq_false_iff_ne.2 c86))]; rfl)) rfl rfl) (fun _ _ _ _ _ _ _ => rfl) ?_
     refine oS (d := .val (.bool true)) (fun _ => Want.plain rfl) (fun _ => rfl) (fun _ _ _ => rfl) (fun _ _ => OpR.pickT rfl (not_f (beq_eq_false_iff_ne.2 c86)) rfl) (fun _ _ _ _ _ _ _ => rfl) ?_
     exact trivial
   obtain ⟨x87, hx87, ht79⟩ := bnd_some ht79
   refine T.drawS drawsX (fun env81 => [.val (.pointer (some ⟨(blk (vn w3 0)), 0, none⟩)), .val (.pointer (some ⟨(blk (vn w55 0)), 0, none⟩)), .val (.pointer (some ⟨(blk p77), 0, none⟩)), .val (.string (bs x76.fText)), .val (.string (bs x82)), .val (.pointer (some ⟨(blk p77), 1, none⟩)), .val (.bool x76.fKeep), .val (.bool x83.1), .val (.bool (!x83.1)), .val (.bool (!x83.1)), .val (.pointer (some ⟨(blk (vn w3 0)), 0, none⟩)), .val (.int .i64 x85), .val (.pointer (some ⟨(blk (vn w55 0)), 0, none⟩)), .val (.pointer (some ⟨(blk (vn w55 0)), 0, none⟩)), .val (.pointer (some ⟨(blk (vn w55 0)), 0, none⟩)), .val (.string (bs x83.2.1)), .val (.int .i64 (x83.2.1.length : Int)), .val (.bool (!(x85 == (x83.2.1.length : Int)))), .val (.bool (!(x85 == (x83.2.1.length : Int)))), .val (.bool (!(x85 == (x83.2.1.length : Int)))), .val (.pointer (some ⟨(blk (vn w3 0)), 0, none⟩)), .val (.int .i64 x87), .val (.pointer (some ⟨(blk (vn w55 0)), 0, none⟩)), .val (.pointer (some ⟨(blk (vn w55 0)), 0, none⟩)), .val (.pointer (some ⟨(blk (vn w55 0)), 0, none⟩)), .val (.string (bs x83.2.1)), .val (.int .i64 (x83.2.1.length : Int)), .val (.int .i64 (w64 (16384 - (x83.2.1.length : Int)))), .val (.bool (!(x87 == (w64 (16384 - (x83.2.1.length : Int)))))), .val (.bool (!(x87 == (w64 (16384 - (x83.2.1.length : Int))))))]) (fun D env81 => [(bif D 7 then .var (blk (vn w3 0)) [.val (vn (env81 7) 0)] 85 else .var (blk (vn w3 0)) [.val y66] 85), (bif D 7 then .var (blk (vn w55 0)) [.val (.string (bs x83.2.1))] 58 else .var (blk (vn w55 0)) [.val (.string (bs s67.2.1))] 58), (bif D 7 then .row (vn (env81 7) 0) (List.map byteD x83.2.2) 1 5 else .row y66 (List.map byteD s67.2.2) 1 5), .var (blk p77) [.val (.string (bs x76.fText)), .val (.bool x76.fKeep)] 55]) [0, 0, 0, 4, 12, 0, 32, 127, 255, 511, 1023, 2047, 1023, 5119, 13311, 29695, 62463, 131071, 262143, 524287, 1048575, 2097151, 1048575, 5242879, 13631487, 30408703, 63963135, 131071999, 268435455, 536870911] [5, 6, 7, 9, 11, 12, 42, 43, 44, 45, 46, 47, 48, 49, 50, 51, 52, 53, 54, 55, 56, 57, 58, 59, 60, 61, 62, 63, 64, 65, 66, 67, 68, 69, 70, 71, 72, 73, 74, 75, 76, 77, 78, 79, 80] (fun env81 => [.var (blk (vn w3 0)) [.val (vn (env81 7) 0)] 85, .var (blk (vn w55 0)) [.val (.string (bs x83.2.1))] 58, .row (vn (env81 7) 0) (List.map byteD x83.2.2) 1 5, .var (blk p77) [.val (.string (bs x76.fText)), .val (.bool x76.fKeep)] 55]) (by decide +kernel) (by decide +kernel) (fun _ => rfl) (fun _ => rfl) ?_ (fun _ => rfl) (fun _ => rfl) ?_
   rotate_left
   · intro env81
     obtain rfl := Option.some.inj ht79
     exact ⟨_, Gst.trans (Gst.only [5, 6, 7, 9, 42, 43, 44, 80] rfl) (Gst.pick [0, 1, 2] rfl rfl), (vn (env81 7) 0), rfl⟩
   refine oS (d := .val (.pointer (some ⟨(blk (vn w3 0)), 0, none⟩))) (fun _ => Want.plain rfl) (fun _ => rfl) (fun _ _ _ => rfl) (fun _ _ => OpR.pure rfl) (fun _ _ _ _ _ _ _ => rfl) ?_
   refine oS (d := .val (.pointer (some ⟨(blk (vn w55 0)), 0, none⟩))) (fun _ => Want.plain rfl) (fun _ => rfl) (fun _ _ _ => rfl) (fun _ _ => OpR.pure rfl) (fun _ _ _ _ _ _ _ => rfl) ?_
   refine oS (d := .val (.pointer (some ⟨(blk p77), 0, none⟩))) (fun _ => Want.plain rfl) (fun _ => rfl) (fun _ _ _ => rfl) (fun _ _ => OpR.pure rfl) (fun _ _ _ _ _ _ _ => rfl) ?_
   refine oS (d := .val (.string (bs x76.fText))) (fun _ => Want.plain rfl) (fun _ => rfl) (fun _ _ _ => rfl) (fun _ _ => OpR.loadPtr 3 rfl rfl rfl rfl) (fun _ _ _ _ _ _ _ => rfl) ?_
   refine oS (d := .val (.string (bs x82))) (fun _ => Want.plain rfl) (fun _ => rfl) (fun _ _ _ => rfl) (fun _ _ => OpR.call0 fn16 (law03_cut_c hx82) rfl) (fun _ _ _ _ _ _ _ => rfl) ?_
   refine oS (d := .val (.pointer (some ⟨(blk p77), 1, none⟩))) (fun _ => Want.plain rfl) (fun _ => rfl) (fun _ _ _ => rfl) (fun _ _ => OpR.pure rfl) (fun _ _ _ _ _ _ _ => rfl) ?_
   refine oS (d := .val (.bool x76.fKeep)) (fun _ => Want.plain rfl) (fun _ => rfl) (fun _ _ _ => rfl) (fun _ _ => OpR.loadPtr 3 rfl rfl rfl rfl) (fun _ _ _ _ _ _ _ => rfl) ?_
   refine OpsS.cons' true ?_ (fun D hA env81 x j hj hD => match j, hj, hD with | 0, _, _ => rfl | 1, _, _ => rfl | 2, _, _ => rfl | 3, _, _ => rfl | 4, _, _ => rfl | 5, _, _ => rfl | 6, _, _ => rfl | 7, hj, _ => absurd rfl hj | 8, _, _ => rfl | 9, _, _ => rfl | 10, _, _ => rfl | 11, _, _ => rfl | 12, _, _ => rfl | 13, _, _ => rfl | 14, _, _ => rfl | 15, _, _ => rfl | 16, _, _ => rfl | 17, _, _ => rfl | 18, _, _ => rfl | 19, _, _ => rfl | 20, _, _ => rfl | 21, _, _ => rfl | 22, _, _ => rfl | 23, _, _ => rfl | 24, _, _ => rfl | 25, _, _ => rfl | 26, _, _ => rfl | 27, _, _ => rfl | 28, _, _ => rfl | 29, _, _ => rfl | _ + 30, _, _ => rfl) ?_
   · intro D env81 hA
     exact OpS.yes (o0 := [.var (blk (vn w3 0)) [.val y66] 85, .var (blk (vn w55 0)) [.val (.string (bs s67.2.1))] 58, .row y66 (List.map byteD s67.2.2) 1 5, .var (blk p77) [.val (.string (bs x76.fText)), .val (.bool x76.fKeep)] 55]) (o1 := fun x => [.var (blk (vn w3 0)) [.val (vn x 0)] 85, .var (blk (vn w55 0)) [.val (.string (bs x83.2.1))] 58, .row (vn x 0) (List.map byteD x83.2.2) 1 5, .var (blk p77) [.val (.string (bs x76.fText)), .val (.bool x76.fKeep)] 55]) (d := fun x => .val (.bool x83.1)) (Want.plain rfl) (by first | rfl | simp only [hA.me, cond_true, cond_false, List.cons_append, List.nil_append, List.append_nil]) (fun x => by first | rfl | simp only [ins_self, upd_self, hA.me, cond_true, cond_false, List.cons_append, List.nil_append, List.append_nil]) (fun x => rfl) (OpR.call [0, 1, 2] fn22 (law03_put_2_c hx83) rfl rfl rfl (fun _ => rfl))
   refine oS (d := .val (.bool (!x83.1))) (fun _ => Want.plain rfl) (fun _ => rfl) (fun _ _ _ => rfl) (fun _ _ => OpR.pure rfl) (fun _ _ _ _ _ _ _ => rfl) ?_
   refine oS (d := .val (.bool (!x83.1))) (fun _ => Want.plain rfl) (fun _ => rfl) (fun _ _ _ => rfl) (fun _ _ => OpR.pure rfl) (fun _ _ _ _ _ _ _ => rfl) ?_
   refine oS (d := .val (.pointer (some ⟨(blk (vn w3 0)), 0, none⟩))) (fun _ => Want.bool rfl rfl rfl rfl (by rw [(not_t (c84))]; rfl)) (fun _ => rfl) (fun _ _ _ => rfl) (fun _ _ => OpR.pure rfl) (fun _ _ _ _ _ _ _ => rfl) ?_
   refine OpsS.cons' true ?_ (fun _ _ _ _ _ _ _ => rfl) ?_
   · intro D env81 hA
     have e7 : D 7 = true := hA.yes 7 _ rfl rfl
     exact OpS.yes (o0 := [.var (blk (vn w3 0)) [.val (vn (env81 7) 0)] 85, .var (blk (vn w55 0)) [.val (.string (bs x83.2.1))] 58, .row (vn (env81 7) 0) (List.map byteD x83.2.2) 1 5, .var (blk p77) [.val (.string (bs x76.fText)), .val (.bool x76.fKeep)] 55]) (o1 := fun x => [.var (blk (vn w3 0)) [.val (vn (env81 7) 0)] 85, .var (blk (vn w55 0)) [.val (.string (bs x83.2.1))] 58, .row (vn (env81 7) 0) (List.map byteD x83.2.2) 1 5, .var (blk p77) [.val (.string (bs x76.fText)), .val (.bool x76.fKeep)] 55]) (d := fun x => .val (.int .i64 x85)) (Want.bool rfl rfl rfl rfl (by rw [(not_t (c84))]; rfl)) (by first | rfl | simp only [e7, cond_true, cond_false, List.cons_append, List.nil_append, List.append_nil]) (fun x => by first | rfl | simp only [ins_self, ins_ne D (show 11 ≠ 7 by decide), upd_self, upd_ne env81 x (show 11 ≠ 7 by decide), e7, cond_true, cond_false, List.cons_append, List.nil_append, List.append_nil]) (fun x => rfl) (OpR.call [0, 2] fn19 (arena_Arena_Len_c hx85) rfl rfl rfl (fun _ => rfl))
   refine oS (d := .val (.pointer (some ⟨(blk (vn w55 0)), 0, none⟩))) (fun _ => Want.bool rfl rfl rfl rfl (by rw [(not_t (c84))]; rfl)) (fun _ => rfl) (fun _ _ _ => rfl) (fun _ _ => OpR.pure rfl) (fun _ _ _ _ _ _ _ => rfl) ?_
   refine oS (d := .val (.pointer (some ⟨(blk (vn w55 0)), 0, none⟩))) (fun _ => Want.bool rfl rfl rfl rfl (by rw [(not_t (c84))]; rfl)) (fun _ => rfl) (fun _ _ _ => rfl) (fun _ _ => OpR.pure rfl) (fun _ _ _ _ _ _ _ => rfl) ?_
   refine oS (d := .val (.pointer (some ⟨(blk (vn w55 0)), 0, none⟩))) (fun _ => Want.bool rfl rfl rfl rfl (by rw [(not_t (c84))]; rfl)) (fun _ => rfl) (fun _ _ _ => rfl) (fun _ _ => OpR.pure rfl) (fun _ _ _ _ _ _ _ => rfl) ?_
   refine OpsS.cons' true ?_ (fun _ _ _ _ _ _ _ => rfl) ?_
   · intro D env81 hA
     have e7 : D 7 = true := hA.yes 7 _ rfl rfl
     exact OpS.yes (o0 := [.var (blk (vn w3 0)) [.val (vn (env81 7) 0)] 85, .var (blk (vn w55 0)) [.val (.string (bs x83.2.1))] 58, .row (vn (env81 7) 0) (List.map byteD x83.2.2) 1 5, .var (blk p77) [.val (.string (bs x76.fText)), .val (.bool x76.fKeep)] 55]) (o1 := fun x => [.var (blk (vn w3 0)) [.val (vn (env81 7) 0)] 85, .var (blk (vn w55 0)) [.val (.string (bs x83.2.1))] 58, .row (vn (env81 7) 0) (List.map byteD x83.2.2) 1 5, .var (blk p77) [.val (.string (bs x76.fText)), .val (.bool x76.fKeep)] 55]) (d := fun x => .val (.string (bs x83.2.1))) (Want.bool rfl rfl rfl rfl (by rw [(not_t (c84))]; rfl)) (by first | rfl | simp only [e7, cond_true, cond_false, List.cons_append, List.nil_append, List.append_nil]) (fun x => by first | rfl | simp only [ins_self, ins_ne D (show 15 ≠ 7 by decide), upd_self, upd_ne env81 x (show 15 ≠ 7 by decide), e7, cond_true, cond_false, List.cons_append, List.nil_append, List.append_nil]) (fun x => rfl) (OpR.loadPtr 1 rfl rfl rfl rfl)
   refine oS (d := .val (.int .i64 (x83.2.1.length : Int))) (fun _ => Want.bool rfl rfl rfl rfl (by rw [(not_t (c84))]; rfl)) (fun _ => rfl) (fun _ _ _ => rfl) (fun _ _ => OpR.cast (OpR.pure rfl) (intE (lenS _))) (fun _ _ _ _ _ _ _ => rfl) ?_
   refine oS (d := .val (.bool (!(x85 == (x83.2.1.length : Int))))) (fun _ => Want.bool rfl rfl rfl rfl (by rw [(not_t (c84))]; rfl)) (fun _ => rfl) (fun _ _ _ => rfl) (fun _ _ => OpR.pure rfl) (fun _ _ _ _ _ _ _ => rfl) ?_
   refine oS (d := .val (.bool (!(x85 == (x83.2.1.length : Int))))) (fun _ => Want.plain rfl) (fun _ => rfl) (fun _ _ _ => rfl) (fun _ _ => OpR.pickF rfl (not_t (c84)) rfl) (fun _ _ _ _ _ _ _ => rfl) ?_
   refine oS (d := .val (.bool (!(x85 == (x83.2.1.length : Int))))) (fun _ => Want.plain rfl) (fun _ => rfl) (fun _ _ _ => rfl) (fun _ _ => OpR.pure rfl) (fun _ _ _ _ _ _ _ => rfl) ?_
   refine oS (d := .val (.pointer (some ⟨(blk (vn w3 0)), 0, none⟩))) (fun _ => Want.bool rfl rfl rfl rfl (by rw [(not_t (beq_iff_eq.2 c86))]; rfl)) (fun _ => rfl) (fun _ _ _ => rfl) (fun _ _ => OpR.pure rfl) (fun _ _ _ _ _ _ _ => rfl) ?_
   refine OpsS.cons' true ?_ (fun _ _ _ _ _ _ _ => rfl) ?_
   · intro D env81 hA
     have e7 : D 7 = true := hA.yes 7 _ rfl rfl
     exact OpS.yes (o0 := [.var (blk (vn w3 0)) [.val (vn (env81 7) 0)] 85, .var (blk (vn w55 0)) [.val (.string (bs x83.2.1))] 58, .row (vn (env81 7) 0) (List.map byteD x83.2.2) 1 5, .var (blk p77) [.val (.string (bs x76.fText)), .val (.bool x76.fKeep)] 55]) (o1 := fun x => [.var (blk (vn w3 0)) [.val (vn (env81 7) 0)] 85, .var (blk (vn w55 0)) [.val (.string (bs x83.2.1))] 58, .row (vn (env81 7) 0) (List.map byteD x83.2.2) 1 5, .var (blk p77) [.val (.string (bs x76.fText)), .val (.bool x76.fKeep)] 55]) (d := fun x => .val (.int .i64 x87)) (Want.bool rfl rfl rfl rfl (by rw [(not_t (beq_iff_eq.2 c86))]; rfl)) (by first | rfl | simp only [e7, cond_true, cond_false, List.cons_append, List.nil_append, List.append_nil]) (fun x => by first | rfl | simp only [ins_self, ins_ne D (show 21 ≠ 7 by decide), upd_self, upd_ne env81 x (show 21 ≠ 7 by decide), e7, cond_true, cond_false, List.cons_append, List.nil_append, List.append_nil]) (fun x => rfl) (OpR.call [0, 2] fn23 (arena_Arena_Room_c hx87) rfl rfl rfl (fun _ => rfl))
   refine oS (d := .val (.pointer (some ⟨(blk (vn w55 0)), 0, none⟩))) (fun _ => Want.bool rfl rfl rfl rfl (by rw [(not_t (beq_iff_eq.2 c86))]; rfl)) (fun _ => rfl) (fun _ _ _ => rfl) (fun _ _ => OpR.pure rfl) (fun _ _ _ _ _ _ _ => rfl) ?_
   refine oS (d := .val (.pointer (some ⟨(blk (vn w55 0)), 0, none⟩))) (fun _ => Want.bool rfl rfl rfl rfl (by rw [(not_t (beq_iff_eq.2 c86))]; rfl)) (fun _ => rfl) (fun _ _ _ => rfl) (fun _ _ => OpR.pure rfl) (fun _ _ _ _ _ _ _ => rfl) ?_
   refine oS (d := .val (.pointer (some ⟨(blk (vn w55 0)), 0, none⟩))) (fun _ => Want.bool rfl rfl rfl rfl (by rw [(not_t (beq_iff_eq.2 c86))]; rfl)) (fun _ => rfl) (fun _ _ _ => rfl) (fun _ _ => OpR.pure rfl) (fun _ _ _ _ _ _ _ => rfl) ?_
   refine OpsS.cons' true ?_ (fun _ _ _ _ _ _ _ => rfl) ?_
   · intro D env81 hA
     have e7 : D 7 = true := hA.yes 7 _ rfl rfl
     exact OpS.yes (o0 := [.var (blk (vn w3 0)) [.val (vn (env81 7) 0)] 85, .var (blk (vn w55 0)) [.val (.string (bs x83.2.1))] 58, .row (vn (env81 7) 0) (List.map byteD x83.2.2) 1 5, .var (blk p77) [.val (.string (bs x76.fText)), .val (.bool x76.fKeep)] 55]) (o1 := fun x => [.var (blk (vn w3 0)) [.val (vn (env81 7) 0)] 85, .var (blk (vn w55 0)) [.val (.string (bs x83.2.1))] 58, .row (vn (env81 7) 0) (List.map byteD x83.2.2) 1 5, .var (blk p77) [.val (.string (bs x76.fText)), .val (.bool x76.fKeep)] 55]) (d := fun x => .val (.string (bs x83.2.1))) (Want.bool rfl rfl rfl rfl (by rw [(not_t (beq_iff_eq.2 c86))]; rfl)) (by first | rfl | simp only [e7, cond_true, cond_false, List.cons_append, List.nil_append, List.append_nil]) (fun x => by first | rfl | simp only [ins_self, ins_ne D (show 25 ≠ 7 by decide), upd_self, upd_ne env81 x (show 25 ≠ 7 by decide), e7, cond_true, cond_false, List.cons_append, List.nil_append, List.append_nil]) (fun x => rfl) (OpR.loadPtr 1 rfl rfl rfl rfl)
   refine oS (d := .val (.int .i64 (x83.2.1.length : Int))) (fun _ => Want.bool rfl rfl rfl rfl (by rw [(not_t (beq_iff_eq.2 c86))]; rfl)) (fun _ => rfl) (fun _ _ _ => rfl) (fun _ _ => OpR.cast (OpR.pure rfl) (intE (lenS _))) (fun _ _ _ _ _ _ _ => rfl) ?_
   refine oS (d := .val (.int .i64 (w64 (16384 - (x83.2.1.length : Int))))) (fun _ => Want.bool rfl rfl rfl rfl (by rw [(not_t (beq_iff_eq.2 c86))]; rfl)) (fun _ => rfl) (fun _ _ _ => rfl) (fun _ _ => OpR.pure rfl) (fun _ _ _ _ _ _ _ => rfl) ?_
   refine oS (d := .val (.bool (!(x87 == (w64 (16384 - (x83.2.1.length : Int))))))) (fun _ => Want.bool rfl rfl rfl rfl (by rw [(not_t (beq_iff_eq.2 c86))]; rfl)) (fun _ => rfl) (fun _ _ _ => rfl) (fun _ _ => OpR.pure rfl) (fun _ _ _ _ _ _ _ => rfl) ?_
   refine oS (d := .val (.bool (!(x87 == (w64 (16384 - (x83.2.1.length : Int))))))) (fun _ => Want.plain rfl) (fun _ => rfl) (fun _ _ _ => rfl) (fun _ _ => OpR.pickF rfl (not_t (beq_iff_eq.2 c86)) rfl) (fun _ _ _ _ _ _ _ => rfl) ?_
   exact trivial
 rintro _ ⟨u64, rfl, y65, rfl⟩
 show T X _ _ _
 refine T.seq ?_
 refine T.region ?_
 refine TL.op1 (OpR.pure rfl) rfl ?_
 refine TL.op1 (OpR.pure rfl) rfl ?_
 refine TL.op1 (OpR.pure rfl) rfl ?_
 obtain ⟨x89, hx89, h0⟩ := bnd_some h0
 refine TL.op1 (OpR.call [0, 2] fn24 (arena_Arena_Byte_2_c hx89) rfl rfl rfl (fun _ => rfl)) rfl ?_
 refine TL.op1 (OpR.pure rfl) rfl ?_
 refine TL.op1 (OpR.pure rfl) rfl ?_
 refine TL.op1 (OpR.pure rfl) rfl ?_
 refine TL.op1 (OpR.pure rfl) rfl ?_
 refine TL.op1 (OpR.pure rfl) rfl ?_
 refine TL.nil ?_
 show T X _ _ _
 refine T.seq ?_
 refine T.region ?_
 refine TL.op1 (OpR.pure rfl) rfl ?_
 refine TL.op1 (OpR.pure rfl) rfl ?_
 refine TL.op1 (OpR.pure rfl) rfl ?_
 refine TL.op1 (OpR.build rfl rfl rfl rfl rfl) rfl ?_
 obtain ⟨x90, hx90, h0⟩ := bnd_some h0
 refine TL.op1 (OpR.call [1] fn25 (ref03_Arena_Bytes_c hx90) rfl rfl rfl (fun _ => rfl)) rfl ?_
 refine TL.op1 (OpR.pure rfl) rfl ?_
 refine TL.nil ?_
 show T X _ _ _
 refine T.seq ?_
 obtain ⟨t91, ht91, h0⟩ := bnd_some h0
 refine T.cutC (fun S' => S' = ⟨[(6, .val (.bool t91))], [], 141⟩) (fun _ h => h) ?_ ?_
 rotate_left
 · rintro _ rfl
   show T X _ _ _
   refine T.ret ?_
   obtain rfl := Option.some.inj h0
   exact PostG.retP (ks := []) (Gst.only [6] rfl) undef (ResL.cons (ResV.tmp rfl) ResL.nil) rfl rfl rfl rfl
 obtain ⟨x93, hx93, ht91⟩ := bnd_some ht91
 obtain ⟨x94, hx94, ht91⟩ := bnd_some ht91
 obtain ⟨x95, hx95, ht91⟩ := bnd_some ht91
 rcases ite_some ht91 with ⟨c96, ht91⟩ | ⟨c96, ht91⟩
 rotate_left
 · refine T.drawQ drawsX [.val (.pointer (some ⟨(blk (vn w3 0)), 0, none⟩)), .agg [.val (.int .i64 a2.fAt), .val (.int .i64 a2.fN)], .val (.bool x93), .val (.pointer (some ⟨(blk (vn w55 0)), 0, none⟩)), .agg [.val (.int .i64 a2.fAt), .val (.int .i64 a2.fN)], .agg [.val (.int .i64 x94.fAt), .val (.int .i64 x94.fN)], .val (.bool x95), .val (.bool (x93 == x95)), .val (.bool (x93 == x95)), .tup [], .tup [], .tup [], .tup [], .tup [], .tup [], .tup [], .tup [], .tup [], .val (.bool false), .val (.bool false), .tup [], .tup [], .tup [], .tup [], .tup [], .val (.bool false), .val (.bool false), .tup [], .tup [], .tup [], .tup [], .tup [], .tup [], .tup [], .tup [], .tup [], .tup [], .tup [], .tup [], .tup [], .tup [], .tup [], .tup [], .val (.bool false), .val (.bool false), .tup [], .val (.bool false), .val (.bool false)] [5, 6, 7, 9, 13, 14, 15, 82, 83, 84, 85, 86, 87, 88, 89, 90, 91, 92, 93, 94, 95, 96, 97, 98, 99, 100, 101, 102, 103, 104, 105, 106, 107, 108, 109, 110, 111, 112, 113, 114, 115, 116, 117, 118, 119, 120, 121, 122, 123, 124, 125, 126, 127, 128, 129, 130, 131, 132, 133, 134, 135, 136, 137, 138, 139, 140] (by decide +kernel) rfl ?_ rfl ?_
   rotate_left
   · obtain rfl := Option.some.inj ht91
     exact ⟨_, Gst.trans (Gst.only [6] rfl) (Gst.pick [] rfl rfl), rfl⟩
   refine OpsQ.yes (Want.plain rfl) rfl (OpR.pure rfl) ?_
   refine OpsQ.yes (Want.plain rfl) rfl (OpR.pure rfl) ?_
   refine OpsQ.yes (Want.plain rfl) rfl (OpR.call [0, 2] fn26 (arena_Arena_Right_c hx93) rfl rfl rfl (fun _ => rfl)) ?_
   refine OpsQ.yes (Want.plain rfl) rfl (OpR.pure rfl) ?_
   refine OpsQ.yes (Want.plain rfl) rfl (OpR.pure rfl) ?_
   refine OpsQ.yes (Want.plain rfl) rfl (OpR.call0 fn28 (law03_ours_c hx94) rfl) ?_
   refine OpsQ.yes (Want.plain rfl) rfl (OpR.call [1] fn27 (ref03_Arena_Right_c hx95) rfl rfl rfl (fun _ => rfl)) ?_
   refine OpsQ.yes (Want.plain rfl) rfl (OpR.eqBool rfl rfl rfl rfl) ?_
   refine OpsQ.yes (Want.plain rfl) rfl (OpR.pure rfl) ?_
   refine OpsQ.no (Want.bool rfl rfl rfl rfl (by rw [(eq_false_of_ne_true c96)]; rfl)) rfl ?_
   refine OpsQ.no (Want.bool rfl rfl rfl rfl (by rw [(eq_false_of_ne_true c96)]; rfl)) rfl ?_
   refine OpsQ.no (Want.bool rfl rfl rfl rfl (by rw [(eq_false_of_ne_true c96)]; rfl)) rfl ?_
   refine OpsQ.no (Want.bool rfl rfl rfl rfl (by rw [(eq_false_of_ne_true c96)]; rfl)) rfl ?_
   refine OpsQ.no (Want.bool rfl rfl rfl rfl (by rw [(eq_false_of_ne_true c96)]; rfl)) rfl ?_
   refine OpsQ.no (Want.bool rfl rfl rfl rfl (by rw [(eq_false_of_ne_true c96)]; rfl)) rfl ?_
   refine OpsQ.no (Want.bool rfl rfl rfl rfl (by rw [(eq_false_of_ne_true c96)]; rfl)) rfl ?_
   refine OpsQ.no (Want.bool rfl rfl rfl rfl (by rw [(eq_false_of_ne_true c96)]; rfl)) rfl ?_
   refine OpsQ.no (Want.bool rfl rfl rfl rfl (by rw [(eq_false_of_ne_true c96)]; rfl)) rfl ?_
   refine OpsQ.yes (Want.plain rfl) rfl (OpR.pickF rfl (eq_false_of_ne_true c96) rfl) ?_
   refine OpsQ.yes (Want.plain rfl) rfl (OpR.pure rfl) ?_
   refine OpsQ.no (Want.bool rfl rfl rfl rfl rfl) rfl ?_
   refine OpsQ.no (Want.bool rfl rfl rfl rfl rfl) rfl ?_
   refine OpsQ.no (Want.bool rfl rfl rfl rfl rfl) rfl ?_
   refine OpsQ.no (Want.bool rfl rfl rfl rfl rfl) rfl ?_
   refine OpsQ.no (Want.bool rfl rfl rfl rfl rfl) rfl ?_
   refine OpsQ.yes (Want.plain rfl) rfl (OpR.pickF rfl rfl rfl) ?_
   refine OpsQ.yes (Want.plain rfl) rfl (OpR.pure rfl) ?_
   refine OpsQ.no (Want.bool rfl rfl rfl rfl rfl) rfl ?_
   refine OpsQ.no (Want.bool rfl rfl rfl rfl rfl) rfl ?_
   refine OpsQ.no (Want.bool rfl rfl rfl rfl rfl) rfl ?_
   refine OpsQ.no (Want.unit rfl rfl rfl rfl) rfl ?_
   refine OpsQ.no (Want.unit rfl rfl rfl rfl) rfl ?_
   refine OpsQ.no (Want.bool rfl rfl rfl rfl rfl) rfl ?_
   refine OpsQ.no (Want.bool rfl rfl rfl rfl rfl) rfl ?_
   refine OpsQ.no (Want.unit rfl rfl rfl rfl) rfl ?_
   refine OpsQ.no (Want.unit rfl rfl rfl rfl) rfl ?_
   refine OpsQ.no (Want.unit rfl rfl rfl rfl) rfl ?_
   refine OpsQ.no (Want.unit rfl rfl rfl rfl) rfl ?_
   refine OpsQ.no (Want.unit rfl rfl rfl rfl) rfl ?_
   refine OpsQ.no (Want.unit rfl rfl rfl rfl) rfl ?_
   refine OpsQ.no (Want.unit rfl rfl rfl rfl) rfl ?_
   refine OpsQ.no (Want.unit rfl rfl rfl rfl) rfl ?_
   refine OpsQ.no (Want.bool rfl rfl rfl rfl rfl) rfl ?_
   refine OpsQ.yes (Want.plain rfl) rfl (OpR.pickF rfl rfl rfl) ?_
   refine OpsQ.yes (Want.plain rfl) rfl (OpR.pure rfl) ?_
   refine OpsQ.no (Want.bool rfl rfl rfl rfl rfl) rfl ?_
   refine OpsQ.yes (Want.plain rfl) rfl (OpR.pickF rfl rfl rfl) ?_
   refine OpsQ.yes (Want.plain rfl) rfl (OpR.pure rfl) ?_
   exact OpsQ.nil
 obtain ⟨x97, hx97, ht91⟩ := bnd_some ht91
 obtain ⟨x98, hx98, ht91⟩ := bnd_some ht91
 obtain ⟨x99, hx99, ht91⟩ := bnd_some ht91
 rcases ite_some ht91 with ⟨c100, ht91⟩ | ⟨c100, ht91⟩
 rotate_left
 · refine T.drawS drawsX (fun env92 => [.val (.pointer (some ⟨(blk (vn w3 0)), 0, none⟩)), .agg [.val (.int .i64 a2.fAt), .val (.int .i64 a2.fN)], .val (.bool x93), .val (.pointer (some ⟨(blk (vn w55 0)), 0, none⟩)), .agg [.val (.int .i64 a2.fAt), .val (.int .i64 a2.fN)], .agg [.val (.int .i64 x94.fAt), .val (.int .i64 x94.fN)], .val (.bool x95), .val (.bool (x93 == x95)), .val (.bool (x93 == x95)), .val (.pointer (some ⟨(blk (vn w3 0)), 0, none⟩)), .agg [.val (.int .i64 a2.fAt), .val (.int .i64 a2.fN)], .val (vn (env92 11) 0), .val (.string (bs x97)), .val (.pointer (some ⟨(blk (vn w55 0)), 0, none⟩)), .agg [.val (.int .i64 a2.fAt), .val (.int .i64 a2.fN)], .agg [.val (.int .i64 x98.fAt), .val (.int .i64 x98.fN)], .val (.string (bs x99)), .val (.bool (x97 == x99)), .val (.bool (x97 == x99)), .val (.bool (x97 == x99)), .tup [], .tup [], .tup [], .tup [], .tup [], .val (.bool false), .val (.bool false), .tup [], .tup [], .tup [], .tup [], .tup [], .tup [], .tup [], .tup [], .tup [], .tup [], .tup [], .tup [], .tup [], .tup [], .tup [], .tup [], .val (.bool false), .val (.bool false), .tup [], .val (.bool false), .val (.bool false)]) (fun D env92 => [.var (blk (vn w3 0)) [.val y65] 85, .var (blk (vn w55 0)) [.val (.string (bs u64.1))] 58, .row y65 (List.map byteD u64.2) 1 5] ++ bif D 11 then [.row (vn (env92 11) 0) (List.map byteD x97) 1 5] else []) [0, 0, 3, 0, 0, 23, 63, 127, 255, 511, 511, 2047, 4095, 511, 511, 20479, 61439, 131071, 262143, 524287, 1048575, 1048575, 3145727, 7340031, 16777215, 33554431, 67108863, 134217727, 268435455, 536870911, 1073741823, 2147483647, 4294967295, 8589934591, 17179869183, 34359738367, 68719476735, 137438953471, 274877906943, 68719476735, 1099511627775, 2199023255551, 4398046511103, 8796093022207, 17592186044415, 35184372088831, 70368744177663, 140737488355327] [5, 6, 7, 9, 13, 14, 15, 82, 83, 84, 85, 86, 87, 88, 89, 90, 91, 92, 93, 94, 95, 96, 97, 98, 99, 100, 101, 102, 103, 104, 105, 106, 107, 108, 109, 110, 111, 112, 113, 114, 115, 116, 117, 118, 119, 120, 121, 122, 123, 124, 125, 126, 127, 128, 129, 130, 131, 132, 133, 134, 135, 136, 137, 138, 139, 140] (fun env92 => [.var (blk (vn w3 0)) [.val y65] 85, .var (blk (vn w55 0)) [.val (.string (bs u64.1))] 58, .row y65 (List.map byteD u64.2) 1 5, .row (vn (env92 11) 0) (List.map byteD x97) 1 5]) (by decide +kernel) (by decide +kernel) (fun _ => rfl) (fun _ => rfl) ?_ (fun _ => rfl) (fun _ => rfl) ?_
   rotate_left
   · intro env92
     obtain rfl := Option.some.inj ht91
     exact ⟨_, Gst.trans (Gst.only [6] rfl) (Gst.pick [] rfl rfl), rfl⟩
   refine oS (d := .val (.pointer (some ⟨(blk (vn w3 0)), 0, none⟩))) (fun _ => Want.plain rfl) (fun _ => rfl) (fun _ _ _ => rfl) (fun _ _ => OpR.pure rfl) (fun _ _ _ _ _ _ _ => rfl) ?_
   refine oS (d := .agg [.val (.int .i64 a2.fAt), .val (.int .i64 a2.fN)]) (fun _ => Want.plain rfl) (fun _ => rfl) (fun _ _ _ => rfl) (fun _ _ => OpR.pure rfl) (fun _ _ _ _ _ _ _ => rfl) ?_
   refine OpsS.cons' true ?_ (fun _ _ _ _ _ _ _ => rfl) ?_
   · intro D env92 hA
     have e11 : D 11 = false := hA.no 11 _ rfl rfl
     exact OpS.yes (o0 := [.var (blk (vn w3 0)) [.val y65] 85, .var (blk (vn w55 0)) [.val (.string (bs u64.1))] 58, .row y65 (List.map byteD u64.2) 1 5]) (o1 := fun x => [.var (blk (vn w3 0)) [.val y65] 85, .var (blk (vn w55 0)) [.val (.string (bs u64.1))] 58, .row y65 (List.map byteD u64.2) 1 5]) (d := fun x => .val (.bool x93)) (Want.plain rfl) (by first | rfl | simp only [e11, cond_true, cond_false, List.cons_append, List.nil_append, List.append_nil]) (fun x => by first | rfl | simp only [ins_self, ins_ne D (show 2 ≠ 11 by decide), upd_self, upd_ne env92 x (show 2 ≠ 11 by decide), e11, cond_true, cond_false, List.cons_append, List.nil_append, List.append_nil]) (fun x => rfl) (OpR.call [0, 2] fn26 (arena_Arena_Right_c hx93) rfl rfl rfl (fun _ => rfl))
   refine oS (d := .val (.pointer (some ⟨(blk (vn w55 0)), 0, none⟩))) (fun _ => Want.plain rfl) (fun _ => rfl) (fun _ _ _ => rfl) (fun _ _ => OpR.pure rfl) (fun _ _ _ _ _ _ _ => rfl) ?_
   refine oS (d := .agg [.val (.int .i64 a2.fAt), .val (.int .i64 a2.fN)]) (fun _ => Want.plain rfl) (fun _ => rfl) (fun _ _ _ => rfl) (fun _ _ => OpR.pure rfl) (fun _ _ _ _ _ _ _ => rfl) ?_
   refine oS (d := .agg [.val (.int .i64 x94.fAt), .val (.int .i64 x94.fN)]) (fun _ => Want.plain rfl) (fun _ => rfl) (fun _ _ _ => rfl) (fun _ _ => OpR.call0 fn28 (law03_ours_c hx94) rfl) (fun _ _ _ _ _ _ _ => rfl) ?_
   refine OpsS.cons' true ?_ (fun _ _ _ _ _ _ _ => rfl) ?_
   · intro D env92 hA
     have e11 : D 11 = false := hA.no 11 _ rfl rfl
     exact OpS.yes (o0 := [.var (blk (vn w3 0)) [.val y65] 85, .var (blk (vn w55 0)) [.val (.string (bs u64.1))] 58, .row y65 (List.map byteD u64.2) 1 5]) (o1 := fun x => [.var (blk (vn w3 0)) [.val y65] 85, .var (blk (vn w55 0)) [.val (.string (bs u64.1))] 58, .row y65 (List.map byteD u64.2) 1 5]) (d := fun x => .val (.bool x95)) (Want.plain rfl) (by first | rfl | simp only [e11, cond_true, cond_false, List.cons_append, List.nil_append, List.append_nil]) (fun x => by first | rfl | simp only [ins_self, ins_ne D (show 6 ≠ 11 by decide), upd_self, upd_ne env92 x (show 6 ≠ 11 by decide), e11, cond_true, cond_false, List.cons_append, List.nil_append, List.append_nil]) (fun x => rfl) (OpR.call [1] fn27 (ref03_Arena_Right_c hx95) rfl rfl rfl (fun _ => rfl))
   refine oS (d := .val (.bool (x93 == x95))) (fun _ => Want.plain rfl) (fun _ => rfl) (fun _ _ _ => rfl) (fun _ _ => OpR.eqBool rfl rfl rfl rfl) (fun _ _ _ _ _ _ _ => rfl) ?_
   refine oS (d := .val (.bool (x93 == x95))) (fun _ => Want.plain rfl) (fun _ => rfl) (fun _ _ _ => rfl) (fun _ _ => OpR.pure rfl) (fun _ _ _ _ _ _ _ => rfl) ?_
   refine oS (d := .val (.pointer (some ⟨(blk (vn w3 0)), 0, none⟩))) (fun _ => Want.bool rfl rfl rfl rfl (by rw [(c96)]; rfl)) (fun _ => rfl) (fun _ _ _ => rfl) (fun _ _ => OpR.pure rfl) (fun _ _ _ _ _ _ _ => rfl) ?_
   refine oS (d := .agg [.val (.int .i64 a2.fAt), .val (.int .i64 a2.fN)]) (fun _ => Want.bool rfl rfl rfl rfl (by rw [(c96)]; rfl)) (fun _ => rfl) (fun _ _ _ => rfl) (fun _ _ => OpR.pure rfl) (fun _ _ _ _ _ _ _ => rfl) ?_
   refine OpsS.cons' true ?_ (fun D hA env92 x j hj hD => match j, hj, hD with | 0, _, _ => rfl | 1, _, _ => rfl | 2, _, _ => rfl | 3, _, _ => rfl | 4, _, _ => rfl | 5, _, _ => rfl | 6, _, _ => rfl | 7, _, _ => rfl | 8, _, _ => rfl | 9, _, _ => rfl | 10, _, _ => rfl | 11, hj, _ => absurd rfl hj | 12, _, _ => rfl | 13, _, _ => rfl | 14, _, _ => rfl | 15, _, _ => rfl | 16, _, _ => rfl | 17, _, _ => rfl | 18, _, _ => rfl | 19, _, _ => rfl | 20, _, _ => rfl | 21, _, _ => rfl | 22, _, _ => rfl | 23, _, _ => rfl | 24, _, _ => rfl | 25, _, _ => rfl | 26, _, _ => rfl | 27, _, _ => rfl | 28, _, _ => rfl | 29, _, _ => rfl | 30, _, _ => rfl | 31, _, _ => rfl | 32, _, _ => rfl | 33, _, _ => rfl | 34, _, _ => rfl | 35, _, _ => rfl | 36, _, _ => rfl | 37, _, _ => rfl | 38, _, _ => rfl | 39, _, _ => rfl | 40, _, _ => rfl | 41, _, _ => rfl | 42, _, _ => rfl | 43, _, _ => rfl | 44, _, _ => rfl | 45, _, _ => rfl | 46, _, _ => rfl | 47, _, _ => rfl | _ + 48, _, _ => rfl) ?_
   · intro D env92 hA
     exact OpS.yes (o0 := [.var (blk (vn w3 0)) [.val y65] 85, .var (blk (vn w55 0)) [.val (.string (bs u64.1))] 58, .row y65 (List.map byteD u64.2) 1 5]) (o1 := fun x => [.var (blk (vn w3 0)) [.val y65] 85, .var (blk (vn w55 0)) [.val (.string (bs u64.1))] 58, .row y65 (List.map byteD u64.2) 1 5, .row (vn x 0) (List.map byteD x97) 1 5]) (d := fun x => .val (vn x 0)) (Want.bool rfl rfl rfl rfl (by rw [(c96)]; rfl)) (by first | rfl | simp only [hA.me, cond_true, cond_false, List.cons_append, List.nil_append, List.append_nil]) (fun x => by first | rfl | simp only [ins_self, upd_self, hA.me, cond_true, cond_false, List.cons_append, List.nil_append, List.append_nil]) (fun x => rfl) (OpR.call [0, 2] fn18 (arena_Arena_Bytes_c hx97) rfl rfl rfl (fun _ => rfl))
   refine OpsS.cons' true ?_ (fun _ _ _ _ _ _ _ => rfl) ?_
   · intro D env92 hA
     have e11 : D 11 = true := hA.yes 11 _ rfl rfl
     exact OpS.yes (o0 := [.var (blk (vn w3 0)) [.val y65] 85, .var (blk (vn w55 0)) [.val (.string (bs u64.1))] 58, .row y65 (List.map byteD u64.2) 1 5, .row (vn (env92 11) 0) (List.map byteD x97) 1 5]) (o1 := fun x => [.var (blk (vn w3 0)) [.val y65] 85, .var (blk (vn w55 0)) [.val (.string (bs u64.1))] 58, .row y65 (List.map byteD u64.2) 1 5, .row (vn (env92 11) 0) (List.map byteD x97) 1 5]) (d := fun x => .val (.string (bs x97))) (Want.bool rfl rfl rfl rfl (by rw [(c96)]; rfl)) (by first | rfl | simp only [e11, cond_true, cond_false, List.cons_append, List.nil_append, List.append_nil]) (fun x => by first | rfl | simp only [ins_self, ins_ne D (show 12 ≠ 11 by decide), upd_self, upd_ne env92 x (show 12 ≠ 11 by decide), e11, cond_true, cond_false, List.cons_append, List.nil_append, List.append_nil]) (fun x => rfl) (OpR.toStrF (l := x97) (Src.row 3 rfl rfl) rfl rfl rfl rfl rfl rfl)
   refine oS (d := .val (.pointer (some ⟨(blk (vn w55 0)), 0, none⟩))) (fun _ => Want.bool rfl rfl rfl rfl (by rw [(c96)]; rfl)) (fun _ => rfl) (fun _ _ _ => rfl) (fun _ _ => OpR.pure rfl) (fun _ _ _ _ _ _ _ => rfl) ?_
   refine oS (d := .agg [.val (.int .i64 a2.fAt), .val (.int .i64 a2.fN)]) (fun _ => Want.bool rfl rfl rfl rfl (by rw [(c96)]; rfl)) (fun _ => rfl) (fun _ _ _ => rfl) (fun _ _ => OpR.pure rfl) (fun _ _ _ _ _ _ _ => rfl) ?_
   refine oS (d := .agg [.val (.int .i64 x98.fAt), .val (.int .i64 x98.fN)]) (fun _ => Want.bool rfl rfl rfl rfl (by rw [(c96)]; rfl)) (fun _ => rfl) (fun _ _ _ => rfl) (fun _ _ => OpR.call0 fn28 (law03_ours_c hx98) rfl) (fun _ _ _ _ _ _ _ => rfl) ?_
   refine OpsS.cons' true ?_ (fun _ _ _ _ _ _ _ => rfl) ?_
   · intro D env92 hA
     have e11 : D 11 = true := hA.yes 11 _ rfl rfl
     exact OpS.yes (o0 := [.var (blk (vn w3 0)) [.val y65] 85, .var (blk (vn w55 0)) [.val (.string (bs u64.1))] 58, .row y65 (List.map byteD u64.2) 1 5, .row (vn (env92 11) 0) (List.map byteD x97) 1 5]) (o1 := fun x => [.var (blk (vn w3 0)) [.val y65] 85, .var (blk (vn w55 0)) [.val (.string (bs u64.1))] 58, .row y65 (List.map byteD u64.2) 1 5, .row (vn (env92 11) 0) (List.map byteD x97) 1 5]) (d := fun x => .val (.string (bs x99))) (Want.bool rfl rfl rfl rfl (by rw [(c96)]; rfl)) (by first | rfl | simp only [e11, cond_true, cond_false, List.cons_append, List.nil_append, List.append_nil]) (fun x => by first | rfl | simp only [ins_self, ins_ne D (show 16 ≠ 11 by decide), upd_self, upd_ne env92 x (show 16 ≠ 11 by decide), e11, cond_true, cond_false, List.cons_append, List.nil_append, List.append_nil]) (fun x => rfl) (OpR.call [1] fn25 (ref03_Arena_Bytes_c hx99) rfl rfl rfl (fun _ => rfl))
   refine oS (d := .val (.bool (x97 == x99))) (fun _ => Want.bool rfl rfl rfl rfl (by rw [(c96)]; rfl)) (fun _ => rfl) (fun _ _ _ => rfl) (fun _ _ => OpR.cast (OpR.pure rfl) (boolE (strEq _ _))) (fun _ _ _ _ _ _ _ => rfl) ?_
   refine oS (d := .val (.bool (x97 == x99))) (fun _ => Want.plain rfl) (fun _ => rfl) (fun _ _ _ => rfl) (fun _ _ => OpR.pickT rfl (c96) rfl) (fun _ _ _ _ _ _ _ => rfl) ?_
   refine oS (d := .val (.bool (x97 == x99))) (fun _ => Want.plain rfl) (fun _ => rfl) (fun _ _ _ => rfl) (fun _ _ => OpR.pure rfl) (fun _ _ _ _ _ _ _ => rfl) ?_
   refine OpsS.cons' false (fun D env92 hA => OpS.no (Want.bool rfl rfl rfl rfl (by rw [(beq_eq_false_iff_ne.2 c100)]; rfl)) rfl rfl) (fun _ _ _ _ _ _ _ => rfl) ?_
   refine OpsS.cons' false (fun D env92 hA => OpS.no (Want.bool rfl rfl rfl rfl (by rw [(beq_eq_false_iff_ne.2 c100)]; rfl)) rfl rfl) (fun _ _ _ _ _ _ _ => rfl) ?_
   refine OpsS.cons' false (fun D env92 hA => OpS.no (Want.bool rfl rfl rfl rfl (by rw [(beq_eq_false_iff_ne.2 c100)]; rfl)) rfl rfl) (fun _ _ _ _ _ _ _ => rfl) ?_
   refine OpsS.cons' false (fun D env92 hA => OpS.no (Want.bool rfl rfl rfl rfl (by rw [(beq_eq_false_iff_ne.2 c100)]; rfl)) rfl rfl) (fun _ _ _ _ _ _ _ => rfl) ?_
   refine OpsS.cons' false (fun D env92 hA => OpS.no (Want.bool rfl rfl rfl rfl (by rw [(beq_eq_false_iff_ne.2 c100)]; rfl)) rfl rfl) (fun _ _ _ _ _ _ _ => rfl) ?_
   refine oS (d := .val (.bool false)) (fun _ => Want.plain rfl) (fun _ => rfl) (fun _ _ _ => rfl) (fun _ _ => OpR.pickF rfl (beq_eq_false_iff_ne.2 c100) rfl) (fun _ _ _ _ _ _ _ => rfl) ?_
   refine oS (d := .val (.bool false)) (fun _ => Want.plain rfl) (fun _ => rfl) (fun _ _ _ => rfl) (fun _ _ => OpR.pure rfl) (fun _ _ _ _ _ _ _ => rfl) ?_
   refine OpsS.cons' false (fun D env92 hA => OpS.no (Want.bool rfl rfl rfl rfl rfl) rfl rfl) (fun _ _ _ _ _ _ _ => rfl) ?_
   refine OpsS.cons' false (fun D env92 hA => OpS.no (Want.bool rfl rfl rfl rfl rfl) rfl rfl) (fun _ _ _ _ _ _ _ => rfl) ?_
   refine OpsS.cons' false (fun D env92 hA => OpS.no (Want.bool rfl rfl rfl rfl rfl) rfl rfl) (fun _ _ _ _ _ _ _ => rfl) ?_
   refine OpsS.cons' false (fun D env92 hA => OpS.no (Want.unit rfl rfl rfl rfl) rfl rfl) (fun _ _ _ _ _ _ _ => rfl) ?_
   refine OpsS.cons' false (fun D env92 hA => OpS.no (Want.unit rfl rfl rfl rfl) rfl rfl) (fun _ _ _ _ _ _ _ => rfl) ?_
   refine OpsS.cons' false (fun D env92 hA => OpS.no (Want.bool rfl rfl rfl rfl rfl) rfl rfl) (fun _ _ _ _ _ _ _ => rfl) ?_
   refine OpsS.cons' false (fun D env92 hA => OpS.no (Want.bool rfl rfl rfl rfl rfl) rfl rfl) (fun _ _ _ _ _ _ _ => rfl) ?_
   refine OpsS.cons' false (fun D env92 hA => OpS.no (Want.unit rfl rfl rfl rfl) rfl rfl) (fun _ _ _ _ _ _ _ => rfl) ?_
   refine OpsS.cons' false (fun D env92 hA => OpS.no (Want.unit rfl rfl rfl rfl) rfl rfl) (fun _ _ _ _ _ _ _ => rfl) ?_
   refine OpsS.cons' false (fun D env92 hA => OpS.no (Want.unit rfl rfl rfl rfl) rfl rfl) (fun _ _ _ _ _ _ _ => rfl) ?_
   refine OpsS.cons' false (fun D env92 hA => OpS.no (Want.unit rfl rfl rfl rfl) rfl rfl) (fun _ _ _ _ _ _ _ => rfl) ?_
   refine OpsS.cons' false (fun D env92 hA => OpS.no (Want.unit rfl rfl rfl rfl) rfl rfl) (fun _ _ _ _ _ _ _ => rfl) ?_
   refine OpsS.cons' false (fun D env92 hA => OpS.no (Want.unit rfl rfl rfl rfl) rfl rfl) (fun _ _ _ _ _ _ _ => rfl) ?_
   refine OpsS.cons' false (fun D env92 hA => OpS.no (Want.unit rfl rfl rfl rfl) rfl rfl) (fun _ _ _ _ _ _ _ => rfl) ?_
   refine OpsS.cons' false (fun D env92 hA => OpS.no (Want.unit rfl rfl rfl rfl) rfl rfl) (fun _ _ _ _ _ _ _ => rfl) ?_
   refine OpsS.cons' false (fun D env92 hA => OpS.no (Want.bool rfl rfl rfl rfl rfl) rfl rfl) (fun _ _ _ _ _ _ _ => rfl) ?_
   refine oS (d := .val (.bool false)) (fun _ => Want.plain rfl) (fun _ => rfl) (fun _ _ _ => rfl) (fun _ _ => OpR.pickF rfl rfl rfl) (fun _ _ _ _ _ _ _ => rfl) ?_
   refine oS (d := .val (.bool false)) (fun _ => Want.plain rfl) (fun _ => rfl) (fun _ _ _ => rfl) (fun _ _ => OpR.pure rfl) (fun _ _ _ _ _ _ _ => rfl) ?_
   refine OpsS.cons' false (fun D env92 hA => OpS.no (Want.bool rfl rfl rfl rfl rfl) rfl rfl) (fun _ _ _ _ _ _ _ => rfl) ?_
   refine oS (d := .val (.bool false)) (fun _ => Want.plain rfl) (fun _ => rfl) (fun _ _ _ => rfl) (fun _ _ => OpR.pickF rfl rfl rfl) (fun _ _ _ _ _ _ _ => rfl) ?_
   refine oS (d := .val (.bool false)) (fun _ => Want.plain rfl) (fun _ => rfl) (fun _ _ _ => rfl) (fun _ _ => OpR.pure rfl) (fun _ _ _ _ _ _ _ => rfl) ?_
   exact trivial
 rcases ite_some ht91 with ⟨c101, ht91⟩ | ⟨c101, ht91⟩
 rotate_left
 · refine T.drawS drawsX (fun env92 => [.val (.pointer (some ⟨(blk (vn w3 0)), 0, none⟩)), .agg [.val (.int .i64 a2.fAt), .val (.int .i64 a2.fN)], .val (.bool x93), .val (.pointer (some ⟨(blk (vn w55 0)), 0, none⟩)), .agg [.val (.int .i64 a2.fAt), .val (.int .i64 a2.fN)], .agg [.val (.int .i64 x94.fAt), .val (.int .i64 x94.fN)], .val (.bool x95), .val (.bool (x93 == x95)), .val (.bool (x93 == x95)), .val (.pointer (some ⟨(blk (vn w3 0)), 0, none⟩)), .agg [.val (.int .i64 a2.fAt), .val (.int .i64 a2.fN)], .val (vn (env92 11) 0), .val (.string (bs x97)), .val (.pointer (some ⟨(blk (vn w55 0)), 0, none⟩)), .agg [.val (.int .i64 a2.fAt), .val (.int .i64 a2.fN)], .agg [.val (.int .i64 x98.fAt), .val (.int .i64 x98.fN)], .val (.string (bs x99)), .val (.bool (x97 == x99)), .val (.bool (x97 == x99)), .val (.bool (x97 == x99)), .val (.bool x89.2), .val (.string (bs x90)), .val (.int .i64 (x90.length : Int)), .val (.bool ((x90.length : Int) == 1)), .val (.bool (x89.2 == ((x90.length : Int) == 1))), .val (.bool (x89.2 == ((x90.length : Int) == 1))), .val (.bool (x89.2 == ((x90.length : Int) == 1))), .tup [], .tup [], .tup [], .tup [], .tup [], .tup [], .tup [], .tup [], .tup [], .tup [], .tup [], .tup [], .tup [], .tup [], .tup [], .tup [], .val (.bool false), .val (.bool false), .tup [], .val (.bool false), .val (.bool false)]) (fun D env92 => [.var (blk (vn w3 0)) [.val y65] 85, .var (blk (vn w55 0)) [.val (.string (bs u64.1))] 58, .row y65 (List.map byteD u64.2) 1 5] ++ bif D 11 then [.row (vn (env92 11) 0) (List.map byteD x97) 1 5] else []) [0, 0, 3, 0, 0, 23, 63, 127, 255, 511, 511, 2047, 4095, 511, 511, 20479, 61439, 131071, 262143, 524287, 1048575, 1048575, 3145727, 7340031, 16777215, 33554431, 67108863, 134217727, 268435455, 536870911, 1073741823, 2147483647, 4294967295, 8589934591, 17179869183, 34359738367, 68719476735, 137438953471, 274877906943, 68719476735, 1099511627775, 2199023255551, 4398046511103, 8796093022207, 17592186044415, 35184372088831, 70368744177663, 140737488355327] [5, 6, 7, 9, 13, 14, 15, 82, 83, 84, 85, 86, 87, 88, 89, 90, 91, 92, 93, 94, 95, 96, 97, 98, 99, 100, 101, 102, 103, 104, 105, 106, 107, 108, 109, 110, 111, 112, 113, 114, 115, 116, 117, 118, 119, 120, 121, 122, 123, 124, 125, 126, 127, 128, 129, 130, 131, 132, 133, 134, 135, 136, 137, 138, 139, 140] (fun env92 => [.var (blk (vn w3 0)) [.val y65] 85, .var (blk (vn w55 0)) [.val (.string (bs u64.1))] 58, .row y65 (List.map byteD u64.2) 1 5, .row (vn (env92 11) 0) (List.map byteD x97) 1 5]) (by decide +kernel) (by decide +kernel) (fun _ => rfl) (fun _ => rfl) ?_ (fun _ => rfl) (fun _ => rfl) ?_
   rotate_left
   · intro env92
     obtain rfl := Option.some.inj ht91
     exact ⟨_, Gst.trans (Gst.only [6] rfl) (Gst.pick [] rfl rfl), rfl⟩
   refine oS (d := .val (.pointer (some ⟨(blk (vn w3 0)), 0, none⟩))) (fun _ => Want.plain rfl) (fun _ => rfl) (fun _ _ _ => rfl) (fun _ _ => OpR.pure rfl) (fun _ _ _ _ _ _ _ => rfl) ?_
   refine oS (d := .agg [.val (.int .i64 a2.fAt), .val (.int .i64 a2.fN)]) (fun _ => Want.plain rfl) (fun _ => rfl) (fun _ _ _ => rfl) (fun _ _ => OpR.pure rfl) (fun _ _ _ _ _ _ _ => rfl) ?_
   refine OpsS.cons' true ?_ (fun _ _ _ _ _ _ _ => rfl) ?_
   · intro D env92 hA
     have e11 : D 11 = false := hA.no 11 _ rfl rfl
     exact OpS.yes (o0 := [.var (blk (vn w3 0)) [.val y65] 85, .var (blk (vn w55 0)) [.val (.string (bs u64.1))] 58, .row y65 (List.map byteD u64.2) 1 5]) (o1 := fun x => [.var (blk (vn w3 0)) [.val y65] 85, .var (blk (vn w55 0)) [.val (.string (bs u64.1))] 58, .row y65 (List.map byteD u64.2) 1 5]) (d := fun x => .val (.bool x93)) (Want.plain rfl) (by first | rfl | simp only [e11, cond_true, cond_false, List.cons_append, List.nil_append, List.append_nil]) (fun x => by first | rfl | simp only [ins_self, ins_ne D (show 2 ≠ 11 by decide), upd_self, upd_ne env92 x (show 2 ≠ 11 by decide), e11, cond_true, cond_false, List.cons_append, List.nil_append, List.append_nil]) (fun x => rfl) (OpR.call [0, 2] fn26 (arena_Arena_Right_c hx93) rfl rfl rfl (fun _ => rfl))
   refine oS (d := .val (.pointer (some ⟨(blk (vn w55 0)), 0, none⟩))) (fun _ => Want.plain rfl) (fun _ => rfl) (fun _ _ _ => rfl) (fun _ _ => OpR.pure rfl) (fun _ _ _ _ _ _ _ => rfl) ?_
   refine oS (d := .agg [.val (.int .i64 a2.fAt), .val (.int .i64 a2.fN)]) (fun _ => Want.plain rfl) (fun _ => rfl) (fun _ _ _ => rfl) (fun _ _ => OpR.pure rfl) (fun _ _ _ _ _ _ _ => rfl) ?_
   refine oS (d := .agg [.val (.int .i64 x94.fAt), .val (.int .i64 x94.fN)]) (fun _ => Want.plain rfl) (fun _ => rfl) (fun _ _ _ => rfl) (fun _ _ => OpR.call0 fn28 (law03_ours_c hx94) rfl) (fun _ _ _ _ _ _ _ => rfl) ?_
   refine OpsS.cons' true ?_ (fun _ _ _ _ _ _ _ => rfl) ?_
   · intro D env92 hA
     have e11 : D 11 = false := hA.no 11 _ rfl rfl
     exact OpS.yes (o0 := [.var (blk (vn w3 0)) [.val y65] 85, .var (blk (vn w55 0)) [.val (.string (bs u64.1))] 58, .row y65 (List.map byteD u64.2) 1 5]) (o1 := fun x => [.var (blk (vn w3 0)) [.val y65] 85, .var (blk (vn w55 0)) [.val (.string (bs u64.1))] 58, .row y65 (List.map byteD u64.2) 1 5]) (d := fun x => .val (.bool x95)) (Want.plain rfl) (by first | rfl | simp only [e11, cond_true, cond_false, List.cons_append, List.nil_append, List.append_nil]) (fun x => by first | rfl | simp only [ins_self, ins_ne D (show 6 ≠ 11 by decide), upd_self, upd_ne env92 x (show 6 ≠ 11 by decide), e11, cond_true, cond_false, List.cons_append, List.nil_append, List.append_nil]) (fun x => rfl) (OpR.call [1] fn27 (ref03_Arena_Right_c hx95) rfl rfl rfl (fun _ => rfl))
   refine oS (d := .val (.bool (x93 == x95))) (fun _ => Want.plain rfl) (fun _ => rfl) (fun _ _ _ => rfl) (fun _ _ => OpR.eqBool rfl rfl rfl rfl) (fun _ _ _ _ _ _ _ => rfl) ?_
   refine oS (d := .val (.bool (x93 == x95))) (fun _ => Want.plain rfl) (fun _ => rfl) (fun _ _ _ => rfl) (fun _ _ => OpR.pure rfl) (fun _ _ _ _ _ _ _ => rfl) ?_
   refine oS (d := .val (.pointer (some ⟨(blk (vn w3 0)), 0, none⟩))) (fun _ => Want.bool rfl rfl rfl rfl (by rw [(c96)]; rfl)) (fun _ => rfl) (fun _ _ _ => rfl) (fun _ _ => OpR.pure rfl) (fun _ _ _ _ _ _ _ => rfl) ?_
   refine oS (d := .agg [.val (.int .i64 a2.fAt), .val (.int .i64 a2.fN)]) (fun _ => Want.bool rfl rfl rfl rfl (by rw [(c96)]; rfl)) (fun _ => rfl) (fun _ _ _ => rfl) (fun _ _ => OpR.pure rfl) (fun _ _ _ _ _ _ _ => rfl) ?_
   refine OpsS.cons' true ?_ (fun D hA env92 x j hj hD => match j, hj, hD with | 0, _, _ => rfl | 1, _, _ => rfl | 2, _, _ => rfl | 3, _, _ => rfl | 4, _, _ => rfl | 5, _, _ => rfl | 6, _, _ => rfl | 7, _, _ => rfl | 8, _, _ => rfl | 9, _, _ => rfl | 10, _, _ => rfl | 11, hj, _ => absurd rfl hj | 12, _, _ => rfl | 13, _, _ => rfl | 14, _, _ => rfl | 15, _, _ => rfl | 16, _, _ => rfl | 17, _, _ => rfl | 18, _, _ => rfl | 19, _, _ => rfl | 20, _, _ => rfl | 21, _, _ => rfl | 22, _, _ => rfl | 23, _, _ => rfl | 24, _, _ => rfl | 25, _, _ => rfl | 26, _, _ => rfl | 27, _, _ => rfl | 28, _, _ => rfl | 29, _, _ => rfl | 30, _, _ => rfl | 31, _, _ => rfl | 32, _, _ => rfl | 33, _, _ => rfl | 34, _, _ => rfl | 35, _, _ => rfl | 36, _, _ => rfl | 37, _, _ => rfl | 38, _, _ => rfl | 39, _, _ => rfl | 40, _, _ => rfl | 41, _, _ => rfl | 42, _, _ => rfl | 43, _, _ => rfl | 44, _, _ => rfl | 45, _, _ => rfl | 46, _, _ => rfl | 47, _, _ => rfl | _ + 48, _, _ => rfl) ?_
   · intro D env92 hA
     exact OpS.yes (o0 := [.var (blk (vn w3 0)) [.val y65] 85, .var (blk (vn w55 0)) [.val (.string (bs u64.1))] 58, .row y65 (List.map byteD u64.2) 1 5]) (o1 := fun x => [.var (blk (vn w3 0)) [.val y65] 85, .var (blk (vn w55 0)) [.val (.string (bs u64.1))] 58, .row y65 (List.map byteD u64.2) 1 5, .row (vn x 0) (List.map byteD x97) 1 5]) (d := fun x => .val (vn x 0)) (Want.bool rfl rfl rfl rfl (by rw [(c96)]; rfl)) (by first | rfl | simp only [hA.me, cond_true, cond_false, List.cons_append, List.nil_append, List.append_nil]) (fun x => by first | rfl | simp only [ins_self, upd_self, hA.me, cond_true, cond_false, List.cons_append, List.nil_append, List.append_nil]) (fun x => rfl) (OpR.call [0, 2] fn18 (arena_Arena_Bytes_c hx97) rfl rfl rfl (fun _ => rfl))
   refine OpsS.cons' true ?_ (fun _ _ _ _ _ _ _ => rfl) ?_
   · intro D env92 hA
     have e11 : D 11 = true := hA.yes 11 _ rfl rfl
     exact OpS.yes (o0 := [.var (blk (vn w3 0)) [.val y65] 85, .var (blk (vn w55 0)) [.val (.string (bs u64.1))] 58, .row y65 (List.map byteD u64.2) 1 5, .row (vn (env92 11) 0) (List.map byteD x97) 1 5]) (o1 := fun x => [.var (blk (vn w3 0)) [.val y65] 85, .var (blk (vn w55 0)) [.val (.string (bs u64.1))] 58, .row y65 (List.map byteD u64.2) 1 5, .row (vn (env92 11) 0) (List.map byteD x97) 1 5]) (d := fun x => .val (.string (bs x97))) (Want.bool rfl rfl rfl rfl (by rw [(c96)]; rfl)) (by first | rfl | simp only [e11, cond_true, cond_false, List.cons_append, List.nil_append, List.append_nil]) (fun x => by first | rfl | simp only [ins_self, ins_ne D (show 12 ≠ 11 by decide), upd_self, upd_ne env92 x (show 12 ≠ 11 by decide), e11, cond_true, cond_false, List.cons_append, List.nil_append, List.append_nil]) (fun x => rfl) (OpR.toStrF (l := x97) (Src.row 3 rfl rfl) rfl rfl rfl rfl rfl rfl)
   refine oS (d := .val (.pointer (some ⟨(blk (vn w55 0)), 0, none⟩))) (fun _ => Want.bool rfl rfl rfl rfl (by rw [(c96)]; rfl)) (fun _ => rfl) (fun _ _ _ => rfl) (fun _ _ => OpR.pure rfl) (fun _ _ _ _ _ _ _ => rfl) ?_
   refine oS (d := .agg [.val (.int .i64 a2.fAt), .val (.int .i64 a2.fN)]) (fun _ => Want.bool rfl rfl rfl rfl (by rw [(c96)]; rfl)) (fun _ => rfl) (fun _ _ _ => rfl) (fun _ _ => OpR.pure rfl) (fun _ _ _ _ _ _ _ => rfl) ?_
   refine oS (d := .agg [.val (.int .i64 x98.fAt), .val (.int .i64 x98.fN)]) (fun _ => Want.bool rfl rfl rfl rfl (by rw [(c96)]; rfl)) (fun _ => rfl) (fun _ _ _ => rfl) (fun _ _ => OpR.call0 fn28 (law03_ours_c hx98) rfl) (fun _ _ _ _ _ _ _ => rfl) ?_
   refine OpsS.cons' true ?_ (fun _ _ _ _ _ _ _ => rfl) ?_
   · intro D env92 hA
     have e11 : D 11 = true := hA.yes 11 _ rfl rfl
     exact OpS.yes (o0 := [.var (blk (vn w3 0)) [.val y65] 85, .var (blk (vn w55 0)) [.val (.string (bs u64.1))] 58, .row y65 (List.map byteD u64.2) 1 5, .row (vn (env92 11) 0) (List.map byteD x97) 1 5]) (o1 := fun x => [.var (blk (vn w3 0)) [.val y65] 85, .var (blk (vn w55 0)) [.val (.string (bs u64.1))] 58, .row y65 (List.map byteD u64.2) 1 5, .row (vn (env92 11) 0) (List.map byteD x97) 1 5]) (d := fun x => .val (.string (bs x99))) (Want.bool rfl rfl rfl rfl (by rw [(c96)]; rfl)) (by first | rfl | simp only [e11, cond_true, cond_false, List.cons_append, List.nil_append, List.append_nil]) (fun x => by first | rfl | simp only [ins_self, ins_ne D (show 16 ≠ 11 by decide), upd_self, upd_ne env92 x (show 16 ≠ 11 by decide), e11, cond_true, cond_false, List.cons_append, List.nil_append, List.append_nil]) (fun x => rfl) (OpR.call [1] fn25 (ref03_Arena_Bytes_c hx99) rfl rfl rfl (fun _ => rfl))
   refine oS (d := .val (.bool (x97 == x99))) (fun _ => Want.bool rfl rfl rfl rfl (by rw [(c96)]; rfl)) (fun _ => rfl) (fun _ _ _ => rfl) (fun _ _ => OpR.cast (OpR.pure rfl) (boolE (strEq _ _))) (fun _ _ _ _ _ _ _ => rfl) ?_
   refine oS (d := .val (.bool (x97 == x99))) (fun _ => Want.plain rfl) (fun _ => rfl) (fun _ _ _ => rfl) (fun _ _ => OpR.pickT rfl (c96) rfl) (fun _ _ _ _ _ _ _ => rfl) ?_
   refine oS (d := .val (.bool (x97 == x99))) (fun _ => Want.plain rfl) (fun _ => rfl) (fun _ _ _ => rfl) (fun _ _ => OpR.pure rfl) (fun _ _ _ _ _ _ _ => rfl) ?_
   refine oS (d := .val (.bool x89.2)) (fun _ => Want.bool rfl rfl rfl rfl (by rw [(beq_iff_eq.2 c100)]; rfl)) (fun _ => rfl) (fun _ _ _ => rfl) (fun _ _ => OpR.pure rfl) (fun _ _ _ _ _ _ _ => rfl) ?_
   refine oS (d := .val (.string (bs x90))) (fun _ => Want.bool rfl rfl rfl rfl (by rw [(beq_iff_eq.2 c100)]; rfl)) (fun _ => rfl) (fun _ _ _ => rfl) (fun _ _ => OpR.pure rfl) (fun _ _ _ _ _ _ _ => rfl) ?_
   refine oS (d := .val (.int .i64 (x90.length : Int))) (fun _ => Want.bool rfl rfl rfl rfl (by rw [(beq_iff_eq.2 c100)]; rfl)) (fun _ => rfl) (fun _ _ _ => rfl) (fun _ _ => OpR.cast (OpR.pure rfl) (intE (lenS _))) (fun _ _ _ _ _ _ _ => rfl) ?_
   refine oS (d := .val (.bool ((x90.length : Int) == 1))) (fun _ => Want.bool rfl rfl rfl rfl (by rw [(beq_iff_eq.2 c100)]; rfl)) (fun _ => rfl) (fun _ _ _ => rfl) (fun _ _ => OpR.pure rfl) (fun _ _ _ _ _ _ _ => rfl) ?_
   refine oS (d := .val (.bool (x89.2 == ((x90.length : Int) == 1)))) (fun _ => Want.bool rfl rfl rfl rfl (by rw [(beq_iff_eq.2 c100)]; rfl)) (fun _ => rfl) (fun _ _ _ => rfl) (fun _ _ => OpR.eqBool rfl rfl rfl rfl) (fun _ _ _ _ _ _ _ => rfl) ?_
   refine oS (d := .val (.bool (x89.2 == ((x90.length : Int) == 1)))) (fun _ => Want.plain rfl) (fun _ => rfl) (fun _ _ _ => rfl) (fun _ _ => OpR.pickT rfl (beq_iff_eq.2 c100) rfl) (fun _ _ _ _ _ _ _ => rfl) ?_
   refine oS (d := .val (.bool (x89.2 == ((x90.length : Int) == 1)))) (fun _ => Want.plain rfl) (fun _ => rfl) (fun _ _ _ => rfl) (fun _ _ => OpR.pure rfl) (fun _ _ _ _ _ _ _ => rfl) ?_
   refine OpsS.cons' false (fun D env92 hA => OpS.no (Want.bool rfl rfl rfl rfl (by rw [(eq_false_of_ne_true c101)]; rfl)) rfl rfl) (fun _ _ _ _ _ _ _ => rfl) ?_
   refine OpsS.cons' false (fun D env92 hA => OpS.no (Want.bool rfl rfl rfl rfl (by rw [(eq_false_of_ne_true c101)]; rfl)) rfl rfl) (fun _ _ _ _ _ _ _ => rfl) ?_
   refine OpsS.cons' false (fun D env92 hA => OpS.no (Want.bool rfl rfl rfl rfl (by rw [(eq_false_of_ne_true c101)]; rfl)) rfl rfl) (fun _ _ _ _ _ _ _ => rfl) ?_
   refine OpsS.cons' false (fun D env92 hA => OpS.no (Want.unit rfl rfl rfl rfl) rfl rfl) (fun _ _ _ _ _ _ _ => rfl) ?_
   refine OpsS.cons' false (fun D env92 hA => OpS.no (Want.unit rfl rfl rfl rfl) rfl rfl) (fun _ _ _ _ _ _ _ => rfl) ?_
   refine OpsS.cons' false (fun D env92 hA => OpS.no (Want.bool rfl rfl rfl rfl (by rw [(eq_false_of_ne_true c101)]; rfl)) rfl rfl) (fun _ _ _ _ _ _ _ => rfl) ?_
   refine OpsS.cons' false (fun D env92 hA => OpS.no (Want.bool rfl rfl rfl rfl (by rw [(eq_false_of_ne_true c101)]; rfl)) rfl rfl) (fun _ _ _ _ _ _ _ => rfl) ?_
   refine OpsS.cons' false (fun D env92 hA => OpS.no (Want.unit rfl rfl rfl rfl) rfl rfl) (fun _ _ _ _ _ _ _ => rfl) ?_
   refine OpsS.cons' false (fun D env92 hA => OpS.no (Want.unit rfl rfl rfl rfl) rfl rfl) (fun _ _ _ _ _ _ _ => rfl) ?_
   refine OpsS.cons' false (fun D env92 hA => OpS.no (Want.unit rfl rfl rfl rfl) rfl rfl) (fun _ _ _ _ _ _ _ => rfl) ?_
   refine OpsS.cons' false (fun D env92 hA => OpS.no (Want.unit rfl rfl rfl rfl) rfl rfl) (fun _ _ _ _ _ _ _ => rfl) ?_
   refine OpsS.cons' false (fun D env92 hA => OpS.no (Want.unit rfl rfl rfl rfl) rfl rfl) (fun _ _ _ _ _ _ _ => rfl) ?_
   refine OpsS.cons' false (fun D env92 hA => OpS.no (Want.unit rfl rfl rfl rfl) rfl rfl) (fun _ _ _ _ _ _ _ => rfl) ?_
   refine OpsS.cons' false (fun D env92 hA => OpS.no (Want.unit rfl rfl rfl rfl) rfl rfl) (fun _ _ _ _ _ _ _ => rfl) ?_
   refine OpsS.cons' false (fun D env92 hA => OpS.no (Want.unit rfl rfl rfl rfl) rfl rfl) (fun _ _ _ _ _ _ _ => rfl) ?_
   refine OpsS.cons' false (fun D env92 hA => OpS.no (Want.bool rfl rfl rfl rfl (by rw [(eq_false_of_ne_true c101)]; rfl)) rfl rfl) (fun _ _ _ _ _ _ _ => rfl) ?_
   refine oS (d := .val (.bool false)) (fun _ => Want.plain rfl) (fun _ => rfl) (fun _ _ _ => rfl) (fun _ _ => OpR.pickF rfl (eq_false_of_ne_true c101) rfl) (fun _ _ _ _ _ _ _ => rfl) ?_
   refine oS (d := .val (.bool false)) (fun _ => Want.plain rfl) (fun _ => rfl) (fun _ _ _ => rfl) (fun _ _ => OpR.pure rfl) (fun _ _ _ _ _ _ _ => rfl) ?_
   refine OpsS.cons' false (fun D env92 hA => OpS.no (Want.bool rfl rfl rfl rfl rfl) rfl rfl) (fun _ _ _ _ _ _ _ => rfl) ?_
   refine oS (d := .val (.bool false)) (fun _ => Want.plain rfl) (fun _ => rfl) (fun _ _ _ => rfl) (fun _ _ => OpR.pickF rfl rfl rfl) (fun _ _ _ _ _ _ _ => rfl) ?_
   refine oS (d := .val (.bool false)) (fun _ => Want.plain rfl) (fun _ => rfl) (fun _ _ _ => rfl) (fun _ _ => OpR.pure rfl) (fun _ _ _ _ _ _ _ => rfl) ?_
   exact trivial
 rcases ite_some ht91 with ⟨c102, ht91⟩ | ⟨c102, ht91⟩
 rotate_left
 · rcases ite_some ht91 with ⟨c105, ht91⟩ | ⟨c105, ht91⟩
   · obtain ⟨x106, hx106, ht91⟩ := bnd_some ht91
     refine T.drawS drawsX (fun env92 => [.val (.pointer (some ⟨(blk (vn w3 0)), 0, none⟩)), .agg [.val (.int .i64 a2.fAt), .val (.int .i64 a2.fN)], .val (.bool x93), .val (.pointer (some ⟨(blk (vn w55 0)), 0, none⟩)), .agg [.val (.int .i64 a2.fAt), .val (.int .i64 a2.fN)], .agg [.val (.int .i64 x94.fAt), .val (.int .i64 x94.fN)], .val (.bool x95), .val (.bool (x93 == x95)), .val (.bool (x93 == x95)), .val (.pointer (some ⟨(blk (vn w3 0)), 0, none⟩)), .agg [.val (.int .i64 a2.fAt), .val (.int .i64 a2.fN)], .val (vn (env92 11) 0), .val (.string (bs x97)), .val (.pointer (some ⟨(blk (vn w55 0)), 0, none⟩)), .agg [.val (.int .i64 a2.fAt), .val (.int .i64 a2.fN)], .agg [.val (.int .i64 x98.fAt), .val (.int .i64 x98.fN)], .val (.string (bs x99)), .val (.bool (x97 == x99)), .val (.bool (x97 == x99)), .val (.bool (x97 == x99)), .val (.bool x89.2), .val (.string (bs x90)), .val (.int .i64 (x90.length : Int)), .val (.bool ((x90.length : Int) == 1)), .val (.bool (x89.2 == ((x90.length : Int) == 1))), .val (.bool (x89.2 == ((x90.length : Int) == 1))), .val (.bool (x89.2 == ((x90.length : Int) == 1))), .val (.bool x89.2), .val (.bool (!x89.2)), .val (.bool (!x89.2)), .val (.int .u8 (x89.1.toNat : Int)), .val (.bool ((x89.1.toNat : Int) == 0)), .val (.bool ((x89.1.toNat : Int) == 0)), .val (.bool ((x89.1.toNat : Int) == 0)), .tup [], .tup [], .tup [], .tup [], .tup [], .tup [], .tup [], .tup [], .val (.bool true), .val (.bool true), .val (.bool true), .val (.bool x106), .val (.bool x106), .val (.bool x106)]) (fun D env92 => [.var (blk (vn w3 0)) [.val y65] 85, .var (blk (vn w55 0)) [.val (.string (bs u64.1))] 58, .row y65 (List.map byteD u64.2) 1 5] ++ bif D 11 then [.row (vn (env92 11) 0) (List.map byteD x97) 1 5] else []) [0, 0, 3, 0, 0, 23, 63, 127, 255, 511, 511, 2047, 4095, 511, 511, 20479, 61439, 131071, 262143, 524287, 1048575, 1048575, 3145727, 7340031, 16777215, 33554431, 67108863, 134217727, 268435455, 536870911, 1073741823, 2147483647, 4294967295, 8589934591, 17179869183, 34359738367, 68719476735, 137438953471, 274877906943, 68719476735, 1099511627775, 2199023255551, 4398046511103, 8796093022207, 17592186044415, 35184372088831, 70368744177663, 140737488355327] [5, 6, 7, 9, 13, 14, 15, 82, 83, 84, 85, 86, 87, 88, 89, 90, 91, 92, 93, 94, 95, 96, 97, 98, 99, 100, 101, 102, 103, 104, 105, 106, 107, 108, 109, 110, 111, 112, 113, 114, 115, 116, 117, 118, 119, 120, 121, 122, 123, 124, 125, 126, 127, 128, 129, 130, 131, 132, 133, 134, 135, 136, 137, 138, 139, 140] (fun env92 => [.var (blk (vn w3 0)) [.val y65] 85, .var (blk (vn w55 0)) [.val (.string (bs u64.1))] 58, .row y65 (List.map byteD u64.2) 1 5, .row (vn (env92 11) 0) (List.map byteD x97) 1 5]) (by decide +kernel) (by decide +kernel) (fun _ => rfl) (fun _ => rfl) ?_ (fun _ => rfl) (fun _ => rfl) ?_
     rotate_left
     · intro env92
       obtain rfl := Option.some.inj ht91
       exact ⟨_, Gst.trans (Gst.only [6] rfl) (Gst.pick [] rfl rfl), rfl⟩
     refine oS (d := .val (.pointer (some ⟨(blk (vn w3 0)), 0, none⟩))) (fun _ => Want.plain rfl) (fun _ => rfl) (fun _ _ _ => rfl) (fun _ _ => OpR.pure rfl) (fun _ _ _ _ _ _ _ => rfl) ?_
     refine oS (d := .agg [.val (.int .i64 a2.fAt), .val (.int .i64 a2.fN)]) (fun _ => Want.plain rfl) (fun _ => rfl) (fun _ _ _ => rfl) (fun _ _ => OpR.pure rfl) (fun _ _ _ _ _ _ _ => rfl) ?_
     refine OpsS.cons' true ?_ (fun _ _ _ _ _ _ _ => rfl) ?_
     · intro D env92 hA
       have e11 : D 11 = false := hA.no 11 _ rfl rfl
       exact OpS.yes (o0 := [.var (blk (vn w3 0)) [.val y65] 85, .var (blk (vn w55 0)) [.val (.string (bs u64.1))] 58, .row y65 (List.map byteD u64.2) 1 5]) (o1 := fun x => [.var (blk (vn w3 0)) [.val y65] 85, .var (blk (vn w55 0)) [.val (.string (bs u64.1))] 58, .row y65 (List.map byteD u64.2) 1 5]) (d := fun x => .val (.bool x93)) (Want.plain rfl) (by first | rfl | simp only [e11, cond_true, cond_false, List.cons_append, List.nil_append, List.append_nil]) (fun x => by first | rfl | simp only [ins_self, ins_ne D (show 2 ≠ 11 by decide), upd_self, upd_ne env92 x (show 2 ≠ 11 by decide), e11, cond_true, cond_false, List.cons_append, List.nil_append, List.append_nil]) (fun x => rfl) (OpR.call [0, 2] fn26 (arena_Arena_Right_c hx93) rfl rfl rfl (fun _ => rfl))
     refine oS (d := .val (.pointer (some ⟨(blk (vn w55 0)), 0, none⟩))) (fun _ => Want.plain rfl) (fun _ => rfl) (fun _ _ _ => rfl) (fun _ _ => OpR.pure rfl) (fun _ _ _ _ _ _ _ => rfl) ?_
     refine oS (d := .agg [.val (.int .i64 a2.fAt), .val (.int .i64 a2.fN)]) (fun _ => Want.plain rfl) (fun _ => rfl) (fun _ _ _ => rfl) (fun _ _ => OpR.pure rfl) (fun _ _ _ _ _ _ _ => rfl) ?_
     refine oS (d := .agg [.val (.int .i64 x94.fAt), .val (.int .i64 x94.fN)]) (fun _ => Want.plain rfl) (fun _ => rfl) (fun _ _ _ => rfl) (fun _ _ => OpR.call0 fn28 (law03_ours_c hx94) rfl) (fun _ _ _ _ _ _ _ => rfl) ?_
     refine OpsS.cons' true ?_ (fun _ _ _ _ _ _ _ => rfl) ?_
     · intro D env92 hA
       have e11 : D 11 = false := hA.no 11 _ rfl rfl
       exact OpS.yes (o0 := [.var (blk (vn w3 0)) [.val y65] 85, .var (blk (vn w55 0)) [.val (.string (bs u64.1))] 58, .row y65 (List.map byteD u64.2) 1 5]) (o1 := fun x => [.var (blk (vn w3 0)) [.val y65] 85, .var (blk (vn w55 0)) [.val (.string (bs u64.1))] 58, .row y65 (List.map byteD u64.2) 1 5]) (d := fun x => .val (.bool x95)) (Want.plain rfl) (by first | rfl | simp only [e11, cond_true, cond_false, List.cons_append, List.nil_append, List.append_nil]) (fun x => by first | rfl | simp only [ins_self, ins_ne D (show 6 ≠ 11 by decide), upd_self, upd_ne env92 x (show 6 ≠ 11 by decide), e11, cond_true, cond_false, List.cons_append, List.nil_append, List.append_nil]) (fun x => rfl) (OpR.call [1] fn27 (ref03_Arena_Right_c hx95) rfl rfl rfl (fun _ => rfl))
     refine oS (d := .val (.bool (x93 == x95))) (fun _ => Want.plain rfl) (fun _ => rfl) (fun _ _ _ => rfl) (fun _ _ => OpR.eqBool rfl rfl rfl rfl) (fun _ _ _ _ _ _ _ => rfl) ?_
     refine oS (d := .val (.bool (x93 == x95))) (fun _ => Want.plain rfl) (fun _ => rfl) (fun _ _ _ => rfl) (fun _ _ => OpR.pure rfl) (fun _ _ _ _ _ _ _ => rfl) ?_
     refine oS (d := .val (.pointer (some ⟨(blk (vn w3 0)), 0, none⟩))) (fun _ => Want.bool rfl rfl rfl rfl (by rw [(c96)]; rfl)) (fun _ => rfl) (fun _ _ _ => rfl) (fun _ _ => OpR.pure rfl) (fun _ _ _ _ _ _ _ => rfl) ?_
     refine oS (d := .agg [.val (.int .i64 a2.fAt), .val (.int .i64 a2.fN)]) (fun _ => Want.bool rfl rfl rfl rfl (by rw [(c96)]; rfl)) (fun _ => rfl) (fun _ _ _ => rfl) (fun _ _ => OpR.pure rfl) (fun _ _ _ _ _ _ _ => rfl) ?_
     refine OpsS.cons' true ?_ (fun D hA env92 x j hj hD => match j, hj, hD with | 0, _, _ => rfl | 1, _, _ => rfl | 2, _, _ => rfl | 3, _, _ => rfl | 4, _, _ => rfl | 5, _, _ => rfl | 6, _, _ => rfl | 7, _, _ => rfl | 8, _, _ => rfl | 9, _, _ => rfl | 10, _, _ => rfl | 11, hj, _ => absurd rfl hj | 12, _, _ => rfl | 13, _, _ => rfl | 14, _, _ => rfl | 15, _, _ => rfl | 16, _, _ => rfl | 17, _, _ => rfl | 18, _, _ => rfl | 19, _, _ => rfl | 20, _, _ => rfl | 21, _, _ => rfl | 22, _, _ => rfl | 23, _, _ => rfl | 24, _, _ => rfl | 25, _, _ => rfl | 26, _, _ => rfl | 27, _, _ => rfl | 28, _, _ => rfl | 29, _, _ => rfl | 30, _, _ => rfl | 31, _, _ => rfl | 32, _, _ => rfl | 33, _, _ => rfl | 34, _, _ => rfl | 35, _, _ => rfl | 36, _, _ => rfl | 37, _, _ => rfl | 38, _, _ => rfl | 39, _, _ => rfl | 40, _, _ => rfl | 41, _, _ => rfl | 42, _, _ => rfl | 43, _, _ => rfl | 44, _, _ => rfl | 45, _, _ => rfl | 46, _, _ => rfl | 47, _, _ => rfl | _ + 48, _, _ => rfl) ?_
     · intro D env92 hA
       exact OpS.yes (o0 := [.var (blk (vn w3 0)) [.val y65] 85, .var (blk (vn w55 0)) [.val (.string (bs u64.1))] 58, .row y65 (List.map byteD u64.2) 1 5]) (o1 := fun x => [.var (blk (vn w3 0)) [.val y65] 85, .var (blk (vn w55 0)) [.val (.string (bs u64.1))] 58, .row y65 (List.map byteD u64.2) 1 5, .row (vn x 0) (List.map byteD x97) 1 5]) (d := fun x => .val (vn x 0)) (Want.bool rfl rfl rfl rfl (by rw [(c96)]; rfl)) (by first | rfl | simp only [hA.me, cond_true, cond_false, List.cons_append, List.nil_append, List.append_nil]) (fun x => by first | rfl | simp only [ins_self, upd_self, hA.me, cond_true, cond_false, List.cons_append, List.nil_append, List.append_nil]) (fun x => rfl) (OpR.call [0, 2] fn18 (arena_Arena_Bytes_c hx97) rfl rfl rfl (fun _ => rfl))
     refine OpsS.cons' true ?_ (fun _ _ _ _ _ _ _ => rfl) ?_
     · intro D env92 hA
       have e11 : D 11 = true := hA.yes 11 _ rfl rfl
       exact OpS.yes (o0 := [.var (blk (vn w3 0)) [.val y65] 85, .var (blk (vn w55 0)) [.val (.string (bs u64.1))] 58, .row y65 (List.map byteD u64.2) 1 5, .row (vn (env92 11) 0) (List.map byteD x97) 1 5]) (o1 := fun x => [.var (blk (vn w3 0)) [.val y65] 85, .var (blk (vn w55 0)) [.val (.string (bs u64.1))] 58, .row y65 (List.map byteD u64.2) 1 5, .row (vn (env92 11) 0) (List.map byteD x97) 1 5]) (d := fun x => .val (.string (bs x97))) (Want.bool rfl rfl rfl rfl (by rw [(c96)]; rfl)) (by first | rfl | simp only [e11, cond_true, cond_false, List.cons_append, List.nil_append, List.append_nil]) (fun x => by first | rfl | simp only [ins_self, ins_ne D (show 12 ≠ 11 by decide), upd_self, upd_ne env92 x (show 12 ≠ 11 by decide), e11, cond_true, cond_false, List.cons_append, List.nil_append, List.append_nil]) (fun x => rfl) (OpR.toStrF (l := x97) (Src.row 3 rfl rfl) rfl rfl rfl rfl rfl rfl)
     refine oS (d := .val (.pointer (some ⟨(blk (vn w55 0)), 0, none⟩))) (fun _ => Want.bool rfl rfl rfl rfl (by rw [(c96)]; rfl)) (fun _ => rfl) (fun _ _ _ => rfl) (fun _ _ => OpR.pure rfl) (fun _ _ _ _ _ _ _ => rfl) ?_
     refine oS (d := .agg [.val (.int .i64 a2.fAt), .val (.int .i64 a2.fN)]) (fun _ => Want.bool rfl rfl rfl rfl (by rw [(c96)]; rfl)) (fun _ => rfl) (fun _ _ _ => rfl) (fun _ _ => OpR.pure rfl) (fun _ _ _ _ _ _ _ => rfl) ?_
     refine oS (d := .agg [.val (.int .i64 x98.fAt), .val (.int .i64 x98.fN)]) (fun _ => Want.bool rfl rfl rfl rfl (by rw [(c96)]; rfl)) (fun _ => rfl) (fun _ _ _ => rfl) (fun _ _ => OpR.call0 fn28 (law03_ours_c hx98) rfl) (fun _ _ _ _ _ _ _ => rfl) ?_
     refine OpsS.cons' true ?_ (fun _ _ _ _ _ _ _ => rfl) ?_
     · intro D env92 hA
       have e11 : D 11 = true := hA.yes 11 _ rfl rfl
       exact OpS.yes (o0 := [.var (blk (vn w3 0)) [.val y65] 85, .var (blk (vn w55 0)) [.val (.string (bs u64.1))] 58, .row y65 (List.map byteD u64.2) 1 5, .row (vn (env92 11) 0) (List.map byteD x97) 1 5]) (o1 := fun x => [.var (blk (vn w3 0)) [.val y65] 85, .var (blk (vn w55 0)) [.val (.string (bs u64.1))] 58, .row y65 (List.map byteD u64.2) 1 5, .row (vn (env92 11) 0) (List.map byteD x97) 1 5]) (d := fun x => .val (.string (bs x99))) (Want.bool rfl rfl rfl rfl (by rw [(c96)]; rfl)) (by first | rfl | simp only [e11, cond_true, cond_false, List.cons_append, List.nil_append, List.append_nil]) (fun x => by first | rfl | simp only [ins_self, ins_ne D (show 16 ≠ 11 by decide), upd_self, upd_ne env92 x (show 16 ≠ 11 by decide), e11, cond_true, cond_false, List.cons_append, List.nil_append, List.append_nil]) (fun x => rfl) (OpR.call [1] fn25 (ref03_Arena_Bytes_c hx99) rfl rfl rfl (fun _ => rfl))
     refine oS (d := .val (.bool (x97 == x99))) (fun _ => Want.bool rfl rfl rfl rfl (by rw [(c96)]; rfl)) (fun _ => rfl) (fun _ _ _ => rfl) (fun _ _ => OpR.cast (OpR.pure rfl) (boolE (strEq _ _))) (fun _ _ _ _ _ _ _ => rfl) ?_
     refine oS (d := .val (.bool (x97 == x99))) (fun _ => Want.plain rfl) (fun _ => rfl) (fun _ _ _ => rfl) (fun _ _ => OpR.pickT rfl (c96) rfl) (fun _ _ _ _ _ _ _ => rfl) ?_
     refine oS (d := .val (.bool (x97 == x99))) (fun _ => Want.plain rfl) (fun _ => rfl) (fun _ _ _ => rfl) (fun _ _ => OpR.pure rfl) (fun _ _ _ _ _ _ _ => rfl) ?_
     refine oS (d := .val (.bool x89.2)) (fun _ => Want.bool rfl rfl rfl rfl (by rw [(beq_iff_eq.2 c100)]; rfl)) (fun _ => rfl) (fun _ _ _ => rfl) (fun _ _ => OpR.pure rfl) (fun _ _ _ _ _ _ _ => rfl) ?_
     refine oS (d := .val (.string (bs x90))) (fun _ => Want.bool rfl rfl rfl rfl (by rw [(beq_iff_eq.2 c100)]; rfl)) (fun _ => rfl) (fun _ _ _ => rfl) (fun _ _ => OpR.pure rfl) (fun _ _ _ _ _ _ _ => rfl) ?_
     refine oS (d := .val (.int .i64 (x90.length : Int))) (fun _ => Want.bool rfl rfl rfl rfl (by rw [(beq_iff_eq.2 c100)]; rfl)) (fun _ => rfl) (fun _ _ _ => rfl) (fun _ _ => OpR.cast (OpR.pure rfl) (intE (lenS _))) (fun _ _ _ _ _ _ _ => rfl) ?_
     refine oS (d := .val (.bool ((x90.length : Int) == 1))) (fun _ => Want.bool rfl rfl rfl rfl (by rw [(beq_iff_eq.2 c100)]; rfl)) (fun _ => rfl) (fun _ _ _ => rfl) (fun _ _ => OpR.pure rfl) (fun _ _ _ _ _ _ _ => rfl) ?_
     refine oS (d := .val (.bool (x89.2 == ((x90.length : Int) == 1)))) (fun _ => Want.bool rfl rfl rfl rfl (by rw [(beq_iff_eq.2 c100)]; rfl)) (fun _ => rfl) (fun _ _ _ => rfl) (fun _ _ => OpR.eqBool rfl rfl rfl rfl) (fun _ _ _ _ _ _ _ => rfl) ?_
     refine oS (d := .val (.bool (x89.2 == ((x90.length : Int) == 1)))) (fun _ => Want.plain rfl) (fun _ => rfl) (fun _ _ _ => rfl) (fun _ _ => OpR.pickT rfl (beq_iff_eq.2 c100) rfl) (fun _ _ _ _ _ _ _ => rfl) ?_
     refine oS (d := .val (.bool (x89.2 == ((x90.length : Int) == 1)))) (fun _ => Want.plain rfl) (fun _ => rfl) (fun _ _ _ => rfl) (fun _ _ => OpR.pure rfl) (fun _ _ _ _ _ _ _ => rfl) ?_
     refine oS (d := .val (.bool x89.2)) (fun _ => Want.bool rfl rfl rfl rfl (by rw [(c101)]; rfl)) (fun _ => rfl) (fun _ _ _ => rfl) (fun _ _ => OpR.pure rfl) (fun _ _ _ _ _ _ _ => rfl) ?_
     refine oS (d := .val (.bool (!x89.2))) (fun _ => Want.bool rfl rfl rfl rfl (by rw [(c101)]; rfl)) (fun _ => rfl) (fun _ _ _ => rfl) (fun _ _ => OpR.pure rfl) (fun _ _ _ _ _ _ _ => rfl) ?_
     refine oS (d := .val (.bool (!x89.2))) (fun _ => Want.bool rfl rfl rfl rfl (by rw [(c101)]; rfl)) (fun _ => rfl) (fun _ _ _ => rfl) (fun _ _ => OpR.pure rfl) (fun _ _ _ _ _ _ _ => rfl) ?_
     refine oS (d := .val (.int .u8 (x89.1.toNat : Int))) (fun _ => Want.bool rfl rfl rfl rfl (by rw [(not_f (eq_false_of_ne_true c102))]; rfl)) (fun _ => rfl) (fun _ _ _ => rfl) (fun _ _ => OpR.pure rfl) (fun _ _ _ _ _ _ _ => rfl) ?_
     refine oS (d := .val (.bool ((x89.1.toNat : Int) == 0))) (fun _ => Want.bool rfl rfl rfl rfl (by rw [(not_f (eq_false_of_ne_true c102))]; rfl)) (fun _ => rfl) (fun _ _ _ => rfl) (fun _ _ => OpR.pure rfl) (fun _ _ _ _ _ _ _ => rfl) ?_
     refine oS (d := .val (.bool ((x89.1.toNat : Int) == 0))) (fun _ => Want.bool rfl rfl rfl rfl (by rw [(c101)]; rfl)) (fun _ => rfl) (fun _ _ _ => rfl) (fun _ _ => OpR.pickT rfl (not_f (eq_false_of_ne_true c102)) rfl) (fun _ _ _ _ _ _ _ => rfl) ?_
     refine oS (d := .val (.bool ((x89.1.toNat : Int) == 0))) (fun _ => Want.bool rfl rfl rfl rfl (by rw [(c101)]; rfl)) (fun _ => rfl) (fun _ _ _ => rfl) (fun _ _ => OpR.pure rfl) (fun _ _ _ _ _ _ _ => rfl) ?_
     refine OpsS.cons' false (fun D env92 hA => OpS.no (Want.bool rfl rfl rfl rfl (by rw [(beq_iff_eq.2 c105)]; rfl)) rfl rfl) (fun _ _ _ _ _ _ _ => rfl) ?_
     refine OpsS.cons' false (fun D env92 hA => OpS.no (Want.bool rfl rfl rfl rfl (by rw [(beq_iff_eq.2 c105)]; rfl)) rfl rfl) (fun _ _ _ _ _ _ _ => rfl) ?_
     refine OpsS.cons' false (fun D env92 hA => OpS.no (Want.unit rfl rfl rfl rfl) rfl rfl) (fun _ _ _ _ _ _ _ => rfl) ?_
     refine OpsS.cons' false (fun D env92 hA => OpS.no (Want.unit rfl rfl rfl rfl) rfl rfl) (fun _ _ _ _ _ _ _ => rfl) ?_
     refine OpsS.cons' false (fun D env92 hA => OpS.no (Want.unit rfl rfl rfl rfl) rfl rfl) (fun _ _ _ _ _ _ _ => rfl) ?_
     refine OpsS.cons' false (fun D env92 hA => OpS.no (Want.unit rfl rfl rfl rfl) rfl rfl) (fun _ _ _ _ _ _ _ => rfl) ?_
     refine OpsS.cons' false (fun D env92 hA => OpS.no (Want.unit rfl rfl rfl rfl) rfl rfl) (fun _ _ _ _ _ _ _ => rfl) ?_
     refine OpsS.cons' false (fun D env92 hA => OpS.no (Want.bool rfl rfl rfl rfl (by rw [(beq_iff_eq.2 c105)]; rfl)) rfl rfl) (fun _ _ _ _ _ _ _ => rfl) ?_
     refine oS (d := .val (.bool true)) (fun _ => Want.bool rfl rfl rfl rfl (by rw [(c101)]; rfl)) (fun _ => rfl) (fun _ _ _ => rfl) (fun _ _ => OpR.pickT rfl (beq_iff_eq.2 c105) rfl) (fun _ _ _ _ _ _ _ => rfl) ?_
     refine oS (d := .val (.bool true)) (fun _ => Want.plain rfl) (fun _ => rfl) (fun _ _ _ => rfl) (fun _ _ => OpR.pickT rfl (c101) rfl) (fun _ _ _ _ _ _ _ => rfl) ?_
     refine oS (d := .val (.bool true)) (fun _ => Want.plain rfl) (fun _ => rfl) (fun _ _ _ => rfl) (fun _ _ => OpR.pure rfl) (fun _ _ _ _ _ _ _ => rfl) ?_
     refine oS (d := .val (.bool x106)) (fun _ => Want.bool rfl rfl rfl rfl rfl) (fun _ => rfl) (fun _ _ _ => rfl) (fun _ _ => OpR.call0 fn20 (law03_awake_c hx106) rfl) (fun _ _ _ _ _ _ _ => rfl) ?_
     refine oS (d := .val (.bool x106)) (fun _ => Want.plain rfl) (fun _ => rfl) (fun _ _ _ => rfl) (fun _ _ => OpR.pickT rfl rfl rfl) (fun _ _ _ _ _ _ _ => rfl) ?_
     refine oS (d := .val (.bool x106)) (fun _ => Want.plain rfl) (fun _ => rfl) (fun _ _ _ => rfl) (fun _ _ => OpR.pure rfl) (fun _ _ _ _ _ _ _ => rfl) ?_
     exact trivial
   refine T.drawS drawsX (fun env92 => [.val (.pointer (some ⟨(blk (vn w3 0)), 0, none⟩)), .agg [.val (.int .i64 a2.fAt), .val (.int .i64 a2.fN)], .val (.bool x93), .val (.pointer (some ⟨(blk (vn w55 0)), 0, none⟩)), .agg [.val (.int .i64 a2.fAt), .val (.int .i64 a2.fN)], .agg [.val (.int .i64 x94.fAt), .val (.int .i64 x94.fN)], .val (.bool x95), .val (.bool (x93 == x95)), .val (.bool (x93 == x95)), .val (.pointer (some ⟨(blk (vn w3 0)), 0, none⟩)), .agg [.val (.int .i64 a2.fAt), .val (.int .i64 a2.fN)], .val (vn (env92 11) 0), .val (.string (bs x97)), .val (.pointer (some ⟨(blk (vn w55 0)), 0, none⟩)), .agg [.val (.int .i64 a2.fAt), .val (.int .i64 a2.fN)], .agg [.val (.int .i64 x98.fAt), .val (.int .i64 x98.fN)], .val (.string (bs x99)), .val (.bool (x97 == x99)), .val (.bool (x97 == x99)), .val (.bool (x97 == x99)), .val (.bool x89.2), .val (.string (bs x90)), .val (.int .i64 (x90.length : Int)), .val (.bool ((x90.length : Int) == 1)), .val (.bool (x89.2 == ((x90.length : Int) == 1))), .val (.bool (x89.2 == ((x90.length : Int) == 1))), .val (.bool (x89.2 == ((x90.length : Int) == 1))), .val (.bool x89.2), .val (.bool (!x89.2)), .val (.bool (!x89.2)), .val (.int .u8 (x89.1.toNat : Int)), .val (.bool ((x89.1.toNat : Int) == 0)), .val (.bool ((x89.1.toNat : Int) == 0)), .val (.bool ((x89.1.toNat : Int) == 0)), .val (.bool x89.2), .val (.bool x89.2), .tup [], .tup [], .tup [], .tup [], .tup [], .val (.bool false), .val (.bool false), .val (.bool false), .val (.bool false), .tup [], .val (.bool false), .val (.bool false)]) (fun D env92 => [.var (blk (vn w3 0)) [.val y65] 85, .var (blk (vn w55 0)) [.val (.string (bs u64.1))] 58, .row y65 (List.map byteD u64.2) 1 5] ++ bif D 11 then [.row (vn (env92 11) 0) (List.map byteD x97) 1 5] else []) [0, 0, 3, 0, 0, 23, 63, 127, 255, 511, 511, 2047, 4095, 511, 511, 20479, 61439, 131071, 262143, 524287, 1048575, 1048575, 3145727, 7340031, 16777215, 33554431, 67108863, 134217727, 268435455, 536870911, 1073741823, 2147483647, 4294967295, 8589934591, 17179869183, 34359738367, 68719476735, 137438953471, 274877906943, 68719476735, 1099511627775, 2199023255551, 4398046511103, 8796093022207, 17592186044415, 35184372088831, 70368744177663, 140737488355327] [5, 6, 7, 9, 13, 14, 15, 82, 83, 84, 85, 86, 87, 88, 89, 90, 91, 92, 93, 94, 95, 96, 97, 98, 99, 100, 101, 102, 103, 104, 105, 106, 107, 108, 109, 110, 111, 112, 113, 114, 115, 116, 117, 118, 119, 120, 121, 122, 123, 124, 125, 126, 127, 128, 129, 130, 131, 132, 133, 134, 135, 136, 137, 138, 139, 140] (fun env92 => [.var (blk (vn w3 0)) [.val y65] 85, .var (blk (vn w55 0)) [.val (.string (bs u64.1))] 58, .row y65 (List.map byteD u64.2) 1 5, .row (vn (env92 11) 0) (List.map byteD x97) 1 5]) (by decide +kernel) (by decide +kernel) (fun _ => rfl) (fun _ => rfl) ?_ (fun _ => rfl) (fun _ => rfl) ?_
   rotate_left
   · intro env92
     obtain rfl := Option.some.inj ht91
     exact ⟨_, Gst.trans (Gst.only [6] rfl) (Gst.pick [] rfl rfl), rfl⟩
   refine oS (d := .val (.pointer (some ⟨(blk (vn w3 0)), 0, none⟩))) (fun _ => Want.plain rfl) (fun _ => rfl) (fun _ _ _ => rfl) (fun _ _ => OpR.pure rfl) (fun _ _ _ _ _ _ _ => rfl) ?_
   refine oS (d := .agg [.val (.int .i64 a2.fAt), .val (.int .i64 a2.fN)]) (fun _ => Want.plain rfl) (fun _ => rfl) (fun _ _ _ => rfl) (fun _ _ => OpR.pure rfl) (fun _ _ _ _ _ _ _ => rfl) ?_
   refine OpsS.cons' true ?_ (fun _ _ _ _ _ _ _ => rfl) ?_
   · intro D env92 hA
     have e11 : D 11 = false := hA.no 11 _ rfl rfl
     exact OpS.yes (o0 := [.var (blk (vn w3 0)) [.val y65] 85, .var (blk (vn w55 0)) [.val (.string (bs u64.1))] 58, .row y65 (List.map byteD u64.2) 1 5]) (o1 := fun x => [.var (blk (vn w3 0)) [.val y65] 85, .var (blk (vn w55 0)) [.val (.string (bs u64.1))] 58, .row y65 (List.map byteD u64.2) 1 5]) (d := fun x => .val (.bool x93)) (Want.plain rfl) (by first | rfl | simp only [e11, cond_true, cond_false, List.cons_append, List.nil_append, List.append_nil]) (fun x => by first | rfl | simp only [ins_self, ins_ne D (show 2 ≠ 11 by decide), upd_self, upd_ne env92 x (show 2 ≠ 11 by decide), e11, cond_true, cond_false, List.cons_append, List.nil_append, List.append_nil]) (fun x => rfl) (OpR.call [0, 2] fn26 (arena_Arena_Right_c hx93) rfl rfl rfl (fun _ => rfl))
   refine oS (d := .val (.pointer (some ⟨(blk (vn w55 0)), 0, none⟩))) (fun _ => Want.plain rfl) (fun _ => rfl) (fun _ _ _ => rfl) (fun _ _ => OpR.pure rfl) (fun _ _ _ _ _ _ _ => rfl) ?_
   refine oS (d := .agg [.val (.int .i64 a2.fAt), .val (.int .i64 a2.fN)]) (fun _ => Want.plain rfl) (fun _ => rfl) (fun _ _ _ => rfl) (fun _ _ => OpR.pure rfl) (fun _ _ _ _ _ _ _ => rfl) ?_
   refine oS (d := .agg [.val (.int .i64 x94.fAt), .val (.int .i64 x94.fN)]) (fun _ => Want.plain rfl) (fun _ => rfl) (fun _ _ _ => rfl) (fun _ _ => OpR.call0 fn28 (law03_ours_c hx94) rfl) (fun _ _ _ _ _ _ _ => rfl) ?_
   refine OpsS.cons' true ?_ (fun _ _ _ _ _ _ _ => rfl) ?_
   · intro D env92 hA
     have e11 : D 11 = false := hA.no 11 _ rfl rfl
     exact OpS.yes (o0 := [.var (blk (vn w3 0)) [.val y65] 85, .var (blk (vn w55 0)) [.val (.string (bs u64.1))] 58, .row y65 (List.map byteD u64.2) 1 5]) (o1 := fun x => [.var (blk (vn w3 0)) [.val y65] 85, .var (blk (vn w55 0)) [.val (.string (bs u64.1))] 58, .row y65 (List.map byteD u64.2) 1 5]) (d := fun x => .val (.bool x95)) (Want.plain rfl) (by first | rfl | simp only [e11, cond_true, cond_false, List.cons_append, List.nil_append, List.append_nil]) (fun x => by first | rfl | simp only [ins_self, ins_ne D (show 6 ≠ 11 by decide), upd_self, upd_ne env92 x (show 6 ≠ 11 by decide), e11, cond_true, cond_false, List.cons_append, List.nil_append, List.append_nil]) (fun x => rfl) (OpR.call [1] fn27 (ref03_Arena_Right_c hx95) rfl rfl rfl (fun _ => rfl))
   refine oS (d := .val (.bool (x93 == x95))) (fun _ => Want.plain rfl) (fun _ => rfl) (fun _ _ _ => rfl) (fun _ _ => OpR.eqBool rfl rfl rfl rfl) (fun _ _ _ _ _ _ _ => rfl) ?_
   refine oS (d := .val (.bool (x93 == x95))) (fun _ => Want.plain rfl) (fun _ => rfl) (fun _ _ _ => rfl) (fun _ _ => OpR.pure rfl) (fun _ _ _ _ _ _ _ => rfl) ?_
   refine oS (d := .val (.pointer (some ⟨(blk (vn w3 0)), 0, none⟩))) (fun _ => Want.bool rfl rfl rfl rfl (by rw [(c96)]; rfl)) (fun _ => rfl) (fun _ _ _ => rfl) (fun _ _ => OpR.pure rfl) (fun _ _ _ _ _ _ _ => rfl) ?_
   refine oS (d := .agg [.val (.int .i64 a2.fAt), .val (.int .i64 a2.fN)]) (fun _ => Want.bool rfl rfl rfl rfl (by rw [(c96)]; rfl)) (fun _ => rfl) (fun _ _ _ => rfl) (fun _ _ => OpR.pure rfl) (fun _ _ _ _ _ _ _ => rfl) ?_
   refine OpsS.cons' true ?_ (fun D hA env92 x j hj hD => match j, hj, hD with | 0, _, _ => rfl | 1, _, _ => rfl | 2, _, _ => rfl | 3, _, _ => rfl | 4, _, _ => rfl | 5, _, _ => rfl | 6, _, _ => rfl | 7, _, _ => rfl | 8, _, _ => rfl | 9, _, _ => rfl | 10, _, _ => rfl | 11, hj, _ => absurd rfl hj | 12, _, _ => rfl | 13, _, _ => rfl | 14, _, _ => rfl | 15, _, _ => rfl | 16, _, _ => rfl | 17, _, _ => rfl | 18, _, _ => rfl | 19, _, _ => rfl | 20, _, _ => rfl | 21, _, _ => rfl | 22, _, _ => rfl | 23, _, _ => rfl | 24, _, _ => rfl | 25, _, _ => rfl | 26, _, _ => rfl | 27, _, _ => rfl | 28, _, _ => rfl | 29, _, _ => rfl | 30, _, _ => rfl | 31, _, _ => rfl | 32, _, _ => rfl | 33, _, _ => rfl | 34, _, _ => rfl | 35, _, _ => rfl | 36, _, _ => rfl | 37, _, _ => rfl | 38, _, _ => rfl | 39, _, _ => rfl | 40, _, _ => rfl | 41, _, _ => rfl | 42, _, _ => rfl | 43, _, _ => rfl | 44, _, _ => rfl | 45, _, _ => rfl | 46, _, _ => rfl | 47, _, _ => rfl | _ + 48, _, _ => rfl) ?_
   · intro D env92 hA
     exact OpS.yes (o0 := [.var (blk (vn w3 0)) [.val y65] 85, .var (blk (vn w55 0)) [.val (.string (bs u64.1))] 58, .row y65 (List.map byteD u64.2) 1 5]) (o1 := fun x => [.var (blk (vn w3 0)) [.val y65] 85, .var (blk (vn w55 0)) [.val (.string (bs u64.1))] 58, .row y65 (List.map byteD u64.2) 1 5, .row (vn x 0) (List.map byteD x97) 1 5]) (d := fun x => .val (vn x 0)) (Want.bool rfl rfl rfl rfl (by rw [(c96)]; rfl)) (by first | rfl | simp only [hA.me, cond_true, cond_false, List.cons_append, List.nil_append, List.append_nil]) (fun x => by first | rfl | simp only [ins_self, upd_self, hA.me, cond_true, cond_false, List.cons_append, List.nil_append, List.append_nil]) (fun x => rfl) (OpR.call [0, 2] fn18 (arena_Arena_Bytes_c hx97) rfl rfl rfl (fun _ => rfl))
   refine OpsS.cons' true ?_ (fun _ _ _ _ _ _ _ => rfl) ?_
   · intro D env92 hA
     have e11 : D 11 = true := hA.yes 11 _ rfl rfl
     exact OpS.yes (o0 := [.var (blk (vn w3 0)) [.val y65] 85, .var (blk (vn w55 0)) [.val (.string (bs u64.1))] 58, .row y65 (List.map byteD u64.2) 1 5, .row (vn (env92 11) 0) (List.map byteD x97) 1 5]) (o1 := fun x => [.var (blk (vn w3 0)) [.val y65] 85, .var (blk (vn w55 0)) [.val (.string (bs u64.1))] 58, .row y65 (List.map byteD u64.2) 1 5, .row (vn (env92 11) 0) (List.map byteD x97) 1 5]) (d := fun x => .val (.string (bs x97))) (Want.bool rfl rfl rfl rfl (by rw [(c96)]; rfl)) (by first | rfl | simp only [e11, cond_true, cond_false, List.cons_append, List.nil_append, List.append_nil]) (fun x => by first | rfl | simp only [ins_self, ins_ne D (show 12 ≠ 11 by decide), upd_self, upd_ne env92 x (show 12 ≠ 11 by decide), e11, cond_true, cond_false, List.cons_append, List.nil_append, List.append_nil]) (fun x => rfl) (OpR.toStrF (l := x97) (Src.row 3 rfl rfl) rfl rfl rfl rfl rfl rfl)
   refine oS (d := .val (.pointer (some ⟨(blk (vn w55 0)), 0, none⟩))) (fun _ => Want.bool rfl rfl rfl rfl (by rw [(c96)]; rfl)) (fun _ => rfl) (fun _ _ _ => rfl) (fun _ _ => OpR.pure rfl) (fun _ _ _ _ _ _ _ => rfl) ?_
   refine oS (d := .agg [.val (.int .i64 a2.fAt), .val (.int .i64 a2.fN)]) (fun _ => Want.bool rfl rfl rfl rfl (by rw [(c96)]; rfl)) (fun _ => rfl) (fun _ _ _ => rfl) (fun _ _ => OpR.pure rfl) (fun _ _ _ _ _ _ _ => rfl) ?_
   refine oS (d := .agg [.val (.int .i64 x98.fAt), .val (.int .i64 x98.fN)]) (fun _ => Want.bool rfl rfl rfl rfl (by rw [(c96)]; rfl)) (fun _ => rfl) (fun _ _ _ => rfl) (fun _ _ => OpR.call0 fn28 (law03_ours_c hx98) rfl) (fun _ _ _ _ _ _ _ => rfl) ?_
   refine OpsS.cons' true ?_ (fun _ _ _ _ _ _ _ => rfl) ?_
   · intro D env92 hA
     have e11 : D 11 = true := hA.yes 11 _ rfl rfl
     exact OpS.yes (o0 := [.var (blk (vn w3 0)) [.val y65] 85, .var (blk (vn w55 0)) [.val (.string (bs u64.1))] 58, .row y65 (List.map byteD u64.2) 1 5, .row (vn (env92 11) 0) (List.map byteD x97) 1 5]) (o1 := fun x => [.var (blk (vn w3 0)) [.val y65] 85, .var (blk (vn w55 0)) [.val (.string (bs u64.1))] 58, .row y65 (List.map byteD u64.2) 1 5, .row (vn (env92 11) 0) (List.map byteD x97) 1 5]) (d := fun x => .val (.string (bs x99))) (Want.bool rfl rfl rfl rfl (by rw [(c96)]; rfl)) (by first | rfl | simp only [e11, cond_true, cond_false, List.cons_append, List.nil_append, List.append_nil]) (fun x => by first | rfl | simp only [ins_self, ins_ne D (show 16 ≠ 11 by decide), upd_self, upd_ne env92 x (show 16 ≠ 11 by decide), e11, cond_true, cond_false, List.cons_append, List.nil_append, List.append_nil]) (fun x => rfl) (OpR.call [1] fn25 (ref03_Arena_Bytes_c hx99) rfl rfl rfl (fun _ => rfl))
   refine oS (d := .val (.bool (x97 == x99))) (fun _ => Want.bool rfl rfl rfl rfl (by rw [(c96)]; rfl)) (fun _ => rfl) (fun _ _ _ => rfl) (fun _ _ => OpR.cast (OpR.pure rfl) (boolE (strEq _ _))) (fun _ _ _ _ _ _ _ => rfl) ?_
   refine oS (d := .val (.bool (x97 == x99))) (fun _ => Want.plain rfl) (fun _ => rfl) (fun _ _ _ => rfl) (fun _ _ => OpR.pickT rfl (c96) rfl) (fun _ _ _ _ _ _ _ => rfl) ?_
   refine oS (d := .val (.bool (x97 == x99))) (fun _ => Want.plain rfl) (fun _ => rfl) (fun _ _ _ => rfl) (fun _ _ => OpR.pure rfl) (fun _ _ _ _ _ _ _ => rfl) ?_
   refine oS (d := .val (.bool x89.2)) (fun _ => Want.bool rfl rfl rfl rfl (by rw [(beq_iff_eq.2 c100)]; rfl)) (fun _ => rfl) (fun _ _ _ => rfl) (fun _ _ => OpR.pure rfl) (fun _ _ _ _ _ _ _ => rfl) ?_
   refine oS (d := .val (.string (bs x90))) (fun _ => Want.bool rfl rfl rfl rfl (by rw [(beq_iff_eq.2 c100)]; rfl)) (fun _ => rfl) (fun _ _ _ => rfl) (fun _ _ => OpR.pure rfl) (fun _ _ _ _ _ _ _ => rfl) ?_
   refine oS (d := .val (.int .i64 (x90.length : Int))) (fun _ => Want.bool rfl rfl rfl rfl (by rw [(beq_iff_eq.2 c100)]; rfl)) (fun _ => rfl) (fun _ _ _ => rfl) (fun _ _ => OpR.cast (OpR.pure rfl) (intE (lenS _))) (fun _ _ _ _ _ _ _ => rfl) ?_
   refine oS (d := .val (.bool ((x90.length : Int) == 1))) (fun _ => Want.bool rfl rfl rfl rfl (by rw [(beq_iff_eq.2 c100)]; rfl)) (fun _ => rfl) (fun _ _ _ => rfl) (fun _ _ => OpR.pure rfl) (fun _ _ _ _ _ _ _ => rfl) ?_
   refine oS (d := .val (.bool (x89.2 == ((x90.length : Int) == 1)))) (fun _ => Want.bool rfl rfl rfl rfl (by rw [(beq_iff_eq.2 c100)]; rfl)) (fun _ => rfl) (fun _ _ _ => rfl) (fun _ _ => OpR.eqBool rfl rfl rfl rfl) (fun _ _ _ _ _ _ _ => rfl) ?_
   refine oS (d := .val (.bool (x89.2 == ((x90.length : Int) == 1)))) (fun _ => Want.plain rfl) (fun _ => rfl) (fun _ _ _ => rfl) (fun _ _ => OpR.pickT rfl (beq_iff_eq.2 c100) rfl) (fun _ _ _ _ _ _ _ => rfl) ?_
   refine oS (d := .val (.bool (x89.2 == ((x90.length : Int) == 1)))) (fun _ => Want.plain rfl) (fun _ => rfl) (fun _ _ _ => rfl) (fun _ _ => OpR.pure rfl) (fun _ _ _ _ _ _ _ => rfl) ?_
   refine oS (d := .val (.bool x89.2)) (fun _ => Want.bool rfl rfl rfl rfl (by rw [(c101)]; rfl)) (fun _ => rfl) (fun _ _ _ => rfl) (fun _ _ => OpR.pure rfl) (fun _ _ _ _ _ _ _ => rfl) ?_
   refine oS (d := .val (.bool (!x89.2))) (fun _ => Want.bool rfl rfl rfl rfl (by rw [(c101)]; rfl)) (fun _ => rfl) (fun _ _ _ => rfl) (fun _ _ => OpR.pure rfl) (fun _ _ _ _ _ _ _ => rfl) ?_
   refine oS (d := .val (.bool (!x89.2))) (fun _ => Want.bool rfl rfl rfl rfl (by rw [(c101)]; rfl)) (fun _ => rfl) (fun _ _ _ => rfl) (fun _ _ => OpR.pure rfl) (fun _ _ _ _ _ _ _ => rfl) ?_
   refine oS (d := .val (.int .u8 (x89.1.toNat : Int))) (fun _ => Want.bool rfl rfl rfl rfl (by rw [(not_f (eq_false_of_ne_true c102))]; rfl)) (fun _ => rfl) (fun _ _ _ => rfl) (fun _ _ => OpR.pure rfl) (fun _ _ _ _ _ _ _ => rfl) ?_
   refine oS (d := .val (.bool ((x89.1.toNat : Int) == 0))) (fun _ => Want.bool rfl rfl rfl rfl (by rw [(not_f (eq_false_of_ne_true c102))]; rfl)) (fun _ => rfl) (fun _ _ _ => rfl) (fun _ _ => OpR.pure rfl) (fun _ _ _ _ _ _ _ => rfl) ?_
   refine oS (d := .val (.bool ((x89.1.toNat : Int) == 0))) (fun _ => Want.bool rfl rfl rfl rfl (by rw [(c101)]; rfl)) (fun _ => rfl) (fun _ _ _ => rfl) (fun _ _ => OpR.pickT rfl (not_f (eq_false_of_ne_true c102)) rfl) (fun _ _ _ _ _ _ _ => rfl) ?_
   refine oS (d := .val (.bool ((x89.1.toNat : Int) == 0))) (fun _ => Want.bool rfl rfl rfl rfl (by rw [(c101)]; rfl)) (fun _ => rfl) (fun _ _ _ => rfl) (fun _ _ => OpR.pure rfl) (fun _ _ _ _ _ _ _ => rfl) ?_
   refine oS (d := .val (.bool x89.2)) (fun _ => Want.bool rfl rfl rfl rfl (by rw [(beq_eq_false_iff_ne.2 c105)]; rfl)) (fun _ => rfl) (fun _ _ _ => rfl) (fun _ _ => OpR.pure rfl) (fun _ _ _ _ _ _ _ => rfl) ?_
   refine oS (d := .val (.bool x89.2)) (fun _ => Want.bool rfl rfl rfl rfl (by rw [(beq_eq_false_iff_ne.2 c105)]; rfl)) (fun _ => rfl) (fun _ _ _ => rfl) (fun _ _ => OpR.pure rfl) (fun _ _ _ _ _ _ _ => rfl) ?_
   refine OpsS.cons' false (fun D env92 hA => OpS.no (Want.bool rfl rfl rfl rfl (by rw [(eq_false_of_ne_true c102)]; rfl)) rfl rfl) (fun _ _ _ _ _ _ _ => rfl) ?_
   refine OpsS.cons' false (fun D env92 hA => OpS.no (Want.bool rfl rfl rfl rfl (by rw [(eq_false_of_ne_true c102)]; rfl)) rfl rfl) (fun _ _ _ _ _ _ _ => rfl) ?_
   refine OpsS.cons' false (fun D env92 hA => OpS.no (Want.bool rfl rfl rfl rfl (by rw [(eq_false_of_ne_true c102)]; rfl)) rfl rfl) (fun _ _ _ _ _ _ _ => rfl) ?_
   refine OpsS.cons' false (fun D env92 hA => OpS.no (Want.bool rfl rfl rfl rfl (by rw [(eq_false_of_ne_true c102)]; rfl)) rfl rfl) (fun _ _ _ _ _ _ _ => rfl) ?_
   refine OpsS.cons' false (fun D env92 hA => OpS.no (Want.bool rfl rfl rfl rfl (by rw [(eq_false_of_ne_true c102)]; rfl)) rfl rfl) (fun _ _ _ _ _ _ _ => rfl) ?_
   refine oS (d := .val (.bool false)) (fun _ => Want.bool rfl rfl rfl rfl (by rw [(beq_eq_false_iff_ne.2 c105)]; rfl)) (fun _ => rfl) (fun _ _ _ => rfl) (fun _ _ => OpR.pickF rfl (eq_false_of_ne_true c102) rfl) (fun _ _ _ _ _ _ _ => rfl) ?_
   refine oS (d := .val (.bool false)) (fun _ => Want.bool rfl rfl rfl rfl (by rw [(c101)]; rfl)) (fun _ => rfl) (fun _ _ _ => rfl) (fun _ _ => OpR.pickF rfl (beq_eq_false_iff_ne.2 c105) rfl) (fun _ _ _ _ _ _ _ => rfl) ?_
   refine oS (d := .val (.bool false)) (fun _ => Want.plain rfl) (fun _ => rfl) (fun _ _ _ => rfl) (fun _ _ => OpR.pickT rfl (c101) rfl) (fun _ _ _ _ _ _ _ => rfl) ?_
   refine oS (d := .val (.bool false)) (fun _ => Want.plain rfl) (fun _ => rfl) (fun _ _ _ => rfl) (fun _ _ => OpR.pure rfl) (fun _ _ _ _ _ _ _ => rfl) ?_
   refine OpsS.cons' false (fun D env92 hA => OpS.no (Want.bool rfl rfl rfl rfl rfl) rfl rfl) (fun _ _ _ _ _ _ _ => rfl) ?_
   refine oS (d := .val (.bool false)) (fun _ => Want.plain rfl) (fun _ => rfl) (fun _ _ _ => rfl) (fun _ _ => OpR.pickF rfl rfl rfl) (fun _ _ _ _ _ _ _ => rfl) ?_
   refine oS (d := .val (.bool false)) (fun _ => Want.plain rfl) (fun _ => rfl) (fun _ _ _ => rfl) (fun _ _ => OpR.pure rfl) (fun _ _ _ _ _ _ _ => rfl) ?_
   exact trivial
 rcases ite_some ht91 with ⟨c103, ht91⟩ | ⟨c103, ht91⟩
 rotate_left
 · refine T.drawS drawsX (fun env92 => [.val (.pointer (some ⟨(blk (vn w3 0)), 0, none⟩)), .agg [.val (.int .i64 a2.fAt), .val (.int .i64 a2.fN)], .val (.bool x93), .val (.pointer (some ⟨(blk (vn w55 0)), 0, none⟩)), .agg [.val (.int .i64 a2.fAt), .val (.int .i64 a2.fN)], .agg [.val (.int .i64 x94.fAt), .val (.int .i64 x94.fN)], .val (.bool x95), .val (.bool (x93 == x95)), .val (.bool (x93 == x95)), .val (.pointer (some ⟨(blk (vn w3 0)), 0, none⟩)), .agg [.val (.int .i64 a2.fAt), .val (.int .i64 a2.fN)], .val (vn (env92 11) 0), .val (.string (bs x97)), .val (.pointer (some ⟨(blk (vn w55 0)), 0, none⟩)), .agg [.val (.int .i64 a2.fAt), .val (.int .i64 a2.fN)], .agg [.val (.int .i64 x98.fAt), .val (.int .i64 x98.fN)], .val (.string (bs x99)), .val (.bool (x97 == x99)), .val (.bool (x97 == x99)), .val (.bool (x97 == x99)), .val (.bool x89.2), .val (.string (bs x90)), .val (.int .i64 (x90.length : Int)), .val (.bool ((x90.length : Int) == 1)), .val (.bool (x89.2 == ((x90.length : Int) == 1))), .val (.bool (x89.2 == ((x90.length : Int) == 1))), .val (.bool (x89.2 == ((x90.length : Int) == 1))), .val (.bool x89.2), .val (.bool (!x89.2)), .val (.bool (!x89.2)), .tup [], .tup [], .val (.bool false), .val (.bool false), .val (.bool x89.2), .val (.bool x89.2), .val (.int .u8 (x89.1.toNat : Int)), .sl 1 (List.map byteD [x89.1]), .val (.string (bs [x89.1])), .val (.string (bs x90)), .val (.bool ([x89.1] == x90)), .val (.bool ([x89.1] == x90)), .val (.bool ([x89.1] == x90)), .val (.bool ([x89.1] == x90)), .val (.bool ([x89.1] == x90)), .tup [], .val (.bool false), .val (.bool false)]) (fun D env92 => [.var (blk (vn w3 0)) [.val y65] 85, .var (blk (vn w55 0)) [.val (.string (bs u64.1))] 58, .row y65 (List.map byteD u64.2) 1 5] ++ bif D 11 then [.row (vn (env92 11) 0) (List.map byteD x97) 1 5] else []) [0, 0, 3, 0, 0, 23, 63, 127, 255, 511, 511, 2047, 4095, 511, 511, 20479, 61439, 131071, 262143, 524287, 1048575, 1048575, 3145727, 7340031, 16777215, 33554431, 67108863, 134217727, 268435455, 536870911, 1073741823, 2147483647, 4294967295, 8589934591, 17179869183, 34359738367, 68719476735, 137438953471, 274877906943, 68719476735, 1099511627775, 2199023255551, 4398046511103, 8796093022207, 17592186044415, 35184372088831, 70368744177663, 140737488355327] [5, 6, 7, 9, 13, 14, 15, 82, 83, 84, 85, 86, 87, 88, 89, 90, 91, 92, 93, 94, 95, 96, 97, 98, 99, 100, 101, 102, 103, 104, 105, 106, 107, 108, 109, 110, 111, 112, 113, 114, 115, 116, 117, 118, 119, 120, 121, 122, 123, 124, 125, 126, 127, 128, 129, 130, 131, 132, 133, 134, 135, 136, 137, 138, 139, 140] (fun env92 => [.var (blk (vn w3 0)) [.val y65] 85, .var (blk (vn w55 0)) [.val (.string (bs u64.1))] 58, .row y65 (List.map byteD u64.2) 1 5, .row (vn (env92 11) 0) (List.map byteD x97) 1 5]) (by decide +kernel) (by decide +kernel) (fun _ => rfl) (fun _ => rfl) ?_ (fun _ => rfl) (fun _ => rfl) ?_
   rotate_left
   · intro env92
     obtain rfl := Option.some.inj ht91
     exact ⟨_, Gst.trans (Gst.only [6] rfl) (Gst.pick [] rfl rfl), rfl⟩
   refine oS (d := .val (.pointer (some ⟨(blk (vn w3 0)), 0, none⟩))) (fun _ => Want.plain rfl) (fun _ => rfl) (fun _ _ _ => rfl) (fun _ _ => OpR.pure rfl) (fun _ _ _ _ _ _ _ => rfl) ?_
   refine oS (d := .agg [.val (.int .i64 a2.fAt), .val (.int .i64 a2.fN)]) (fun _ => Want.plain rfl) (fun _ => rfl) (fun _ _ _ => rfl) (fun _ _ => OpR.pure rfl) (fun _ _ _ _ _ _ _ => rfl) ?_
   refine OpsS.cons' true ?_ (fun _ _ _ _ _ _ _ => rfl) ?_
   · intro D env92 hA
     have e11 : D 11 = false := hA.no 11 _ rfl rfl
     exact OpS.yes (o0 := [.var (blk (vn w3 0)) [.val y65] 85, .var (blk (vn w55 0)) [.val (.string (bs u64.1))] 58, .row y65 (List.map byteD u64.2) 1 5]) (o1 := fun x => [.var (blk (vn w3 0)) [.val y65] 85, .var (blk (vn w55 0)) [.val (.string (bs u64.1))] 58, .row y65 (List.map byteD u64.2) 1 5]) (d := fun x => .val (.bool x93)) (Want.plain rfl) (by first | rfl | simp only [e11, cond_true, cond_false, List.cons_append, List.nil_append, List.append_nil]) (fun x => by first | rfl | simp only [ins_self, ins_ne D (show 2 ≠ 11 by decide), upd_self, upd_ne env92 x (show 2 ≠ 11 by decide), e11, cond_true, cond_false, List.cons_append, List.nil_append, List.append_nil]) (fun x => rfl) (OpR.call [0, 2] fn26 (arena_Arena_Right_c hx93) rfl rfl rfl (fun _ => rfl))
   refine oS (d := .val (.pointer (some ⟨(blk (vn w55 0)), 0, none⟩))) (fun _ => Want.plain rfl) (fun _ => rfl) (fun _ _ _ => rfl) (fun _ _ => OpR.pure rfl) (fun _ _ _ _ _ _ _ => rfl) ?_
   refine oS (d := .agg [.val (.int .i64 a2.fAt), .val (.int .i64 a2.fN)]) (fun _ => Want.plain rfl) (fun _ => rfl) (fun _ _ _ => rfl) (fun _ _ => OpR.pure rfl) (fun _ _ _ _ _ _ _ => rfl) ?_
   refine oS (d := .agg [.val (.int .i64 x94.fAt), .val (.int .i64 x94.fN)]) (fun _ => Want.plain rfl) (fun _ => rfl) (fun _ _ _ => rfl) (fun _ _ => OpR.call0 fn28 (law03_ours_c hx94) rfl) (fun _ _ _ _ _ _ _ => rfl) ?_
   refine OpsS.cons' true ?_ (fun _ _ _ _ _ _ _ => rfl) ?_
   · intro D env92 hA
     have e11 : D 11 = false := hA.no 11 _ rfl rfl
     exact OpS.yes (o0 := [.var (blk (vn w3 0)) [.val y65] 85, .var (blk (vn w55 0)) [.val (.string (bs u64.1))] 58, .row y65 (List.map byteD u64.2) 1 5]) (o1 := fun x => [.var (blk (vn w3 0)) [.val y65] 85, .var (blk (vn w55 0)) [.val (.string (bs u64.1))] 58, .row y65 (List.map byteD u64.2) 1 5]) (d := fun x => .val (.bool x95)) (Want.plain rfl) (by first | rfl | simp only [e11, cond_true, cond_false, List.cons_append, List.nil_append, List.append_nil]) (fun x => by first | rfl | simp only [ins_self, ins_ne D (show 6 ≠ 11 by decide), upd_self, upd_ne env92 x (show 6 ≠ 11 by decide), e11, cond_true, cond_false, List.cons_append, List.nil_append, List.append_nil]) (fun x => rfl) (OpR.call [1] fn27 (ref03_Arena_Right_c hx95) rfl rfl rfl (fun _ => rfl))
   refine oS (d := .val (.bool (x93 == x95))) (fun _ => Want.plain rfl) (fun _ => rfl) (fun _ _ _ => rfl) (fun _ _ => OpR.eqBool rfl rfl rfl rfl) (fun _ _ _ _ _ _ _ => rfl) ?_
   refine oS (d := .val (.bool (x93 == x95))) (fun _ => Want.plain rfl) (fun _ => rfl) (fun _ _ _ => rfl) (fun _ _ => OpR.pure rfl) (fun _ _ _ _ _ _ _ => rfl) ?_
   refine oS (d := .val (.pointer (some ⟨(blk (vn w3 0)), 0, none⟩))) (fun _ => Want.bool rfl rfl rfl rfl (by rw [(c96)]; rfl)) (fun _ => rfl) (fun _ _ _ => rfl) (fun _ _ => OpR.pure rfl) (fun _ _ _ _ _ _ _ => rfl) ?_
   refine oS (d := .agg [.val (.int .i64 a2.fAt), .val (.int .i64 a2.fN)]) (fun _ => Want.bool rfl rfl rfl rfl (by rw [(c96)]; rfl)) (fun _ => rfl) (fun _ _ _ => rfl) (fun _ _ => OpR.pure rfl) (fun _ _ _ _ _ _ _ => rfl) ?_
   refine OpsS.cons' true ?_ (fun D hA env92 x j hj hD => match j, hj, hD with | 0, _, _ => rfl | 1, _, _ => rfl | 2, _, _ => rfl | 3, _, _ => rfl | 4, _, _ => rfl | 5, _, _ => rfl | 6, _, _ => rfl | 7, _, _ => rfl | 8, _, _ => rfl | 9, _, _ => rfl | 10, _, _ => rfl | 11, hj, _ => absurd rfl hj | 12, _, _ => rfl | 13, _, _ => rfl | 14, _, _ => rfl | 15, _, _ => rfl | 16, _, _ => rfl | 17, _, _ => rfl | 18, _, _ => rfl | 19, _, _ => rfl | 20, _, _ => rfl | 21, _, _ => rfl | 22, _, _ => rfl | 23, _, _ => rfl | 24, _, _ => rfl | 25, _, _ => rfl | 26, _, _ => rfl | 27, _, _ => rfl | 28, _, _ => rfl | 29, _, _ => rfl | 30, _, _ => rfl | 31, _, _ => rfl | 32, _, _ => rfl | 33, _, _ => rfl | 34, _, _ => rfl | 35, _, _ => rfl | 36, _, _ => rfl | 37, _, _ => rfl | 38, _, _ => rfl | 39, _, _ => rfl | 40, _, _ => rfl | 41, _, _ => rfl | 42, _, _ => rfl | 43, _, _ => rfl | 44, _, _ => rfl | 45, _, _ => rfl | 46, _, _ => rfl | 47, _, _ => rfl | _ + 48, _, _ => rfl) ?_
   · intro D env92 hA
     exact OpS.yes (o0 := [.var (blk (vn w3 0)) [.val y65] 85, .var (blk (vn w55 0)) [.val (.string (bs u64.1))] 58, .row y65 (List.map byteD u64.2) 1 5]) (o1 := fun x => [.var (blk (vn w3 0)) [.val y65] 85, .var (blk (vn w55 0)) [.val (.string (bs u64.1))] 58, .row y65 (List.map byteD u64.2) 1 5, .row (vn x 0) (List.map byteD x97) 1 5]) (d := fun x => .val (vn x 0)) (Want.bool rfl rfl rfl rfl (by rw [(c96)]; rfl)) (by first | rfl | simp only [hA.me, cond_true, cond_false, List.cons_append, List.nil_append, List.append_nil]) (fun x => by first | rfl | simp only [ins_self, upd_self, hA.me, cond_true, cond_false, List.cons_append, List.nil_append, List.append_nil]) (fun x => rfl) (OpR.call [0, 2] fn18 (arena_Arena_Bytes_c hx97) rfl rfl rfl (fun _ => rfl))
   refine OpsS.cons' true ?_ (fun _ _ _ _ _ _ _ => rfl) ?_
   · intro D env92 hA
     have e11 : D 11 = true := hA.yes 11 _ rfl rfl
     exact OpS.yes (o0 := [.var (blk (vn w3 0)) [.val y65] 85, .var (blk (vn w55 0)) [.val (.string (bs u64.1))] 58, .row y65 (List.map byteD u64.2) 1 5, .row (vn (env92 11) 0) (List.map byteD x97) 1 5]) (o1 := fun x => [.var (blk (vn w3 0)) [.val y65] 85, .var (blk (vn w55 0)) [.val (.string (bs u64.1))] 58, .row y65 (List.map byteD u64.2) 1 5, .row (vn (env92 11) 0) (List.map byteD x97) 1 5]) (d := fun x => .val (.string (bs x97))) (Want.bool rfl rfl rfl rfl (by rw [(c96)]; rfl)) (by first | rfl | simp only [e11, cond_true, cond_false, List.cons_append, List.nil_append, List.append_nil]) (fun x => by first | rfl | simp only [ins_self, ins_ne D (show 12 ≠ 11 by decide), upd_self, upd_ne env92 x (show 12 ≠ 11 by decide), e11, cond_true, cond_false, List.cons_append, List.nil_append, List.append_nil]) (fun x => rfl) (OpR.toStrF (l := x97) (Src.row 3 rfl rfl) rfl rfl rfl rfl rfl rfl)
   refine oS (d := .val (.pointer (some ⟨(blk (vn w55 0)), 0, none⟩))) (fun _ => Want.bool rfl rfl rfl rfl (by rw [(c96)]; rfl)) (fun _ => rfl) (fun _ _ _ => rfl) (fun _ _ => OpR.pure rfl) (fun _ _ _ _ _ _ _ => rfl) ?_
   refine oS (d := .agg [.val (.int .i64 a2.fAt), .val (.int .i64 a2.fN)]) (fun _ => Want.bool rfl rfl rfl rfl (by rw [(c96)]; rfl)) (fun _ => rfl) (fun _ _ _ => rfl) (fun _ _ => OpR.pure rfl) (fun _ _ _ _ _ _ _ => rfl) ?_
   refine oS (d := .agg [.val (.int .i64 x98.fAt), .val (.int .i64 x98.fN)]) (fun _ => Want.bool rfl rfl rfl rfl (by rw [(c96)]; rfl)) (fun _ => rfl) (fun _ _ _ => rfl) (fun _ _ => OpR.call0 fn28 (law03_ours_c hx98) rfl) (fun _ _ _ _ _ _ _ => rfl) ?_
   refine OpsS.cons' true ?_ (fun _ _ _ _ _ _ _ => rfl) ?_
   · intro D env92 hA
     have e11 : D 11 = true := hA.yes 11 _ rfl rfl
     exact OpS.yes (o0 := [.var (blk (vn w3 0)) [.val y65] 85, .var (blk (vn w55 0)) [.val (.string (bs u64.1))] 58, .row y65 (List.map byteD u64.2) 1 5, .row (vn (env92 11) 0) (List.map byteD x97) 1 5]) (o1 := fun x => [.var (blk (vn w3 0)) [.val y65] 85, .var (blk (vn w55 0)) [.val (.string (bs u64.1))] 58, .row y65 (List.map byteD u64.2) 1 5, .row (vn (env92 11) 0) (List.map byteD x97) 1 5]) (d := fun x => .val (.string (bs x99))) (Want.bool rfl rfl rfl rfl (by rw [(c96)]; rfl)) (by first | rfl | simp only [e11, cond_true, cond_false, List.cons_append, List.nil_append, List.append_nil]) (fun x => by first | rfl | simp only [ins_self, ins_ne D (show 16 ≠ 11 by decide), upd_self, upd_ne env92 x (show 16 ≠ 11 by decide), e11, cond_true, cond_false, List.cons_append, List.nil_append, List.append_nil]) (fun x => rfl) (OpR.call [1] fn25 (ref03_Arena_Bytes_c hx99) rfl rfl rfl (fun _ => rfl))
   refine oS (d := .val (.bool (x97 == x99))) (fun _ => Want.bool rfl rfl rfl rfl (by rw [(c96)]; rfl)) (fun _ => rfl) (fun _ _ _ => rfl) (fun _ _ => OpR.cast (OpR.pure rfl) (boolE (strEq _ _))) (fun _ _ _ _ _ _ _ => rfl) ?_
   refine oS (d := .val (.bool (x97 == x99))) (fun _ => Want.plain rfl) (fun _ => rfl) (fun _ _ _ => rfl) (fun _ _ => OpR.pickT rfl (c96) rfl) (fun _ _ _ _ _ _ _ => rfl) ?_
   refine oS (d := .val (.bool (x97 == x99))) (fun _ => Want.plain rfl) (fun _ => rfl) (fun _ _ _ => rfl) (fun _ _ => OpR.pure rfl) (fun _ _ _ _ _ _ _ => rfl) ?_
   refine oS (d := .val (.bool x89.2)) (fun _ => Want.bool rfl rfl rfl rfl (by rw [(beq_iff_eq.2 c100)]; rfl)) (fun _ => rfl) (fun _ _ _ => rfl) (fun _ _ => OpR.pure rfl) (fun _ _ _ _ _ _ _ => rfl) ?_
   refine oS (d := .val (.string (bs x90))) (fun _ => Want.bool rfl rfl rfl rfl (by rw [(beq_iff_eq.2 c100)]; rfl)) (fun _ => rfl) (fun _ _ _ => rfl) (fun _ _ => OpR.pure rfl) (fun _ _ _ _ _ _ _ => rfl) ?_
   refine oS (d := .val (.int .i64 (x90.length : Int))) (fun _ => Want.bool rfl rfl rfl rfl (by rw [(beq_iff_eq.2 c100)]; rfl)) (fun _ => rfl) (fun _ _ _ => rfl) (fun _ _ => OpR.cast (OpR.pure rfl) (intE (lenS _))) (fun _ _ _ _ _ _ _ => rfl) ?_
   refine oS (d := .val (.bool ((x90.length : Int) == 1))) (fun _ => Want.bool rfl rfl rfl rfl (by rw [(beq_iff_eq.2 c100)]; rfl)) (fun _ => rfl) (fun _ _ _ => rfl) (fun _ _ => OpR.pure rfl) (fun _ _ _ _ _ _ _ => rfl) ?_
   refine oS (d := .val (.bool (x89.2 == ((x90.length : Int) == 1)))) (fun _ => Want.bool rfl rfl rfl rfl (by rw [(beq_iff_eq.2 c100)]; rfl)) (fun _ => rfl) (fun _ _ _ => rfl) (fun _ _ => OpR.eqBool rfl rfl rfl rfl) (fun _ _ _ _ _ _ _ => rfl) ?_
   refine oS (d := .val (.bool (x89.2 == ((x90.length : Int) == 1)))) (fun _ => Want.plain rfl) (fun _ => rfl) (fun _ _ _ => rfl) (fun _ _ => OpR.pickT rfl (beq_iff_eq.2 c100) rfl) (fun _ _ _ _ _ _ _ => rfl) ?_
   refine oS (d := .val (.bool (x89.2 == ((x90.length : Int) == 1)))) (fun _ => Want.plain rfl) (fun _ => rfl) (fun _ _ _ => rfl) (fun _ _ => OpR.pure rfl) (fun _ _ _ _ _ _ _ => rfl) ?_
   refine oS (d := .val (.bool x89.2)) (fun _ => Want.bool rfl rfl rfl rfl (by rw [(c101)]; rfl)) (fun _ => rfl) (fun _ _ _ => rfl) (fun _ _ => OpR.pure rfl) (fun _ _ _ _ _ _ _ => rfl) ?_
   refine oS (d := .val (.bool (!x89.2))) (fun _ => Want.bool rfl rfl rfl rfl (by rw [(c101)]; rfl)) (fun _ => rfl) (fun _ _ _ => rfl) (fun _ _ => OpR.pure rfl) (fun _ _ _ _ _ _ _ => rfl) ?_
   refine oS (d := .val (.bool (!x89.2))) (fun _ => Want.bool rfl rfl rfl rfl (by rw [(c101)]; rfl)) (fun _ => rfl) (fun _ _ _ => rfl) (fun _ _ => OpR.pure rfl) (fun _ _ _ _ _ _ _ => rfl) ?_
   refine OpsS.cons' false (fun D env92 hA => OpS.no (Want.bool rfl rfl rfl rfl (by rw [(not_t (c102))]; rfl)) rfl rfl) (fun _ _ _ _ _ _ _ => rfl) ?_
   refine OpsS.cons' false (fun D env92 hA => OpS.no (Want.bool rfl rfl rfl rfl (by rw [(not_t (c102))]; rfl)) rfl rfl) (fun _ _ _ _ _ _ _ => rfl) ?_
   refine oS (d := .val (.bool false)) (fun _ => Want.bool rfl rfl rfl rfl (by rw [(c101)]; rfl)) (fun _ => rfl) (fun _ _ _ => rfl) (fun _ _ => OpR.pickF rfl (not_t (c102)) rfl) (fun _ _ _ _ _ _ _ => rfl) ?_
   refine oS (d := .val (.bool false)) (fun _ => Want.bool rfl rfl rfl rfl (by rw [(c101)]; rfl)) (fun _ => rfl) (fun _ _ _ => rfl) (fun _ _ => OpR.pure rfl) (fun _ _ _ _ _ _ _ => rfl) ?_
   refine oS (d := .val (.bool x89.2)) (fun _ => Want.bool rfl rfl rfl rfl rfl) (fun _ => rfl) (fun _ _ _ => rfl) (fun _ _ => OpR.pure rfl) (fun _ _ _ _ _ _ _ => rfl) ?_
   refine oS (d := .val (.bool x89.2)) (fun _ => Want.bool rfl rfl rfl rfl rfl) (fun _ => rfl) (fun _ _ _ => rfl) (fun _ _ => OpR.pure rfl) (fun _ _ _ _ _ _ _ => rfl) ?_
   refine oS (d := .val (.int .u8 (x89.1.toNat : Int))) (fun _ => Want.bool rfl rfl rfl rfl (by rw [(c102)]; rfl)) (fun _ => rfl) (fun _ _ _ => rfl) (fun _ _ => OpR.pure rfl) (fun _ _ _ _ _ _ _ => rfl) ?_
   refine oS (d := .sl 1 (List.map byteD [x89.1])) (fun _ => Want.bool rfl rfl rfl rfl (by rw [(c102)]; rfl)) (fun _ => rfl) (fun _ _ _ => rfl) (fun _ _ => OpR.lit rfl rfl rfl rfl rfl rfl rfl) (fun _ _ _ _ _ _ _ => rfl) ?_
   refine oS (d := .val (.string (bs [x89.1]))) (fun _ => Want.bool rfl rfl rfl rfl (by rw [(c102)]; rfl)) (fun _ => rfl) (fun _ _ _ => rfl) (fun _ _ => OpR.toStr (bs := [x89.1]) rfl rfl rfl rfl rfl rfl rfl) (fun _ _ _ _ _ _ _ => rfl) ?_
   refine oS (d := .val (.string (bs x90))) (fun _ => Want.bool rfl rfl rfl rfl (by rw [(c102)]; rfl)) (fun _ => rfl) (fun _ _ _ => rfl) (fun _ _ => OpR.pure rfl) (fun _ _ _ _ _ _ _ => rfl) ?_
   refine oS (d := .val (.bool ([x89.1] == x90))) (fun _ => Want.bool rfl rfl rfl rfl (by rw [(c102)]; rfl)) (fun _ => rfl) (fun _ _ _ => rfl) (fun _ _ => OpR.cast (OpR.pure rfl) (boolE (strEq _ _))) (fun _ _ _ _ _ _ _ => rfl) ?_
   refine oS (d := .val (.bool ([x89.1] == x90))) (fun _ => Want.bool rfl rfl rfl rfl rfl) (fun _ => rfl) (fun _ _ _ => rfl) (fun _ _ => OpR.pickT rfl (c102) rfl) (fun _ _ _ _ _ _ _ => rfl) ?_
   refine oS (d := .val (.bool ([x89.1] == x90))) (fun _ => Want.bool rfl rfl rfl rfl (by rw [(c101)]; rfl)) (fun _ => rfl) (fun _ _ _ => rfl) (fun _ _ => OpR.pickF rfl rfl rfl) (fun _ _ _ _ _ _ _ => rfl) ?_
   refine oS (d := .val (.bool ([x89.1] == x90))) (fun _ => Want.plain rfl) (fun _ => rfl) (fun _ _ _ => rfl) (fun _ _ => OpR.pickT rfl (c101) rfl) (fun _ _ _ _ _ _ _ => rfl) ?_
   refine oS (d := .val (.bool ([x89.1] == x90))) (fun _ => Want.plain rfl) (fun _ => rfl) (fun _ _ _ => rfl) (fun _ _ => OpR.pure rfl) (fun _ _ _ _ _ _ _ => rfl) ?_
   refine OpsS.cons' false (fun D env92 hA => OpS.no (Want.bool rfl rfl rfl rfl (by rw [(beq_eq_false_iff_ne.2 c103)]; rfl)) rfl rfl) (fun _ _ _ _ _ _ _ => rfl) ?_
   refine oS (d := .val (.bool false)) (fun _ => Want.plain rfl) (fun _ => rfl) (fun _ _ _ => rfl) (fun _ _ => OpR.pickF rfl (beq_eq_false_iff_ne.2 c103) rfl) (fun _ _ _ _ _ _ _ => rfl) ?_
   refine oS (d := .val (.bool false)) (fun _ => Want.plain rfl) (fun _ => rfl) (fun _ _ _ => rfl) (fun _ _ => OpR.pure rfl) (fun _ _ _ _ _ _ _ => rfl) ?_
   exact trivial
 obtain ⟨x104, hx104, ht91⟩ := bnd_some ht91
 refine T.drawS drawsX (fun env92 => [.val (.pointer (some ⟨(blk (vn w3 0)), 0, none⟩)), .agg [.val (.int .i64 a2.fAt), .val (.int .i64 a2.fN)], .val (.bool x93), .val (.pointer (some ⟨(blk (vn w55 0)), 0, none⟩)), .agg [.val (.int .i64 a2.fAt), .val (.int .i64 a2.fN)], .agg [.val (.int .i64 x94.fAt), .val (.int .i64 x94.fN)], .val (.bool x95), .val (.bool (x93 == x95)), .val (.bool (x93 == x95)), .val (.pointer (some ⟨(blk (vn w3 0)), 0, none⟩)), .agg [.val (.int .i64 a2.fAt), .val (.int .i64 a2.fN)], .val (vn (env92 11) 0), .val (.string (bs x97)), .val (.pointer (some ⟨(blk (vn w55 0)), 0, none⟩)), .agg [.val (.int .i64 a2.fAt), .val (.int .i64 a2.fN)], .agg [.val (.int .i64 x98.fAt), .val (.int .i64 x98.fN)], .val (.string (bs x99)), .val (.bool (x97 == x99)), .val (.bool (x97 == x99)), .val (.bool (x97 == x99)), .val (.bool x89.2), .val (.string (bs x90)), .val (.int .i64 (x90.length : Int)), .val (.bool ((x90.length : Int) == 1)), .val (.bool (x89.2 == ((x90.length : Int) == 1))), .val (.bool (x89.2 == ((x90.length : Int) == 1))), .val (.bool (x89.2 == ((x90.length : Int) == 1))), .val (.bool x89.2), .val (.bool (!x89.2)), .val (.bool (!x89.2)), .tup [], .tup [], .val (.bool false), .val (.bool false), .val (.bool x89.2), .val (.bool x89.2), .val (.int .u8 (x89.1.toNat : Int)), .sl 1 (List.map byteD [x89.1]), .val (.string (bs [x89.1])), .val (.string (bs x90)), .val (.bool ([x89.1] == x90)), .val (.bool ([x89.1] == x90)), .val (.bool ([x89.1] == x90)), .val (.bool ([x89.1] == x90)), .val (.bool ([x89.1] == x90)), .val (.bool x104), .val (.bool x104), .val (.bool x104)]) (fun D env92 => [.var (blk (vn w3 0)) [.val y65] 85, .var (blk (vn w55 0)) [.val (.string (bs u64.1))] 58, .row y65 (List.map byteD u64.2) 1 5] ++ bif D 11 then [.row (vn (env92 11) 0) (List.map byteD x97) 1 5] else []) [0, 0, 3, 0, 0, 23, 63, 127, 255, 511, 511, 2047, 4095, 511, 511, 20479, 61439, 131071, 262143, 524287, 1048575, 1048575, 3145727, 7340031, 16777215, 33554431, 67108863, 134217727, 268435455, 536870911, 1073741823, 2147483647, 4294967295, 8589934591, 17179869183, 34359738367, 68719476735, 137438953471, 274877906943, 68719476735, 1099511627775, 2199023255551, 4398046511103, 8796093022207, 17592186044415, 35184372088831, 70368744177663, 140737488355327] [5, 6, 7, 9, 13, 14, 15, 82, 83, 84, 85, 86, 87, 88, 89, 90, 91, 92, 93, 94, 95, 96, 97, 98, 99, 100, 101, 102, 103, 104, 105, 106, 107, 108, 109, 110, 111, 112, 113, 114, 115, 116, 117, 118, 119, 120, 121, 122, 123, 124, 125, 126, 127, 128, 129, 130, 131, 132, 133, 134, 135, 136, 137, 138, 139, 140] (fun env92 => [.var (blk (vn w3 0)) [.val y65] 85, .var (blk (vn w55 0)) [.val (.string (bs u64.1))] 58, .row y65 (List.map byteD u64.2) 1 5, .row (vn (env92 11) 0) (List.map byteD x97) 1 5]) (by decide +kernel) (by decide +kernel) (fun _ => rfl) (fun _ => rfl) ?_ (fun _ => rfl) (fun _ => rfl) ?_
 rotate_left
 · intro env92
   obtain rfl := Option.some.inj ht91
   exact ⟨_, Gst.trans (Gst.only [6] rfl) (Gst.pick [] rfl rfl), rfl⟩
 refine oS (d := .val (.pointer (some ⟨(blk (vn w3 0)), 0, none⟩))) (fun _ => Want.plain rfl) (fun _ => rfl) (fun _ _ _ => rfl) (fun _ _ => OpR.pure rfl) (fun _ _ _ _ _ _ _ => rfl) ?_
 refine oS (d := .agg [.val (.int .i64 a2.fAt), .val (.int .i64 a2.fN)]) (fun _ => Want.plain rfl) (fun _ => rfl) (fun _ _ _ => rfl) (fun _ _ => OpR.pure rfl) (fun _ _ _ _ _ _ _ => rfl) ?_
 refine OpsS.cons' true ?_ (fun _ _ _ _ _ _ _ => rfl) ?_
 · intro D env92 hA
   have e11 : D 11 = false := hA.no 11 _ rfl rfl
   exact OpS.yes (o0 := [.var (blk (vn w3 0)) [.val y65] 85, .var (blk (vn w55 0)) [.val (.string (bs u64.1))] 58, .row y65 (List.map byteD u64.2) 1 5]) (o1 := fun x => [.var (blk (vn w3 0)) [.val y65] 85, .var (blk (vn w55 0)) [.val (.string (bs u64.1))] 58, .row y65 (List.map byteD u64.2) 1 5]) (d := fun x => .val (.bool x93)) (Want.plain rfl) (by first | rfl | simp only [e11, cond_true, cond_false, List.cons_append, List.nil_append, List.append_nil]) (fun x => by first | rfl | simp only [ins_self, ins_ne D (show 2 ≠ 11 by decide), upd_self, upd_ne env92 x (show 2 ≠ 11 by decide), e11, cond_true, cond_false, List.cons_append, List.nil_append, List.append_nil]) (fun x => rfl) (OpR.call [0, 2] fn26 (arena_Arena_Right_c hx93) rfl rfl rfl (fun _ => rfl))
 refine oS (d := .val (.pointer (some ⟨(blk (vn w55 0)), 0, none⟩))) (fun _ => Want.plain rfl) (fun _ => rfl) (fun _ _ _ => rfl) (fun _ _ => OpR.pure rfl) (fun _ _ _ _ _ _ _ => rfl) ?_
 refine oS (d := .agg [.val (.int .i64 a2.fAt), .val (.int .i64 a2.fN)]) (fun _ => Want.plain rfl) (fun _ => rfl) (fun _ _ _ => rfl) (fun _ _ => OpR.pure rfl) (fun _ _ _ _ _ _ _ => rfl) ?_
 refine oS (d := .agg [.val (.int .i64 x94.fAt), .val (.int .i64 x94.fN)]) (fun _ => Want.plain rfl) (fun _ => rfl) (fun _ _ _ => rfl) (fun _ _ => OpR.call0 fn28 (law03_ours_c hx94) rfl) (fun _ _ _ _ _ _ _ => rfl) ?_
 refine OpsS.cons' true ?_ (fun _ _ _ _ _ _ _ => rfl) ?_
 · intro D env92 hA
   have e11 : D 11 = false := hA.no 11 _ rfl rfl
   exact OpS.yes (o0 := [.var (blk (vn w3 0)) [.val y65] 85, .var (blk (vn w55 0)) [.val (.string (bs u64.1))] 58, .row y65 (List.map byteD u64.2) 1 5]) (o1 := fun x => [.var (blk (vn w3 0)) [.val y65] 85, .var (blk (vn w55 0)) [.val (.string (bs u64.1))] 58, .row y65 (List.map byteD u64.2) 1 5]) (d := fun x => .val (.bool x95)) (Want.plain rfl) (by first | rfl | simp only [e11, cond_true, cond_false, List.cons_append, List.nil_append, List.append_nil]) (fun x => by first | rfl | simp only [ins_self, ins_ne D (show 6 ≠ 11 by decide), upd_self, upd_ne env92 x (show 6 ≠ 11 by decide), e11, cond_true, cond_false, List.cons_append, List.nil_append, List.append_nil]) (fun x => rfl) (OpR.call [1] fn27 (ref03_Arena_Right_c hx95) rfl rfl rfl (fun _ => rfl))
 refine oS (d := .val (.bool (x93 == x95))) (fun _ => Want.plain rfl) (fun _ => rfl) (fun _ _ _ => rfl) (fun _ _ => OpR.eqBool rfl rfl rfl rfl) (fun _ _ _ _ _ _ _ => rfl) ?_
 refine oS (d := .val (.bool (x93 == x95))) (fun _ => Want.plain rfl) (fun _ => rfl) (fun _ _ _ => rfl) (fun _ _ => OpR.pure rfl) (fun _ _ _ _ _ _ _ => rfl) ?_
 refine oS (d := .val (.pointer (some ⟨(blk (vn w3 0)), 0, none⟩))) (fun _ => Want.bool rfl rfl rfl rfl (by rw [(c96)]; rfl)) (fun _ => rfl) (fun _ _ _ => rfl) (fun _ _ => OpR.pure rfl) (fun _ _ _ _ _ _ _ => rfl) ?_
 refine oS (d := .agg [.val (.int .i64 a2.fAt), .val (.int .i64 a2.fN)]) (fun _ => Want.bool rfl rfl rfl rfl (by rw [(c96)]; rfl)) (fun _ => rfl) (fun _ _ _ => rfl) (fun _ _ => OpR.pure rfl) (fun _ _ _ _ _ _ _ => rfl) ?_
 refine OpsS.cons' true ?_ (fun D hA env92 x j hj hD => match j, hj, hD with | 0, _, _ => rfl | 1, _, _ => rfl | 2, _, _ => rfl | 3, _, _ => rfl | 4, _, _ => rfl | 5, _, _ => rfl | 6, _, _ => rfl | 7, _, _ => rfl | 8, _, _ => rfl | 9, _, _ => rfl | 10, _, _ => rfl | 11, hj, _ => absurd rfl hj | 12, _, _ => rfl | 13, _, _ => rfl | 14, _, _ => rfl | 15, _, _ => rfl | 16, _, _ => rfl | 17, _, _ => rfl | 18, _, _ => rfl | 19, _, _ => rfl | 20, _, _ => rfl | 21, _, _ => rfl | 22, _, _ => rfl | 23, _, _ => rfl | 24, _, _ => rfl | 25, _, _ => rfl | 26, _, _ => rfl | 27, _, _ => rfl | 28, _, _ => rfl | 29, _, _ => rfl | 30, _, _ => rfl | 31, _, _ => rfl | 32, _, _ => rfl | 33, _, _ => rfl | 34, _, _ => rfl | 35, _, _ => rfl | 36, _, _ => rfl | 37, _, _ => rfl | 38, _, _ => rfl | 39, _, _ => rfl | 40, _, _ => rfl | 41, _, _ => rfl | 42, _, _ => rfl | 43, _, _ => rfl | 44, _, _ => rfl | 45, _, _ => rfl | 46, _, _ => rfl | 47, _, _ => rfl | _ + 48, _, _ => rfl) ?_
 · intro D env92 hA
   exact OpS.yes (o0 := [.var (blk (vn w3 0)) [.val y65] 85, .var (blk (vn w55 0)) [.val (.string (bs u64.1))] 58, .row y65 (List.map byteD u64.2) 1 5]) (o1 := fun x => [.var (blk (vn w3 0)) [.val y65] 85, .var (blk (vn w55 0)) [.val (.string (bs u64.1))] 58, .row y65 (List.map byteD u64.2) 1 5, .row (vn x 0) (List.map byteD x97) 1 5]) (d := fun x => .val (vn x 0)) (Want.bool rfl rfl rfl rfl (by rw [(c96)]; rfl)) (by first | rfl | simp only [hA.me, cond_true, cond_false, List.cons_append, List.nil_append, List.append_nil]) (fun x => by first | rfl | simp only [ins_self, upd_self, hA.me, cond_true, cond_false, List.cons_append, List.nil_append, List.append_nil]) (fun x => rfl) (OpR.call [0, 2] fn18 (arena_Arena_Bytes_c hx97) rfl rfl rfl (fun _ => rfl))
 refine OpsS.cons' true ?_ (fun _ _ _ _ _ _ _ => rfl) ?_
 · intro D env92 hA
   have e11 : D 11 = true := hA.yes 11 _ rfl rfl
   exact OpS.yes (o0 := [.var (blk (vn w3 0)) [.val y65] 85, .var (blk (vn w55 0)) [.val (.string (bs u64.1))] 58, .row y65 (List.map byteD u64.2) 1 5, .row (vn (env92 11) 0) (List.map byteD x97) 1 5]) (o1 := fun x => [.var (blk (vn w3 0)) [.val y65] 85, .var (blk (vn w55 0)) [.val (.string (bs u64.1))] 58, .row y65 (List.map byteD u64.2) 1 5, .row (vn (env92 11) 0) (List.map byteD x97) 1 5]) (d := fun x => .val (.string (bs x97))) (Want.bool rfl rfl rfl rfl (by rw [(c96)]; rfl)) (by first | rfl | simp only [e11, cond_true, cond_false, List.cons_append, List.nil_append, List.append_nil]) (fun x => by first | rfl | simp only [ins_self, ins_ne D (show 12 ≠ 11 by decide), upd_self, upd_ne env92 x (show 12 ≠ 11 by decide), e11, cond_true, cond_false, List.cons_append, List.nil_append, List.append_nil]) (fun x => rfl) (OpR.toStrF (l := x97) (Src.row 3 rfl rfl) rfl rfl rfl rfl rfl rfl)
 refine oS (d := .val (.pointer (some ⟨(blk (vn w55 0)), 0, none⟩))) (fun _ => Want.bool rfl rfl rfl rfl (by rw [(c96)]; rfl)) (fun _ => rfl) (fun _ _ _ => rfl) (fun _ _ => OpR.pure rfl) (fun _ _ _ _ _ _ _ => rfl) ?_
 refine oS (d := .agg [.val (.int .i64 a2.fAt), .val (.int .i64 a2.fN)]) (fun _ => Want.bool rfl rfl rfl rfl (by rw [(c96)]; rfl)) (fun _ => rfl) (fun _ _ _ => rfl) (fun _ _ => OpR.pure rfl) (fun _ _ _ _ _ _ _ => rfl) ?_
 refine oS (d := .agg [.val (.int .i64 x98.fAt), .val (.int .i64 x98.fN)]) (fun _ => Want.bool rfl rfl rfl rfl (by rw [(c96)]; rfl)) (fun _ => rfl) (fun _ _ _ => rfl) (fun _ _ => OpR.call0 fn28 (law03_ours_c hx98) rfl) (fun _ _ _ _ _ _ _ => rfl) ?_
 refine OpsS.cons' true ?_ (fun _ _ _ _ _ _ _ => rfl) ?_
 · intro D env92 hA
   have e11 : D 11 = true := hA.yes 11 _ rfl rfl
   exact OpS.yes (o0 := [.var (blk (vn w3 0)) [.val y65] 85, .var (blk (vn w55 0)) [.val (.string (bs u64.1))] 58, .row y65 (List.map byteD u64.2) 1 5, .row (vn (env92 11) 0) (List.map byteD x97) 1 5]) (o1 := fun x => [.var (blk (vn w3 0)) [.val y65] 85, .var (blk (vn w55 0)) [.val (.string (bs u64.1))] 58, .row y65 (List.map byteD u64.2) 1 5, .row (vn (env92 11) 0) (List.map byteD x97) 1 5]) (d := fun x => .val (.string (bs x99))) (Want.bool rfl rfl rfl rfl (by rw [(c96)]; rfl)) (by first | rfl | simp only [e11, cond_true, cond_false, List.cons_append, List.nil_append, List.append_nil]) (fun x => by first | rfl | simp only [ins_self, ins_ne D (show 16 ≠ 11 by decide), upd_self, upd_ne env92 x (show 16 ≠ 11 by decide), e11, cond_true, cond_false, List.cons_append, List.nil_append, List.append_nil]) (fun x => rfl) (OpR.call [1] fn25 (ref03_Arena_Bytes_c hx99) rfl rfl rfl (fun _ => rfl))
 refine oS (d := .val (.bool (x97 == x99))) (fun _ => Want.bool rfl rfl rfl rfl (by rw [(c96)]; rfl)) (fun _ => rfl) (fun _ _ _ => rfl) (fun _ _ => OpR.cast (OpR.pure rfl) (boolE (strEq _ _))) (fun _ _ _ _ _ _ _ => rfl) ?_
 refine oS (d := .val (.bool (x97 == x99))) (fun _ => Want.plain rfl) (fun _ => rfl) (fun _ _ _ => rfl) (fun _ _ => OpR.pickT rfl (c96) rfl) (fun _ _ _ _ _ _ _ => rfl) ?_
 refine oS (d := .val (.bool (x97 == x99))) (fun _ => Want.plain rfl) (fun _ => rfl) (fun _ _ _ => rfl) (fun _ _ => OpR.pure rfl) (fun _ _ _ _ _ _ _ => rfl) ?_
 refine oS (d := .val (.bool x89.2)) (fun _ => Want.bool rfl rfl rfl rfl (by rw [(beq_iff_eq.2 c100)]; rfl)) (fun _ => rfl) (fun _ _ _ => rfl) (fun _ _ => OpR.pure rfl) (fun _ _ _ _ _ _ _ => rfl) ?_
 refine oS (d := .val (.string (bs x90))) (fun _ => Want.bool rfl rfl rfl rfl (by rw [(beq_iff_eq.2 c100)]; rfl)) (fun _ => rfl) (fun _ _ _ => rfl) (fun _ _ => OpR.pure rfl) (fun _ _ _ _ _ _ _ => rfl) ?_
 refine oS (d := .val (.int .i64 (x90.length : Int))) (fun _ => Want.bool rfl rfl rfl rfl (by rw [(beq_iff_eq.2 c100)]; rfl)) (fun _ => rfl) (fun _ _ _ => rfl) (fun _ _ => OpR.cast (OpR.pure rfl) (intE (lenS _))) (fun _ _ _ _ _ _ _ => rfl) ?_
 refine oS (d := .val (.bool ((x90.length : Int) == 1))) (fun _ => Want.bool rfl rfl rfl rfl (by rw [(beq_iff_eq.2 c100)]; rfl)) (fun _ => rfl) (fun _ _ _ => rfl) (fun _ _ => OpR.pure rfl) (fun _ _ _ _ _ _ _ => rfl) ?_
 refine oS (d := .val (.bool (x89.2 == ((x90.length : Int) == 1)))) (fun _ => Want.bool rfl rfl rfl rfl (by rw [(beq_iff_eq.2 c100)]; rfl)) (fun _ => rfl) (fun _ _ _ => rfl) (fun _ _ => OpR.eqBool rfl rfl rfl rfl) (fun _ _ _ _ _ _ _ => rfl) ?_
 refine oS (d := .val (.bool (x89.2 == ((x90.length : Int) == 1)))) (fun _ => Want.plain rfl) (fun _ => rfl) (fun _ _ _ => rfl) (fun _ _ => OpR.pickT rfl (beq_iff_eq.2 c100) rfl) (fun _ _ _ _ _ _ _ => rfl) ?_
 refine oS (d := .val (.bool (x89.2 == ((x90.length : Int) == 1)))) (fun _ => Want.plain rfl) (fun _ => rfl) (fun _ _ _ => rfl) (fun _ _ => OpR.pure rfl) (fun _ _ _ _ _ _ _ => rfl) ?_
 refine oS (d := .val (.bool x89.2)) (fun _ => Want.bool rfl rfl rfl rfl (by rw [(c101)]; rfl)) (fun _ => rfl) (fun _ _ _ => rfl) (fun _ _ => OpR.pure rfl) (fun _ _ _ _ _ _ _ => rfl) ?_
 refine oS (d := .val (.bool (!x89.2))) (fun _ => Want.bool rfl rfl rfl rfl (by rw [(c101)]; rfl)) (fun _ => rfl) (fun _ _ _ => rfl) (fun _ _ => OpR.pure rfl) (fun _ _ _ _ _ _ _ => rfl) ?_
 refine oS (d := .val (.bool (!x89.2))) (fun _ => Want.bool rfl rfl rfl rfl (by rw [(c101)]; rfl)) (fun _ => rfl) (fun _ _ _ => rfl) (fun _ _ => OpR.pure rfl) (fun _ _ _ _ _ _ _ => rfl) ?_
 refine OpsS.cons' false (fun D env92 hA => OpS.no (Want.bool rfl rfl rfl rfl (by rw [(not_t (c102))]; rfl)) rfl rfl) (fun _ _ _ _ _ _ _ => rfl) ?_
 refine OpsS.cons' false (fun D env92 hA => OpS.no (Want.bool rfl rfl rfl rfl (by rw [(not_t (c102))]; rfl)) rfl rfl) (fun _ _ _ _ _ _ _ => rfl) ?_
 refine oS (d := .val (.bool false)) (fun _ => Want.bool rfl rfl rfl rfl (by rw [(c101)]; rfl)) (fun _ => rfl) (fun _ _ _ => rfl) (fun _ _ => OpR.pickF rfl (not_t (c102)) rfl) (fun _ _ _ _ _ _ _ => rfl) ?_
 refine oS (d := .val (.bool false)) (fun _ => Want.bool rfl rfl rfl rfl (by rw [(c101)]; rfl)) (fun _ => rfl) (fun _ _ _ => rfl) (fun _ _ => OpR.pure rfl) (fun _ _ _ _ _ _ _ => rfl) ?_
 refine oS (d := .val (.bool x89.2)) (fun _ => Want.bool rfl rfl rfl rfl rfl) (fun _ => rfl) (fun _ _ _ => rfl) (fun _ _ => OpR.pure rfl) (fun _ _ _ _ _ _ _ => rfl) ?_
 refine oS (d := .val (.bool x89.2)) (fun _ => Want.bool rfl rfl rfl rfl rfl) (fun _ => rfl) (fun _ _ _ => rfl) (fun _ _ => OpR.pure rfl) (fun _ _ _ _ _ _ _ => rfl) ?_
 refine oS (d := .val (.int .u8 (x89.1.toNat : Int))) (fun _ => Want.bool rfl rfl rfl rfl (by rw [(c102)]; rfl)) (fun _ => rfl) (fun _ _ _ => rfl) (fun _ _ => OpR.pure rfl) (fun _ _ _ _ _ _ _ => rfl) ?_
 refine oS (d := .sl 1 (List.map byteD [x89.1])) (fun _ => Want.bool rfl rfl rfl rfl (by rw [(c102)]; rfl)) (fun _ => rfl) (fun _ _ _ => rfl) (fun _ _ => OpR.lit rfl rfl rfl rfl rfl rfl rfl) (fun _ _ _ _ _ _ _ => rfl) ?_
 refine oS (d := .val (.string (bs [x89.1]))) (fun _ => Want.bool rfl rfl rfl rfl (by rw [(c102)]; rfl)) (fun _ => rfl) (fun _ _ _ => rfl) (fun _ _ => OpR.toStr (bs := [x89.1]) rfl rfl rfl rfl rfl rfl rfl) (fun _ _ _ _ _ _ _ => rfl) ?_
 refine oS (d := .val (.string (bs x90))) (fun _ => Want.bool rfl rfl rfl rfl (by rw [(c102)]; rfl)) (fun _ => rfl) (fun _ _ _ => rfl) (fun _ _ => OpR.pure rfl) (fun _ _ _ _ _ _ _ => rfl) ?_
 refine oS (d := .val (.bool ([x89.1] == x90))) (fun _ => Want.bool rfl rfl rfl rfl (by rw [(c102)]; rfl)) (fun _ => rfl) (fun _ _ _ => rfl) (fun _ _ => OpR.cast (OpR.pure rfl) (boolE (strEq _ _))) (fun _ _ _ _ _ _ _ => rfl) ?_
 refine oS (d := .val (.bool ([x89.1] == x90))) (fun _ => Want.bool rfl rfl rfl rfl rfl) (fun _ => rfl) (fun _ _ _ => rfl) (fun _ _ => OpR.pickT rfl (c102) rfl) (fun _ _ _ _ _ _ _ => rfl) ?_
 refine oS (d := .val (.bool ([x89.1] == x90))) (fun _ => Want.bool rfl rfl rfl rfl (by rw [(c101)]; rfl)) (fun _ => rfl) (fun _ _ _ => rfl) (fun _ _ => OpR.pickF rfl rfl rfl) (fun _ _ _ _ _ _ _ => rfl) ?_
 refine oS (d := .val (.bool ([x89.1] == x90))) (fun _ => Want.plain rfl) (fun _ => rfl) (fun _ _ _ => rfl) (fun _ _ => OpR.pickT rfl (c101) rfl) (fun _ _ _ _ _ _ _ => rfl) ?_
 refine oS (d := .val (.bool ([x89.1] == x90))) (fun _ => Want.plain rfl) (fun _ => rfl) (fun _ _ _ => rfl) (fun _ _ => OpR.pure rfl) (fun _ _ _ _ _ _ _ => rfl) ?_
 refine oS (d := .val (.bool x104)) (fun _ => Want.bool rfl rfl rfl rfl (by rw [(beq_iff_eq.2 c103)]; rfl)) (fun _ => rfl) (fun _ _ _ => rfl) (fun _ _ => OpR.call0 fn20 (law03_awake_c hx104) rfl) (fun _ _ _ _ _ _ _ => rfl) ?_
 refine oS (d := .val (.bool x104)) (fun _ => Want.plain rfl) (fun _ => rfl) (fun _ _ _ => rfl) (fun _ _ => OpR.pickT rfl (beq_iff_eq.2 c103) rfl) (fun _ _ _ _ _ _ _ => rfl) ?_
 refine oS (d := .val (.bool x104)) (fun _ => Want.plain rfl) (fun _ => rfl) (fun _ _ _ => rfl) (fun _ _ => OpR.pure rfl) (fun _ _ _ _ _ _ _ => rfl) ?_
 exact trivial
end Go.Proofs.Ytlginjmkmfodmaa.S
