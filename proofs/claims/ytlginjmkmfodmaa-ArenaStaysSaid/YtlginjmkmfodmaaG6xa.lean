/- Printed by a program of this session's own (gen.py): Lean functions for Go functions, and the proofs that the Go code comes to their answers. -/
import Derived.Test.YtlginjmkmfodmaaG4xa
import Derived.Test.YtlginjmkmfodmaaG5xa
set_option linter.unusedVariables false
set_option linter.unusedSimpArgs false
namespace Go.Proofs.Ytlginjmkmfodmaa.S
open Go Go.Sm
attribute [local irreducible] T TL OpR CallT iter loop
noncomputable def law03_ArenaStays.l1 (x36 : (List UInt8)) (s39 : Int × (List UInt8)) : Option (Lp (Int × (List UInt8)) Unit) :=
  if s39.1 < (x36.length : Int) then
    bnd (idx s39.2 s39.1) fun x48 =>
    some (Lp.next (w64 (s39.1 + 1), (s39.2.set s39.1.toNat 0)))
  else
    some (Lp.done ())
noncomputable def law03_ArenaStays.l2 (a1 : List (List UInt8)) (s13 : Int × (List arena_Span) × (List (List UInt8)) × (List UInt8)) : Option (Lp (Int × (List arena_Span) × (List (List UInt8)) × (List UInt8)) (Ex ((List arena_Span) × (List (List UInt8)) × (List UInt8)) Bool)) :=
  if s13.1 < (a1.length : Int) then
    bnd (idx a1 s13.1) fun x22 =>
    if s13.1 ≥ 40 then
      some (Lp.done (Ex.brk (s13.2.1, s13.2.2.1, s13.2.2.2)))
    else
      bnd (law03_cut x22 900) fun x24 =>
      bnd (arena_Arena_Add x24 s13.2.2.2) fun x25 =>
      bnd (if x25.2.1 = 0 then
        bnd (app 16 s13.2.1 [x25.1]) fun x32 =>
        bnd (app 16 s13.2.2.1 [x24]) fun x34 =>
        some (x32, x34)
      else
        some (s13.2.1, s13.2.2.1) : Option ((List arena_Span) × (List (List UInt8)))) fun t28 =>
      bnd (arena_Arena_Bytes x25.1 x25.2.2) fun x36 =>
      bnd (loop (law03_ArenaStays.l1 x36) (0, x36) : Option Unit) fun t38 =>
      bnd (arena_Arena_Len x25.2.2) fun x49 =>
      if x49 > 16384 then
        some (Lp.done (Ex.ret false))
      else
        some (Lp.next (w64 (s13.1 + 1), t28.1, t28.2, x25.2.2))
  else
    some (Lp.done (Ex.brk (s13.2.1, s13.2.2.1, s13.2.2.2)))
noncomputable def law03_ArenaStays.l3 (u6 : (List arena_Span) × (List (List UInt8)) × (List UInt8)) (s53 : Int) : Option (Lp Int (Ex Unit Bool)) :=
  if s53 < (u6.1.length : Int) then
    bnd (idx u6.1 s53) fun x62 =>
    bnd (arena_Arena_Bytes x62 u6.2.2) fun x65 =>
    bnd (idx u6.2.1 s53) fun x66 =>
    if x65 = x66 then
      some (Lp.next (w64 (s53 + 1)))
    else
      some (Lp.done (Ex.ret false))
  else
    some (Lp.done (Ex.brk ()))
noncomputable def law03_ArenaStays (a0 : List UInt8) (a1 : List (List UInt8)) : Option Bool :=
  bnd (law03_cut a0 4096) fun x1 =>
  bnd (arena_New x1) fun x2 =>
  match x2 with
  | .inl x2 =>
      some false
  | .inr x2 =>
      if x2.1 = 0 then
        bnd (loop (law03_ArenaStays.l2 a1) (0, [], [], x2.2) : Option (Ex ((List arena_Span) × (List (List UInt8)) × (List UInt8)) Bool)) fun t5 => match t5 with
          | .brk u6 =>
            bnd (loop (law03_ArenaStays.l3 u6) 0 : Option (Ex Unit Bool)) fun t51 => match t51 with
              | .brk u52 =>
                bnd (law03_awake) fun x68 =>
                some x68
              | .ret u52 => some u52
          | .ret u6 => some u6
      else
        some false
set_option maxHeartbeats 4000000 in
theorem law03_ArenaStays_c {a0 : List UInt8} {a1 : List (List UInt8)} {res : Bool} (h0 : law03_ArenaStays a0 a1 = some res) : CallF X 5 [.val (.string (bs a0)), .sl 1 (List.map eS a1)] [] (fun x => .val (.bool res)) (fun x => []) := by
 unfold law03_ArenaStays at h0
 refine CallF.mkG (X := X) Try.func5 rfl rfl Try.ntmps5 rfl rfl ?_
 refine T.seq ?_
 refine T.region ?_
 refine TL.op1 (OpR.pure rfl) rfl ?_
 refine TL.nil ?_
 show T X _ _ _
 refine T.seq ?_
 refine T.region ?_
 refine TL.op1 (OpR.pure rfl) rfl ?_
 obtain ⟨x1, hx1, h0⟩ := bnd_some h0
 refine TL.op1 (OpR.call0 fn16 (law03_cut_c hx1) rfl) rfl ?_
 refine TL.op1 (OpR.toBytesM rfl rfl rfl rfl rfl rfl rfl) rfl ?_
 obtain ⟨x2, hx2, h0⟩ := bnd_some h0
 rcases x2 with x2 | x2
 · dsimp only at h0
   refine TL.op1 (OpR.call0 fn15 (arena_New_cx1 hx2) rfl) rfl ?_
   refine TL.op1 (OpR.pure rfl) rfl ?_
   refine TL.op1 (OpR.pure rfl) rfl ?_
   refine TL.op1 (OpR.pure rfl) rfl ?_
   refine TL.op1 (OpR.pure rfl) rfl ?_
   refine TL.op1 (OpR.pure rfl) rfl ?_
   refine TL.nil ?_
   show T X _ _ _
   refine T.seq ?_
   refine T.seq ?_
   refine T.region ?_
   refine TL.op1 (OpR.pure rfl) rfl ?_
   refine TL.op1 (OpR.ptrNil rfl rfl rfl) rfl ?_
   refine TL.op1 (OpR.pure rfl) rfl ?_
   refine TL.off rfl rfl rfl rfl rfl rfl rfl ?_
   refine TL.off rfl rfl rfl rfl rfl rfl rfl ?_
   refine TL.op1 (OpR.pickT rfl rfl rfl) rfl ?_
   refine TL.nil ?_
   show T X _ _ _
   refine T.condT rfl rfl ?_
   refine T.seq ?_
   refine T.region ?_
   refine TL.op1 (OpR.pure rfl) rfl ?_
   refine TL.nil ?_
   show T X _ _ _
   refine T.ret ?_
   obtain rfl := Option.some.inj h0
   exact PostG.retP (ks := []) (Gst.only [4] rfl) undef (ResL.cons (ResV.tmp rfl) ResL.nil) rfl rfl rfl rfl
 dsimp only at h0
 refine TL.op (OpR.call [] fn15 (arena_New_cx2 hx2) rfl rfl rfl (fun _ => rfl)) rfl (fun w3 => ?_)
 refine TL.op1 (OpR.pure rfl) rfl ?_
 refine TL.op1 (OpR.pure rfl) rfl ?_
 refine TL.op1 (OpR.pure rfl) rfl ?_
 refine TL.op1 (OpR.pure rfl) rfl ?_
 refine TL.op1 (OpR.pure rfl) rfl ?_
 refine TL.nil ?_
 show T X _ _ _
 refine T.seq ?_
 refine T.seq ?_
 refine T.region ?_
 refine TL.op1 (OpR.pure rfl) rfl ?_
 refine TL.op1 (OpR.ptrNil rfl rfl rfl) rfl ?_
 refine TL.op1 (OpR.pure rfl) rfl ?_
 refine TL.on rfl rfl rfl rfl rfl ?_
 refine TL.op1 (OpR.pure rfl) rfl ?_
 refine TL.on rfl rfl rfl rfl rfl ?_
 refine TL.op1 (OpR.pure rfl) rfl ?_
 refine TL.op1 (OpR.pickF rfl rfl rfl) rfl ?_
 refine TL.nil ?_
 show T X _ _ _
 rcases ite_some h0 with ⟨c4, h0⟩ | ⟨c4, h0⟩
 rotate_left
 · refine T.condT rfl (not_f (beq_eq_false_iff_ne.2 c4)) ?_
   refine T.seq ?_
   refine T.region ?_
   refine TL.op1 (OpR.pure rfl) rfl ?_
   refine TL.nil ?_
   show T X _ _ _
   refine T.ret ?_
   obtain rfl := Option.some.inj h0
   exact PostG.retP (ks := []) (Gst.trans (Gst.only [4] rfl) (Gst.pick [] rfl rfl)) undef (ResL.cons (ResV.tmp rfl) ResL.nil) rfl rfl rfl rfl
 refine T.condF rfl (not_t (beq_iff_eq.2 c4)) ?_
 refine T.skip ?_
 show T X _ _ _
 refine T.seq ?_
 refine T.region ?_
 refine TL.op1 (OpR.pure rfl) rfl ?_
 refine TL.nil ?_
 show T X _ _ _
 refine T.seq ?_
 refine T.region ?_
 refine TL.op1 (OpR.pure rfl) rfl ?_
 refine TL.nil ?_
 show T X _ _ _
 refine T.seq ?_
 refine T.seq ?_
 refine T.region ?_
 refine TL.op1 (OpR.pure rfl) rfl ?_
 refine TL.op1 (OpR.cast (OpR.pure rfl) (intE (lenM _ _))) rfl ?_
 refine TL.op1 (OpR.pure rfl) rfl ?_
 refine TL.nil ?_
 show T X _ _ _
 obtain ⟨t5, ht5, h0⟩ := bnd_some h0
 refine T.cutC (fun S' => ∃ u6, t5 = Ex.brk u6 ∧ ∃ y7 : Value, ∃ y8 : Value, ∃ y9 : Value, S' = ⟨[(8, .val y8), (7, .val y7), (5, .val (.pointer (some ⟨(blk (vn w3 0)), 0, none⟩))), (4, .val (.bool false))], [.var (blk (vn w3 0)) [.val y9] 85, .row y7 (List.map e_arena_Span u6.1) 2 44, .row y8 (List.map eS u6.2.1) 1 9, .row y9 (List.map byteD u6.2.2) 1 5], 92⟩) (fun _ h => h) ?_ ?_
 rotate_left
 · rintro _ ⟨u6, rfl, y7, y8, y9, rfl⟩
   show T X _ _ _
   refine T.seq ?_
   refine T.seq ?_
   refine T.region ?_
   refine TL.op1 (OpR.pure rfl) rfl ?_
   refine TL.op1 (OpR.rowLenM e_arena_Span 1 rfl rfl rfl rfl) rfl ?_
   refine TL.op1 (OpR.pure rfl) rfl ?_
   refine TL.nil ?_
   show T X _ _ _
   obtain ⟨t51, ht51, h0⟩ := bnd_some h0
   refine T.cutC (fun S' => ∃ u52, t51 = Ex.brk u52 ∧ S' = ⟨[(4, .val (.bool false))], [], 92⟩) (fun _ h => h) ?_ ?_
   rotate_left
   · rintro _ ⟨u52, rfl, rfl⟩
     show T X _ _ _
     refine T.seq ?_
     refine T.region ?_
     obtain ⟨x68, hx68, h0⟩ := bnd_some h0
     refine TL.op1 (OpR.call0 fn20 (law03_awake_c hx68) rfl) rfl ?_
     refine TL.op1 (OpR.pure rfl) rfl ?_
     refine TL.nil ?_
     show T X _ _ _
     refine T.ret ?_
     obtain rfl := Option.some.inj h0
     exact PostG.retP (ks := []) (Gst.only [4] rfl) undef (ResL.cons (ResV.tmp rfl) ResL.nil) rfl rfl rfl rfl
   refine T.block ?_
   obtain ⟨n54, n59⟩ := loop_some ht51
   refine T.loop (fun n S' => ∃ S'', Gst S' S'' ∧ ∃ s53 : Int, S'' = ⟨[(76, .val (.int .i64 s53)), (75, .val (.int .i64 (u6.1.length : Int))), (74, .val y7), (8, .val y8), (5, .val (.pointer (some ⟨(blk (vn w3 0)), 0, none⟩))), (4, .val (.bool false))], [.var (blk (vn w3 0)) [.val y9] 85, .row y8 (List.map eS u6.2.1) 1 9, .row y7 (List.map e_arena_Span u6.1) 2 44, .row y9 (List.map byteD u6.2.2) 1 5], 92⟩ ∧ iter (law03_ArenaStays.l3 u6) n s53 = some t51) n54 ?_ ?_
   · exact ⟨_, Gst.trans (Gst.only [4, 5, 8, 74, 75, 76] rfl) (Gst.pick [0, 2, 1, 3] rfl rfl), 0, rfl, n59⟩
   rintro n54 _ ⟨_, g, s53, rfl, i58⟩
   refine T.ghost g ?_
   obtain ⟨m55, q56, rfl, q57, i58⟩ := iter_succ i58
   unfold law03_ArenaStays.l3 at q57
   refine T.seq ?_
   refine T.region ?_
   refine TL.op1 (OpR.pure rfl) rfl ?_
   refine TL.nil ?_
   show T X _ _ _
   refine T.seq ?_
   rcases ite_some q57 with ⟨c61, q57⟩ | ⟨c61, q57⟩
   rotate_left
   · refine T.condF rfl (decide_eq_false c61) ?_
     refine T.exit ?_
     obtain rfl := Option.some.inj q57
     obtain rfl : _ = _ := i58
     exact ⟨_, Gst.trans (Gst.only [4] rfl) (Gst.pick [] rfl rfl), _, rfl, rfl⟩
   refine T.condT rfl (decide_eq_true c61) ?_
   refine T.skip ?_
   show T X _ _ _
   refine T.seq ?_
   refine T.block ?_
   refine T.seq ?_
   refine T.region ?_
   refine TL.op1 (OpR.pure rfl) rfl ?_
   obtain ⟨x62, hx62, q57⟩ := bnd_some q57
   refine TL.op1 (OpR.rowIndexM e_arena_Span 2 hx62 rfl rfl rfl rfl rfl rfl rfl) rfl ?_
   refine TL.op1 (OpR.rowLoad0M (j := s53) e_arena_Span 2 hx62 rfl rfl rfl rfl) rfl ?_
   refine TL.op (OpR.alloc rfl rfl (fun _ => rfl)) rfl (fun p63 => ?_)
   refine TL.op1 (OpR.pure rfl) rfl ?_
   refine TL.op0 (OpR.store 4 rfl rfl rfl rfl rfl rfl rfl rfl) ?_
   refine TL.nil ?_
   show T X _ _ _
   refine T.seq ?_
   obtain ⟨x65, hx65, q57⟩ := bnd_some q57
   obtain ⟨x66, hx66, q57⟩ := bnd_some q57
   refine T.drawS drawsX (fun env64 => [.val (.pointer (some ⟨(blk (vn w3 0)), 0, none⟩)), .agg [.val (.int .i64 x62.fAt), .val (.int .i64 x62.fN)], .val (vn (env64 2) 0), .val (.string (bs x65)), .val y8, .val (.int .i64 s53), .val (.pointer (some ⟨blk y8, s53.toNat * 1, none⟩)), .val (.string (bs x66)), .val (.bool (!(x65 == x66)))]) (fun D env64 => [.var (blk (vn w3 0)) [.val y9] 85, .row y8 (List.map eS u6.2.1) 1 9, .row y7 (List.map e_arena_Span u6.1) 2 44, .row y9 (List.map byteD u6.2.2) 1 5, .var (blk p63) [.val (.int .i64 x62.fAt), .val (.int .i64 x62.fN)] 44] ++ bif D 2 then [.row (vn (env64 2) 0) (List.map byteD x65) 1 5] else []) [0, 0, 3, 7, 0, 0, 48, 112, 255] [4, 5, 8, 15, 16, 74, 75, 76, 77, 78, 80, 81, 82, 83, 84, 85, 86, 88, 89] (fun env64 => [.var (blk (vn w3 0)) [.val y9] 85, .row y8 (List.map eS u6.2.1) 1 9, .row y7 (List.map e_arena_Span u6.1) 2 44, .row y9 (List.map byteD u6.2.2) 1 5, .var (blk p63) [.val (.int .i64 x62.fAt), .val (.int .i64 x62.fN)] 44, .row (vn (env64 2) 0) (List.map byteD x65) 1 5]) (by decide +kernel) (by decide +kernel) (fun _ => rfl) (fun _ => rfl) ?_ (fun _ => rfl) (fun _ => rfl) ?_
   rotate_left
   · intro env64
     show T X _ _ _
     rcases ite_some q57 with ⟨c67, q57⟩ | ⟨c67, q57⟩
     · refine T.condF rfl (not_t (beq_iff_eq.2 c67)) ?_
       refine T.skip ?_
       show T X _ _ _
       refine T.region ?_
       refine TL.op1 (OpR.pure rfl) rfl ?_
       refine TL.op1 (OpR.pure rfl) rfl ?_
       refine TL.nil ?_
       obtain rfl := Option.some.inj q57
       exact ⟨m55, Nat.lt_succ_self _, _, Gst.trans (Gst.only [4, 5, 8, 74, 75, 76] rfl) (Gst.pick [0, 1, 2, 3] rfl rfl), w64 (s53 + 1), rfl, i58⟩
     refine T.condT rfl (not_f (beq_eq_false_iff_ne.2 c67)) ?_
     refine T.seq ?_
     refine T.region ?_
     refine TL.op1 (OpR.pure rfl) rfl ?_
     refine TL.nil ?_
     show T X _ _ _
     refine T.ret ?_
     obtain rfl := Option.some.inj q57
     obtain rfl : _ = _ := i58
     obtain rfl := Option.some.inj h0
     exact PostG.retP (ks := []) (Gst.trans (Gst.only [4] rfl) (Gst.pick [] rfl rfl)) undef (ResL.cons (ResV.tmp rfl) ResL.nil) rfl rfl rfl rfl
   refine oS (d := .val (.pointer (some ⟨(blk (vn w3 0)), 0, none⟩))) (fun _ => Want.plain rfl) (fun _ => rfl) (fun _ _ _ => rfl) (fun _ _ => OpR.pure rfl) (fun _ _ _ _ _ _ _ => rfl) ?_
   refine oS (d := .agg [.val (.int .i64 x62.fAt), .val (.int .i64 x62.fN)]) (fun _ => Want.plain rfl) (fun _ => rfl) (fun _ _ _ => rfl) (fun _ _ => OpR.loadPtr 4 rfl rfl rfl rfl) (fun _ _ _ _ _ _ _ => rfl) ?_
   refine OpsS.cons' true ?_ (fun D hA env64 x j hj hD => match j, hj, hD with | 0, _, _ => rfl | 1, _, _ => rfl | 2, hj, _ => absurd rfl hj | 3, _, _ => rfl | 4, _, _ => rfl | 5, _, _ => rfl | 6, _, _ => rfl | 7, _, _ => rfl | 8, _, _ => rfl | _ + 9, _, _ => rfl) ?_
   · intro D env64 hA
     exact OpS.yes (o0 := [.var (blk (vn w3 0)) [.val y9] 85, .row y8 (List.map eS u6.2.1) 1 9, .row y7 (List.map e_arena_Span u6.1) 2 44, .row y9 (List.map byteD u6.2.2) 1 5, .var (blk p63) [.val (.int .i64 x62.fAt), .val (.int .i64 x62.fN)] 44]) (o1 := fun x => [.var (blk (vn w3 0)) [.val y9] 85, .row y8 (List.map eS u6.2.1) 1 9, .row y7 (List.map e_arena_Span u6.1) 2 44, .row y9 (List.map byteD u6.2.2) 1 5, .var (blk p63) [.val (.int .i64 x62.fAt), .val (.int .i64 x62.fN)] 44, .row (vn x 0) (List.map byteD x65) 1 5]) (d := fun x => .val (vn x 0)) (Want.plain rfl) (by first | rfl | simp only [hA.me, cond_true, cond_false, List.cons_append, List.nil_append, List.append_nil]) (fun x => by first | rfl | simp only [ins_self, upd_self, hA.me, cond_true, cond_false, List.cons_append, List.nil_append, List.append_nil]) (fun x => rfl) (OpR.call [0, 3] fn18 (arena_Arena_Bytes_c hx65) rfl rfl rfl (fun _ => rfl))
   refine OpsS.cons' true ?_ (fun _ _ _ _ _ _ _ => rfl) ?_
   · intro D env64 hA
     have e2 : D 2 = true := hA.yes 2 _ rfl rfl
     exact OpS.yes (o0 := [.var (blk (vn w3 0)) [.val y9] 85, .row y8 (List.map eS u6.2.1) 1 9, .row y7 (List.map e_arena_Span u6.1) 2 44, .row y9 (List.map byteD u6.2.2) 1 5, .var (blk p63) [.val (.int .i64 x62.fAt), .val (.int .i64 x62.fN)] 44, .row (vn (env64 2) 0) (List.map byteD x65) 1 5]) (o1 := fun x => [.var (blk (vn w3 0)) [.val y9] 85, .row y8 (List.map eS u6.2.1) 1 9, .row y7 (List.map e_arena_Span u6.1) 2 44, .row y9 (List.map byteD u6.2.2) 1 5, .var (blk p63) [.val (.int .i64 x62.fAt), .val (.int .i64 x62.fN)] 44, .row (vn (env64 2) 0) (List.map byteD x65) 1 5]) (d := fun x => .val (.string (bs x65))) (Want.plain rfl) (by first | rfl | simp only [e2, cond_true, cond_false, List.cons_append, List.nil_append, List.append_nil]) (fun x => by first | rfl | simp only [ins_self, ins_ne D (show 3 ≠ 2 by decide), upd_self, upd_ne env64 x (show 3 ≠ 2 by decide), e2, cond_true, cond_false, List.cons_append, List.nil_append, List.append_nil]) (fun x => rfl) (OpR.toStrF (l := x65) (Src.row 5 rfl rfl) rfl rfl rfl rfl rfl rfl)
   refine oS (d := .val y8) (fun _ => Want.plain rfl) (fun _ => rfl) (fun _ _ _ => rfl) (fun _ _ => OpR.pure rfl) (fun _ _ _ _ _ _ _ => rfl) ?_
   refine oS (d := .val (.int .i64 s53)) (fun _ => Want.plain rfl) (fun _ => rfl) (fun _ _ _ => rfl) (fun _ _ => OpR.pure rfl) (fun _ _ _ _ _ _ _ => rfl) ?_
   refine oS (d := .val (.pointer (some ⟨blk y8, s53.toNat * 1, none⟩))) (fun _ => Want.plain rfl) (fun _ => rfl) (fun _ _ _ => rfl) (fun _ _ => OpR.rowIndexM eS 1 hx66 rfl rfl rfl rfl rfl rfl rfl) (fun _ _ _ _ _ _ _ => rfl) ?_
   refine oS (d := .val (.string (bs x66))) (fun _ => Want.plain rfl) (fun _ => rfl) (fun _ _ _ => rfl) (fun _ _ => OpR.rowLoad0M (j := s53) eS 1 hx66 rfl rfl rfl rfl) (fun _ _ _ _ _ _ _ => rfl) ?_
   refine oS (d := .val (.bool (!(x65 == x66)))) (fun _ => Want.plain rfl) (fun _ => rfl) (fun _ _ _ => rfl) (fun _ _ => OpR.cast (OpR.pure rfl) (boolE (strNe _ _))) (fun _ _ _ _ _ _ _ => rfl) ?_
   exact trivial
 refine T.block ?_
 obtain ⟨n14, n19⟩ := loop_some ht5
 refine T.loop (fun n S' => ∃ S'', Gst S' S'' ∧ ∃ y10 : Value, ∃ y11 : Value, ∃ y12 : Value, ∃ s13 : Int × (List arena_Span) × (List (List UInt8)) × (List UInt8), S'' = ⟨[(32, .val (.int .i64 s13.1)), (31, .val (.int .i64 (a1.length : Int))), (30, .sl 1 (List.map eS a1)), (8, .val y11), (7, .val y10), (5, .val (.pointer (some ⟨(blk (vn w3 0)), 0, none⟩))), (4, .val (.bool false))], [.var (blk (vn w3 0)) [.val y12] 85, .row y10 (List.map e_arena_Span s13.2.1) 2 44, .row y11 (List.map eS s13.2.2.1) 1 9, .row y12 (List.map byteD s13.2.2.2) 1 5], 92⟩ ∧ iter (law03_ArenaStays.l2 a1) n s13 = some t5) n14 ?_ ?_
 · exact ⟨_, Gst.trans (Gst.only [4, 5, 7, 8, 30, 31, 32] rfl) (Gst.trans (Gst.nilRow (ow := [.var (blk (vn w3 0)) [.val (vn w3 1)] 85, .row (vn w3 1) (List.map byteD x2.2) 1 5]) 2 44 rfl) (Gst.trans (Gst.nilRow (ow := [.var (blk (vn w3 0)) [.val (vn w3 1)] 85, .row (vn w3 1) (List.map byteD x2.2) 1 5, .row (.slice none 0 0) (List.map e_arena_Span []) 2 44]) 1 9 rfl) (Gst.pick [0, 2, 3, 1] rfl rfl))), (.slice none 0 0), (.slice none 0 0), (vn w3 1), (0, [], [], x2.2), rfl, n19⟩
 rintro n14 _ ⟨_, g, y10, y11, y12, s13, rfl, i18⟩
 refine T.ghost g ?_
 obtain ⟨m15, q16, rfl, q17, i18⟩ := iter_succ i18
 unfold law03_ArenaStays.l2 at q17
 refine T.seq ?_
 refine T.region ?_
 refine TL.op1 (OpR.pure rfl) rfl ?_
 refine TL.nil ?_
 show T X _ _ _
 refine T.seq ?_
 rcases ite_some q17 with ⟨c21, q17⟩ | ⟨c21, q17⟩
 rotate_left
 · refine T.condF rfl (decide_eq_false c21) ?_
   refine T.exit ?_
   obtain rfl := Option.some.inj q17
   obtain rfl : _ = _ := i18
   exact ⟨_, Gst.only [4, 5, 7, 8] rfl, _, rfl, y10, y11, y12, rfl⟩
 refine T.condT rfl (decide_eq_true c21) ?_
 refine T.skip ?_
 show T X _ _ _
 refine T.seq ?_
 refine T.block ?_
 refine T.seq ?_
 refine T.region ?_
 refine TL.op1 (OpR.pure rfl) rfl ?_
 obtain ⟨x22, hx22, q17⟩ := bnd_some q17
 refine TL.op1 (OpR.indexM eS hx22 rfl rfl rfl rfl rfl) rfl ?_
 refine TL.op1 (OpR.pure rfl) rfl ?_
 refine TL.op1 (OpR.pure rfl) rfl ?_
 refine TL.op1 (OpR.pure rfl) rfl ?_
 refine TL.nil ?_
 show T X _ _ _
 refine T.seq ?_
 refine T.seq ?_
 refine T.region ?_
 refine TL.op1 (OpR.pure rfl) rfl ?_
 refine TL.op1 (OpR.pure rfl) rfl ?_
 refine TL.nil ?_
 show T X _ _ _
 rcases ite_some q17 with ⟨c23, q17⟩ | ⟨c23, q17⟩
 · refine T.condT rfl (decide_eq_true c23) ?_
   refine T.exit ?_
   obtain rfl := Option.some.inj q17
   obtain rfl : _ = _ := i18
   exact ⟨_, Gst.only [4, 5, 7, 8] rfl, _, rfl, y10, y11, y12, rfl⟩
 refine T.condF rfl (decide_eq_false c23) ?_
 refine T.skip ?_
 show T X _ _ _
 refine T.seq ?_
 refine T.region ?_
 refine TL.op1 (OpR.pure rfl) rfl ?_
 obtain ⟨x24, hx24, q17⟩ := bnd_some q17
 refine TL.op1 (OpR.call0 fn16 (law03_cut_c hx24) rfl) rfl ?_
 refine TL.op1 (OpR.pure rfl) rfl ?_
 refine TL.nil ?_
 show T X _ _ _
 refine T.seq ?_
 refine T.region ?_
 refine TL.op1 (OpR.pure rfl) rfl ?_
 refine TL.op1 (OpR.pure rfl) rfl ?_
 refine TL.op1 (OpR.toBytesM rfl rfl rfl rfl rfl rfl rfl) rfl ?_
 obtain ⟨x25, hx25, q17⟩ := bnd_some q17
 refine TL.op (OpR.call [0, 3] fn17 (arena_Arena_Add_c hx25) rfl rfl rfl (fun _ => rfl)) rfl (fun w26 => ?_)
 refine TL.op1 (OpR.pure rfl) rfl ?_
 refine TL.op1 (OpR.pure rfl) rfl ?_
 refine TL.op1 (OpR.pure rfl) rfl ?_
 refine TL.op (OpR.alloc rfl rfl (fun _ => rfl)) rfl (fun p27 => ?_)
 refine TL.op0 (OpR.store 4 rfl rfl rfl rfl rfl rfl rfl rfl) ?_
 refine TL.op1 (OpR.pure rfl) rfl ?_
 refine TL.nil ?_
 show T X _ _ _
 refine T.seq ?_
 refine T.seq ?_
 refine T.region ?_
 refine TL.op1 (OpR.pure rfl) rfl ?_
 refine TL.op1 (OpR.pure rfl) rfl ?_
 refine TL.nil ?_
 show T X _ _ _
 obtain ⟨t28, ht28, q17⟩ := bnd_some q17
 refine T.cutC (fun S' => ∃ y29 : Value, ∃ y30 : Value, S' = ⟨[(32, .val (.int .i64 s13.1)), (31, .val (.int .i64 (a1.length : Int))), (30, .sl 1 (List.map eS a1)), (11, .val (.pointer (some ⟨(blk p27), 0, none⟩))), (8, .val y30), (7, .val y29), (5, .val (.pointer (some ⟨(blk (vn w3 0)), 0, none⟩))), (4, .val (.bool false))], [.var (blk (vn w3 0)) [.val (vn w26 0)] 85, .row y29 (List.map e_arena_Span t28.1) 2 44, .row y30 (List.map eS t28.2) 1 9, .var (blk p27) [.val (.int .i64 x25.1.fAt), .val (.int .i64 x25.1.fN)] 44, .row (vn w26 0) (List.map byteD x25.2.2) 1 5], 92⟩) (fun _ h => h) ?_ ?_
 · rcases ite_some ht28 with ⟨c31, ht28⟩ | ⟨c31, ht28⟩
   rotate_left
   · refine T.condF rfl (beq_eq_false_iff_ne.2 c31) ?_
     refine T.skip ?_
     obtain rfl := Option.some.inj ht28
     exact ⟨_, Gst.trans (Gst.only [4, 5, 7, 8, 11, 30, 31, 32] rfl) (Gst.pick [0, 1, 2, 4, 3] rfl rfl), y10, y11, rfl⟩
   refine T.condT rfl (beq_iff_eq.2 c31) ?_
   refine T.seq ?_
   refine T.region ?_
   refine TL.op1 (OpR.pure rfl) rfl ?_
   refine TL.op1 (OpR.loadPtr 4 rfl rfl rfl rfl) rfl ?_
   refine TL.op1 (OpR.lit rfl rfl rfl rfl rfl rfl rfl) rfl ?_
   obtain ⟨x32, hx32, ht28⟩ := bnd_some ht28
   refine TL.op (OpR.appendM (m := [x25.1]) e_arena_Span 1 hx32 rfl rfl rfl rfl rfl rfl rfl rfl rfl (fun _ => rfl)) rfl (fun v33 => ?_)
   refine TL.op1 (OpR.pure rfl) rfl ?_
   refine TL.nil ?_
   show T X _ _ _
   refine T.region ?_
   refine TL.op1 (OpR.pure rfl) rfl ?_
   refine TL.op1 (OpR.pure rfl) rfl ?_
   refine TL.op1 (OpR.lit rfl rfl rfl rfl rfl rfl rfl) rfl ?_
   obtain ⟨x34, hx34, ht28⟩ := bnd_some ht28
   refine TL.op (OpR.appendM (m := [x24]) eS 2 hx34 rfl rfl rfl rfl rfl rfl rfl rfl rfl (fun _ => rfl)) rfl (fun v35 => ?_)
   refine TL.op1 (OpR.pure rfl) rfl ?_
   refine TL.nil ?_
   obtain rfl := Option.some.inj ht28
   exact ⟨_, Gst.trans (Gst.only [4, 5, 7, 8, 11, 30, 31, 32] rfl) (Gst.pick [0, 1, 2, 4, 3] rfl rfl), v33, v35, rfl⟩
 rintro _ ⟨y29, y30, rfl⟩
 show T X _ _ _
 refine T.seq ?_
 refine T.region ?_
 refine TL.op1 (OpR.pure rfl) rfl ?_
 refine TL.op1 (OpR.loadPtr 3 rfl rfl rfl rfl) rfl ?_
 obtain ⟨x36, hx36, q17⟩ := bnd_some q17
 refine TL.op (OpR.call [0, 4] fn18 (arena_Arena_Bytes_c hx36) rfl rfl rfl (fun _ => rfl)) rfl (fun w37 => ?_)
 refine TL.op1 (OpR.pure rfl) rfl ?_
 refine TL.nil ?_
 show T X _ _ _
 refine T.seq ?_
 refine T.seq ?_
 refine T.region ?_
 refine TL.op1 (OpR.pure rfl) rfl ?_
 refine TL.op1 (OpR.rowLenM byteD 5 rfl rfl rfl rfl) rfl ?_
 refine TL.op1 (OpR.pure rfl) rfl ?_
 refine TL.nil ?_
 show T X _ _ _
 obtain ⟨t38, ht38, q17⟩ := bnd_some q17
 refine T.cutC (fun S' => S' = ⟨[(32, .val (.int .i64 s13.1)), (31, .val (.int .i64 (a1.length : Int))), (30, .sl 1 (List.map eS a1)), (8, .val y30), (7, .val y29), (5, .val (.pointer (some ⟨(blk (vn w3 0)), 0, none⟩))), (4, .val (.bool false))], [.var (blk (vn w3 0)) [.val (vn w26 0)] 85, .row y29 (List.map e_arena_Span t28.1) 2 44, .row y30 (List.map eS t28.2) 1 9, .row (vn w26 0) (List.map byteD x25.2.2) 1 5], 92⟩) (fun _ h => h) ?_ ?_
 rotate_left
 · rintro _ rfl
   show T X _ _ _
   refine T.seq ?_
   refine T.region ?_
   refine TL.op1 (OpR.pure rfl) rfl ?_
   obtain ⟨x49, hx49, q17⟩ := bnd_some q17
   refine TL.op1 (OpR.call [0, 3] fn19 (arena_Arena_Len_c hx49) rfl rfl rfl (fun _ => rfl)) rfl ?_
   refine TL.op1 (OpR.pure rfl) rfl ?_
   refine TL.nil ?_
   show T X _ _ _
   rcases ite_some q17 with ⟨c50, q17⟩ | ⟨c50, q17⟩
   rotate_left
   · refine T.condF rfl (decide_eq_false c50) ?_
     refine T.skip ?_
     show T X _ _ _
     refine T.region ?_
     refine TL.op1 (OpR.pure rfl) rfl ?_
     refine TL.op1 (OpR.pure rfl) rfl ?_
     refine TL.nil ?_
     obtain rfl := Option.some.inj q17
     exact ⟨m15, Nat.lt_succ_self _, _, Gst.only [4, 5, 7, 8, 30, 31, 32] rfl, y29, y30, (vn w26 0), (w64 (s13.1 + 1), t28.1, t28.2, x25.2.2), rfl, i18⟩
   refine T.condT rfl (decide_eq_true c50) ?_
   refine T.seq ?_
   refine T.region ?_
   refine TL.op1 (OpR.pure rfl) rfl ?_
   refine TL.nil ?_
   show T X _ _ _
   refine T.ret ?_
   obtain rfl := Option.some.inj q17
   obtain rfl : _ = _ := i18
   obtain rfl := Option.some.inj h0
   exact PostG.retP (ks := []) (Gst.trans (Gst.only [4] rfl) (Gst.pick [] rfl rfl)) undef (ResL.cons (ResV.tmp rfl) ResL.nil) rfl rfl rfl rfl
 refine T.block ?_
 obtain ⟨n40, n45⟩ := loop_some ht38
 refine T.loop (fun n S' => ∃ S'', Gst S' S'' ∧ ∃ s39 : Int × (List UInt8), S'' = ⟨[(63, .val (.int .i64 s39.1)), (62, .val (.int .i64 (x36.length : Int))), (32, .val (.int .i64 s13.1)), (31, .val (.int .i64 (a1.length : Int))), (30, .sl 1 (List.map eS a1)), (13, .val (vn w37 0)), (8, .val y30), (7, .val y29), (5, .val (.pointer (some ⟨(blk (vn w3 0)), 0, none⟩))), (4, .val (.bool false))], [.var (blk (vn w3 0)) [.val (vn w26 0)] 85, .row y29 (List.map e_arena_Span t28.1) 2 44, .row y30 (List.map eS t28.2) 1 9, .row (vn w37 0) (List.map byteD s39.2) 1 5, .row (vn w26 0) (List.map byteD x25.2.2) 1 5], 92⟩ ∧ iter (law03_ArenaStays.l1 x36) n s39 = some t38) n40 ?_ ?_
 · exact ⟨_, Gst.trans (Gst.only [4, 5, 7, 8, 13, 30, 31, 32, 62, 63] rfl) (Gst.pick [0, 1, 2, 5, 4] rfl rfl), (0, x36), rfl, n45⟩
 rintro n40 _ ⟨_, g, s39, rfl, i44⟩
 refine T.ghost g ?_
 obtain ⟨m41, q42, rfl, q43, i44⟩ := iter_succ i44
 unfold law03_ArenaStays.l1 at q43
 refine T.seq ?_
 refine T.region ?_
 refine TL.op1 (OpR.pure rfl) rfl ?_
 refine TL.nil ?_
 show T X _ _ _
 refine T.seq ?_
 rcases ite_some q43 with ⟨c47, q43⟩ | ⟨c47, q43⟩
 rotate_left
 · refine T.condF rfl (decide_eq_false c47) ?_
   refine T.exit ?_
   obtain rfl := Option.some.inj q43
   obtain rfl : _ = _ := i44
   exact ⟨_, Gst.trans (Gst.only [4, 5, 7, 8, 30, 31, 32] rfl) (Gst.pick [0, 1, 2, 4] rfl rfl), rfl⟩
 refine T.condT rfl (decide_eq_true c47) ?_
 refine T.skip ?_
 show T X _ _ _
 refine T.seq ?_
 refine T.block ?_
 refine T.seq ?_
 refine T.region ?_
 refine TL.op1 (OpR.pure rfl) rfl ?_
 refine TL.op1 (OpR.pure rfl) rfl ?_
 refine TL.nil ?_
 show T X _ _ _
 refine T.region ?_
 refine TL.op1 (OpR.pure rfl) rfl ?_
 refine TL.op1 (OpR.pure rfl) rfl ?_
 obtain ⟨x48, hx48, q43⟩ := bnd_some q43
 refine TL.op1 (OpR.rowIndexM byteD 3 hx48 rfl rfl rfl rfl rfl rfl rfl) rfl ?_
 refine TL.op0 (OpR.rowStore0M (j := s39.1) byteD 0 3 hx48 rfl rfl rfl rfl rfl rfl rfl rfl rfl) ?_
 refine TL.nil ?_
 show T X _ _ _
 refine T.region ?_
 refine TL.op1 (OpR.pure rfl) rfl ?_
 refine TL.op1 (OpR.pure rfl) rfl ?_
 refine TL.nil ?_
 obtain rfl := Option.some.inj q43
 exact ⟨m41, Nat.lt_succ_self _, _, Gst.only [4, 5, 7, 8, 13, 30, 31, 32, 62, 63] rfl, (w64 (s39.1 + 1), (s39.2.set s39.1.toNat 0)), rfl, i44⟩
end Go.Proofs.Ytlginjmkmfodmaa.S
